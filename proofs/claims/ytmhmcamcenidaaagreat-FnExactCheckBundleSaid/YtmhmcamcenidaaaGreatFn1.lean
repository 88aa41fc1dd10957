/- For each function the meaning that the evaluator gives it, proved, part 1. -/
import Derived.Test.YtmhmcamcenidaaaGreatEv4
import Derived.Lib.ItoaNum
import Derived.Shelf.Small.Strs
import Derived.Test.YtmhmcamcenidaaaGreatProg
set_option linter.unusedVariables false
set_option linter.unusedSimpArgs false
namespace Go.Ev
open Go.Proofs Go.Proofs.Tryz
noncomputable def TT:Tab:=⟨[(2,tI),
 (3,tI),
 (4,tB),
 (5,⟨false,1,0,1,[],[.pv (.int .u8 0)],some .u8,0,false⟩),
 (6,⟨false,1,0,1,[],[.pv (.int .u8 0)],some .u8,0,false⟩),
 (7,⟨true,4,0,24,[(0,2),(1,3),(2,4),(3,6)],[zI,zI,zB,.pv (.int .u8 0)],none,0,true⟩),
 (8,⟨true,4,0,24,[(0,2),(1,3),(2,4),(3,6)],[zI,zI,zB,.pv (.int .u8 0)],none,0,true⟩),
 (9,tS),
 (10,tS),
 (11,tS),
 (12,⟨false,1,0,8,[],[.pv (.int .u64 0)],some .u64,0,false⟩),
 (13,⟨true,2,0,24,[(0,9),(1,12)],[zS,.pv (.int .u64 0)],none,0,false⟩),
 (14,⟨true,2,0,24,[(0,9),(1,12)],[zS,.pv (.int .u64 0)],none,0,false⟩),
 (21,⟨false,1,0,4,[],[.pv (.int .i32 0)],some .i32,0,false⟩),
 (22,⟨false,1,9,24,[],[.nil 9 1],none,0,false⟩),
 (23,⟨false,1,219,24,[],[.nil 219 23],none,0,false⟩),
 (24,⟨true,3,0,56,[(0,3),(1,22),(2,23)],[zI,.nil 9 1,.nil 219 23],none,0,false⟩),
 (25,⟨true,3,0,56,[(0,3),(1,22),(2,23)],[zI,.nil 9 1,.nil 219 23],none,0,false⟩),
 (28,⟨false,1,221,24,[],[.nil 221 23],none,0,false⟩),
 (29,⟨true,3,0,56,[(0,3),(1,22),(2,28)],[zI,.nil 9 1,.nil 221 23],none,0,false⟩),
 (30,⟨true,3,0,56,[(0,3),(1,22),(2,28)],[zI,.nil 9 1,.nil 221 23],none,0,false⟩),
 (34,⟨false,1,131,24,[],[.nil 131 2],none,0,false⟩),
 (39,⟨false,1,136,24,[],[.nil 136 2],none,0,false⟩),
 (47,⟨false,1,75,24,[],[.nil 75 1],none,0,false⟩),
 (48,⟨false,1,243,24,[],[.nil 243 51],none,0,false⟩),
 (49,⟨true,2,0,48,[(0,47),(1,48)],[.nil 75 1,.nil 243 51],none,0,false⟩),
 (50,⟨true,2,0,48,[(0,47),(1,48)],[.nil 75 1,.nil 243 51],none,0,false⟩),
 (52,⟨false,1,90,24,[],[.nil 90 1],none,0,false⟩),
 (53,⟨false,1,259,24,[],[.nil 259 51],none,0,false⟩),
 (54,⟨true,2,0,48,[(0,52),(1,53)],[.nil 90 1,.nil 259 51],none,0,false⟩),
 (55,⟨true,2,0,48,[(0,52),(1,53)],[.nil 90 1,.nil 259 51],none,0,false⟩),
 (56,⟨true,4,0,56,[(0,9),(1,3),(2,3),(3,22)],[zS,zI,zI,.nil 9 1],none,0,false⟩),
 (57,⟨true,4,0,56,[(0,9),(1,3),(2,3),(3,22)],[zS,zI,zI,.nil 9 1],none,0,false⟩),
 (58,⟨false,1,3,24,[],[.nil 3 1],none,0,false⟩),
 (59,⟨true,9,0,144,[(0,55),(2,4),(3,57),(7,4),(8,58)],[.nil 90 1,.nil 259 51,zB,zS,zI,zI,.nil 9 1,zB,.nil 3 1],none,0,false⟩),
 (60,⟨true,9,0,144,[(0,55),(2,4),(3,57),(7,4),(8,58)],[.nil 90 1,.nil 259 51,zB,zS,zI,zI,.nil 9 1,zB,.nil 3 1],none,0,false⟩),
 (68,⟨false,1,264,24,[],[.nil 264 1],none,0,false⟩),
 (69,⟨false,1,78,24,[],[.nil 78 2],none,0,false⟩),
 (70,⟨false,1,267,24,[],[.nil 267 3],none,0,false⟩),
 (71,⟨true,1,0,24,[(0,23)],[.nil 219 23],none,0,false⟩),
 (72,⟨true,1,0,24,[(0,23)],[.nil 219 23],none,0,false⟩),
 (73,⟨true,8,0,176,[(0,3),(1,68),(2,69),(3,70),(4,34),(5,50),(7,72)],[zI,.nil 264 1,.nil 78 2,.nil 267 3,.nil 131 2,.nil 75 1,.nil 243 51,.nil 219 23],none,0,false⟩),
 (74,⟨true,8,0,176,[(0,3),(1,68),(2,69),(3,70),(4,34),(5,50),(7,72)],[zI,.nil 264 1,.nil 78 2,.nil 267 3,.nil 131 2,.nil 75 1,.nil 243 51,.nil 219 23],none,0,false⟩),
 (75,⟨false,1,241,24,[],[.nil 241 17],none,0,false⟩),
 (76,⟨false,1,202,24,[],[.nil 202 4],none,0,false⟩),
 (77,⟨true,2,0,48,[(0,75),(1,76)],[.nil 241 17,.nil 202 4],none,0,false⟩),
 (78,⟨true,2,0,48,[(0,75),(1,76)],[.nil 241 17,.nil 202 4],none,0,false⟩),
 (81,⟨false,1,195,24,[],[.nil 195 1],none,0,false⟩),
 (82,⟨false,1,93,24,[],[.nil 93 2],none,0,false⟩),
 (83,⟨false,1,197,24,[],[.nil 197 3],none,0,false⟩),
 (84,⟨true,1,0,24,[(0,28)],[.nil 221 23],none,0,false⟩),
 (85,⟨true,1,0,24,[(0,28)],[.nil 221 23],none,0,false⟩),
 (86,⟨true,8,0,176,[(0,3),(1,81),(2,82),(3,83),(4,39),(5,55),(7,85)],[zI,.nil 195 1,.nil 93 2,.nil 197 3,.nil 136 2,.nil 90 1,.nil 259 51,.nil 221 23],none,0,false⟩),
 (87,⟨true,8,0,176,[(0,3),(1,81),(2,82),(3,83),(4,39),(5,55),(7,85)],[zI,.nil 195 1,.nil 93 2,.nil 197 3,.nil 136 2,.nil 90 1,.nil 259 51,.nil 221 23],none,0,false⟩),
 (90,⟨false,1,257,24,[],[.nil 257 17],none,0,false⟩),
 (91,⟨false,1,57,24,[],[.nil 57 4],none,0,false⟩),
 (92,⟨true,2,0,48,[(0,90),(1,91)],[.nil 257 17,.nil 57 4],none,0,false⟩),
 (93,⟨true,2,0,48,[(0,90),(1,91)],[.nil 257 17,.nil 57 4],none,0,false⟩),
 (103,⟨true,9,0,144,[(0,55),(2,3),(3,57),(7,58),(8,3)],[.nil 90 1,.nil 259 51,zI,zS,zI,zI,.nil 9 1,.nil 3 1,zI],none,0,false⟩),
 (104,⟨true,9,0,144,[(0,55),(2,3),(3,57),(7,58),(8,3)],[.nil 90 1,.nil 259 51,zI,zS,zI,zI,.nil 9 1,.nil 3 1,zI],none,0,false⟩),
 (108,⟨true,2,0,32,[(0,58),(1,3)],[.nil 3 1,zI],none,0,false⟩),
 (109,⟨true,2,0,32,[(0,58),(1,3)],[.nil 3 1,zI],none,0,false⟩),
 (110,⟨true,16,0,176,[(0,3),(1,3),(2,3),(3,3),(4,3),(5,3),(6,3),(7,3),(8,109),(10,109),(12,3),(13,109),(15,4)],[zI,zI,zI,zI,zI,zI,zI,zI,.nil 3 1,zI,.nil 3 1,zI,zI,.nil 3 1,zI,zB],none,0,false⟩),
 (111,⟨true,16,0,176,[(0,3),(1,3),(2,3),(3,3),(4,3),(5,3),(6,3),(7,3),(8,109),(10,109),(12,3),(13,109),(15,4)],[zI,zI,zI,zI,zI,zI,zI,zI,.nil 3 1,zI,.nil 3 1,zI,zI,.nil 3 1,zI,zB],none,0,false⟩),
 (115,⟨true,2,0,32,[(0,58),(1,3)],[.nil 3 1,zI],none,0,false⟩),
 (116,⟨true,16,0,176,[(0,3),(1,3),(2,3),(3,3),(4,3),(5,3),(6,3),(7,3),(8,115),(10,115),(12,3),(13,115),(15,4)],[zI,zI,zI,zI,zI,zI,zI,zI,.nil 3 1,zI,.nil 3 1,zI,zI,.nil 3 1,zI,zB],none,0,false⟩),
 (117,⟨true,16,0,176,[(0,3),(1,3),(2,3),(3,3),(4,3),(5,3),(6,3),(7,3),(8,115),(10,115),(12,3),(13,115),(15,4)],[zI,zI,zI,zI,zI,zI,zI,zI,.nil 3 1,zI,.nil 3 1,zI,zI,.nil 3 1,zI,zB],none,0,false⟩),
 (130,⟨true,2,0,32,[(0,69),(1,3)],[.nil 78 2,zI],none,0,false⟩),
 (131,⟨true,2,0,32,[(0,69),(1,3)],[.nil 78 2,zI],none,0,false⟩),
 (132,⟨true,10,0,168,[(0,104),(9,85)],[.nil 90 1,.nil 259 51,zI,zS,zI,zI,.nil 9 1,.nil 3 1,zI,.nil 221 23],none,0,false⟩),
 (133,⟨true,10,0,168,[(0,104),(9,85)],[.nil 90 1,.nil 259 51,zI,zS,zI,zI,.nil 9 1,.nil 3 1,zI,.nil 221 23],none,0,false⟩),
 (135,⟨true,2,0,32,[(0,82),(1,3)],[.nil 93 2,zI],none,0,false⟩),
 (136,⟨true,2,0,32,[(0,82),(1,3)],[.nil 93 2,zI],none,0,false⟩),
 (144,⟨false,1,150,24,[],[.nil 150 21],none,0,false⟩),
 (145,⟨true,2,0,32,[(0,3),(1,58)],[zI,.nil 3 1],none,0,false⟩),
 (146,⟨true,2,0,32,[(0,3),(1,58)],[zI,.nil 3 1],none,0,false⟩),
 (147,⟨true,13,0,184,[(0,3),(1,57),(5,57),(9,146),(11,146)],[zI,zS,zI,zI,.nil 9 1,zS,zI,zI,.nil 9 1,zI,.nil 3 1,zI,.nil 3 1],none,0,false⟩),
 (148,⟨true,13,0,184,[(0,3),(1,57),(5,57),(9,146),(11,146)],[zI,zS,zI,zI,.nil 9 1,zS,zI,zI,.nil 9 1,zI,.nil 3 1,zI,.nil 3 1],none,0,false⟩),
 (149,⟨true,21,0,304,[(0,90),(1,4),(2,57),(6,146),(8,148)],[.nil 257 17,zB,zS,zI,zI,.nil 9 1,zI,.nil 3 1,zI,zS,zI,zI,.nil 9 1,zS,zI,zI,.nil 9 1,zI,.nil 3 1,zI,.nil 3 1],none,0,false⟩),
 (150,⟨true,21,0,304,[(0,90),(1,4),(2,57),(6,146),(8,148)],[.nil 257 17,zB,zS,zI,zI,.nil 9 1,zI,.nil 3 1,zI,zS,zI,zI,.nil 9 1,zS,zI,zI,.nil 9 1,zI,.nil 3 1,zI,.nil 3 1],none,0,false⟩),
 (154,⟨true,2,0,16,[(0,3),(1,3)],[zI,zI],none,0,true⟩),
 (155,⟨true,2,0,16,[(0,3),(1,3)],[zI,zI],none,0,true⟩),
 (194,⟨true,1,0,24,[(0,58)],[.nil 3 1],none,0,false⟩),
 (195,⟨true,1,0,24,[(0,58)],[.nil 3 1],none,0,false⟩),
 (196,⟨true,3,0,72,[(0,93),(2,58)],[.nil 257 17,.nil 57 4,.nil 3 1],none,0,false⟩),
 (197,⟨true,3,0,72,[(0,93),(2,58)],[.nil 257 17,.nil 57 4,.nil 3 1],none,0,false⟩),
 (202,⟨true,4,0,56,[(0,9),(1,3),(2,3),(3,22)],[zS,zI,zI,.nil 9 1],none,0,false⟩),
 (213,⟨true,2,0,32,[(0,3),(1,58)],[zI,.nil 3 1],none,0,false⟩),
 (214,⟨true,13,0,184,[(0,3),(1,202),(5,202),(9,213),(11,213)],[zI,zS,zI,zI,.nil 9 1,zS,zI,zI,.nil 9 1,zI,.nil 3 1,zI,.nil 3 1],none,0,false⟩),
 (215,⟨true,13,0,184,[(0,3),(1,202),(5,202),(9,213),(11,213)],[zI,zS,zI,zI,.nil 9 1,zS,zI,zI,.nil 9 1,zI,.nil 3 1,zI,.nil 3 1],none,0,false⟩),
 (216,⟨true,21,0,304,[(0,75),(1,4),(2,202),(6,213),(8,215)],[.nil 241 17,zB,zS,zI,zI,.nil 9 1,zI,.nil 3 1,zI,zS,zI,zI,.nil 9 1,zS,zI,zI,.nil 9 1,zI,.nil 3 1,zI,.nil 3 1],none,0,false⟩),
 (217,⟨true,21,0,304,[(0,75),(1,4),(2,202),(6,213),(8,215)],[.nil 241 17,zB,zS,zI,zI,.nil 9 1,zI,.nil 3 1,zI,zS,zI,zI,.nil 9 1,zS,zI,zI,.nil 9 1,zI,.nil 3 1,zI,.nil 3 1],none,0,false⟩),
 (218,⟨true,23,0,328,[(0,3),(1,9),(2,217)],[zI,zS,.nil 241 17,zB,zS,zI,zI,.nil 9 1,zI,.nil 3 1,zI,zS,zI,zI,.nil 9 1,zS,zI,zI,.nil 9 1,zI,.nil 3 1,zI,.nil 3 1],none,0,false⟩),
 (219,⟨true,23,0,328,[(0,3),(1,9),(2,217)],[zI,zS,.nil 241 17,zB,zS,zI,zI,.nil 9 1,zI,.nil 3 1,zI,zS,zI,zI,.nil 9 1,zS,zI,zI,.nil 9 1,zI,.nil 3 1,zI,.nil 3 1],none,0,false⟩),
 (220,⟨true,23,0,328,[(0,3),(1,9),(2,150)],[zI,zS,.nil 257 17,zB,zS,zI,zI,.nil 9 1,zI,.nil 3 1,zI,zS,zI,zI,.nil 9 1,zS,zI,zI,.nil 9 1,zI,.nil 3 1,zI,.nil 3 1],none,0,false⟩),
 (221,⟨true,23,0,328,[(0,3),(1,9),(2,150)],[zI,zS,.nil 257 17,zB,zS,zI,zI,.nil 9 1,zI,.nil 3 1,zI,zS,zI,zI,.nil 9 1,zS,zI,zI,.nil 9 1,zI,.nil 3 1,zI,.nil 3 1],none,0,false⟩),
 (237,⟨false,1,5,24,[],[.nil 5 1],none,2,false⟩),
 (239,⟨false,1,358,24,[],[.nil 358 2],none,0,false⟩),
 (240,⟨true,17,0,200,[(0,111),(16,239)],[zI,zI,zI,zI,zI,zI,zI,zI,.nil 3 1,zI,.nil 3 1,zI,zI,.nil 3 1,zI,zB,.nil 358 2],none,0,false⟩),
 (241,⟨true,17,0,200,[(0,111),(16,239)],[zI,zI,zI,zI,zI,zI,zI,zI,.nil 3 1,zI,.nil 3 1,zI,zI,.nil 3 1,zI,zB,.nil 358 2],none,0,false⟩),
 (242,⟨true,51,0,600,[(0,241),(17,241),(34,241)],[zI,zI,zI,zI,zI,zI,zI,zI,.nil 3 1,zI,.nil 3 1,zI,zI,.nil 3 1,zI,zB,.nil 358 2,zI,zI,zI,zI,zI,zI,zI,zI,.nil 3 1,zI,.nil 3 1,zI,zI,.nil 3 1,zI,zB,.nil 358 2,zI,zI,zI,zI,zI,zI,zI,zI,.nil 3 1,zI,.nil 3 1,zI,zI,.nil 3 1,zI,zB,.nil 358 2],none,0,false⟩),
 (243,⟨true,51,0,600,[(0,241),(17,241),(34,241)],[zI,zI,zI,zI,zI,zI,zI,zI,.nil 3 1,zI,.nil 3 1,zI,zI,.nil 3 1,zI,zB,.nil 358 2,zI,zI,zI,zI,zI,zI,zI,zI,.nil 3 1,zI,.nil 3 1,zI,zI,.nil 3 1,zI,zB,.nil 358 2,zI,zI,zI,zI,zI,zI,zI,zI,.nil 3 1,zI,.nil 3 1,zI,zI,.nil 3 1,zI,zB,.nil 358 2],none,0,false⟩),
 (255,⟨false,1,317,24,[],[.nil 317 2],none,0,false⟩),
 (256,⟨true,17,0,200,[(0,117),(16,255)],[zI,zI,zI,zI,zI,zI,zI,zI,.nil 3 1,zI,.nil 3 1,zI,zI,.nil 3 1,zI,zB,.nil 317 2],none,0,false⟩),
 (257,⟨true,17,0,200,[(0,117),(16,255)],[zI,zI,zI,zI,zI,zI,zI,zI,.nil 3 1,zI,.nil 3 1,zI,zI,.nil 3 1,zI,zB,.nil 317 2],none,0,false⟩),
 (258,⟨true,51,0,600,[(0,257),(17,257),(34,257)],[zI,zI,zI,zI,zI,zI,zI,zI,.nil 3 1,zI,.nil 3 1,zI,zI,.nil 3 1,zI,zB,.nil 317 2,zI,zI,zI,zI,zI,zI,zI,zI,.nil 3 1,zI,.nil 3 1,zI,zI,.nil 3 1,zI,zB,.nil 317 2,zI,zI,zI,zI,zI,zI,zI,zI,.nil 3 1,zI,.nil 3 1,zI,zI,.nil 3 1,zI,zB,.nil 317 2],none,0,false⟩),
 (259,⟨true,51,0,600,[(0,257),(17,257),(34,257)],[zI,zI,zI,zI,zI,zI,zI,zI,.nil 3 1,zI,.nil 3 1,zI,zI,.nil 3 1,zI,zB,.nil 317 2,zI,zI,zI,zI,zI,zI,zI,zI,.nil 3 1,zI,.nil 3 1,zI,zI,.nil 3 1,zI,zB,.nil 317 2,zI,zI,zI,zI,zI,zI,zI,zI,.nil 3 1,zI,.nil 3 1,zI,zI,.nil 3 1,zI,zB,.nil 317 2],none,0,false⟩),
 (264,⟨true,1,0,24,[(0,58)],[.nil 3 1],none,0,false⟩),
 (266,⟨true,3,0,72,[(0,78),(2,58)],[.nil 241 17,.nil 202 4,.nil 3 1],none,0,false⟩),
 (267,⟨true,3,0,72,[(0,78),(2,58)],[.nil 241 17,.nil 202 4,.nil 3 1],none,0,false⟩),
 (316,⟨true,2,0,16,[(0,3),(1,3)],[zI,zI],none,0,true⟩),
 (317,⟨true,2,0,16,[(0,3),(1,3)],[zI,zI],none,0,true⟩),
 (358,⟨true,2,0,16,[(0,3),(1,3)],[zI,zI],none,0,true⟩),
 (390,⟨false,1,58,24,[],[.nil 58 1],none,0,false⟩),
 (401,⟨false,1,0,4,[],[.pv (.int .u32 0)],some .u32,0,false⟩),
 (402,⟨false,1,0,1,[],[.pv (.int .u8 0)],some .u8,0,false⟩),
 (403,⟨false,1,0,1,[],[.pv (.int .u8 0)],some .u8,0,false⟩),
 (406,⟨false,1,0,4,[],[.pv (.int .i32 0)],some .i32,0,false⟩),
 (407,⟨false,1,0,4,[],[.pv (.int .i32 0)],some .i32,0,false⟩)],
 [(8,[.one (.sc)]),(10,[.one (.sc)]),(12,[.agg [.sc,.own true 9 1,.own true 221 23]]),(14,[.one (.sc)]),(16,[.one (.sc)]),(19,[.one (.own true 9 1)]),(22,[.one (.sc)]),(23,[.agg []]),(24,[.agg []]),(25,[.agg []]),(32,[.one (.sc)]),(33,[.agg []]),(34,[.agg []]),(44,[.agg []]),(45,[.agg []]),(49,[.agg [.pv,.pv,.sc,.sc,.sc,.sc,.pv,.pv,.sc]]),(50,[.agg [.own true 90 1,.own true 259 51,.sc,.sc,.sc,.sc,.own true 9 1,.own true 3 1,.sc]]),(51,[.one (.sc)]),(52,[.agg []]),(53,[.one (.sc)]),(54,[.one (.sc)]),(57,[.agg [.sc,.sc,.sc,.sc,.sc,.sc,.sc,.sc,.own true 3 1,.sc,.own true 3 1,.sc,.sc,.own true 3 1,.sc,.sc]]),(60,[.one (.sc)]),(62,[.agg []]),(63,[.agg []]),(64,[.one (.sc)]),(65,[.one (.own true 221 23)]),(67,[.one (.sc)]),(69,[.agg [.pv,.pv,.sc,.sc,.sc,.sc,.pv,.pv,.sc,.pv]]),(70,[.one (.own false 9 1)]),(72,[.agg [.own true 90 1,.own true 259 51,.sc,.sc,.sc,.sc,.own true 9 1,.own true 3 1,.sc,.own true 221 23]]),(73,[.one (.own true 9 1)]),(75,[.agg []]),(76,[.one (.sc)]),(77,[.agg []]),(78,[.one (.sc)]),(85,[.agg [.pv,.pv,.sc,.sc,.sc,.sc,.pv,.sc,.pv]]),(92,[.one (.sc)]),(93,[.one (.sc)]),(94,[.one (.sc)]),(95,[.one (.sc)]),(96,[.agg []]),(97,[.agg []]),(98,[.agg []]),(99,[.agg []]),(100,[.one (.sc)]),(101,[.one (.sc)]),(102,[.one (.sc)]),(107,[.one (.sc)]),(109,[.one (.sc)]),(110,[.one (.sc)]),(116,[.one (.own true 257 17)]),(123,[.one (.sc)]),(124,[.agg []]),(125,[.agg []]),(126,[.agg []]),(127,[.agg []]),(133,[.one (.sc)]),(136,[.agg [.pv,.pv,.sc,.sc,.sc,.sc,.pv,.pv,.sc]]),(137,[.agg [.own true 90 1,.own true 259 51,.sc,.sc,.sc,.sc,.own true 9 1,.own true 3 1,.sc]]),(138,[.one (.sc)]),(139,[.one (.sc)]),(142,[.agg [.own true 3 1,.sc]]),(143,[.agg [.sc,.sc,.sc,.own true 9 1]]),(145,[.one (.sc)]),(146,[.agg []]),(147,[.one (.sc)]),(148,[.agg [.sc,.sc,.own true 257 17,.sc,.sc,.sc,.sc,.own true 9 1,.sc,.own true 3 1,.sc,.sc,.sc,.sc,.own true 9 1,.sc,.sc,.sc,.own true 9 1,.sc,.own true 3 1,.sc,.own true 3 1]]),(149,[.one (.sc)]),(150,[.agg [.own false 90 1,.own false 259 51]]),(151,[.agg [.own false 221 23]]),(152,[.one (.sc)]),(153,[.agg [.pv,.sc,.sc,.sc,.sc,.pv,.sc,.pv,.sc,.sc,.sc,.sc,.pv,.sc,.sc,.sc,.pv,.sc,.pv,.sc,.pv]]),(154,[.one (.pv)]),(155,[.agg [.pv]]),(156,[.agg [.sc,.sc,.sc,.pv],.one (.sc)]),(157,[.one (.sc)]),(158,[.agg [.own true 221 23]]),(161,[.agg [.own true 257 17,.sc,.sc,.sc,.sc,.own true 9 1,.sc,.own true 3 1,.sc,.sc,.sc,.sc,.own true 9 1,.sc,.sc,.sc,.own true 9 1,.sc,.own true 3 1,.sc,.own true 3 1]]),(162,[.one (.own true 150 21)]),(163,[.agg [.own true 90 1,.own true 259 51,.sc,.sc,.sc,.sc,.own true 9 1,.sc,.own true 3 1],.one (.sc)]),(164,[.agg [.own true 221 23]]),(165,[.one (.sc)]),(167,[.agg [.pv,.sc,.sc,.sc,.sc,.pv,.sc,.pv,.sc,.sc,.sc,.sc,.pv,.sc,.sc,.sc,.pv,.sc,.pv,.sc,.pv]]),(168,[.one (.sc)]),(170,[.agg [.pv,.sc,.sc,.sc,.sc,.pv,.sc,.pv,.sc,.sc,.sc,.sc,.pv,.sc,.sc,.sc,.pv,.sc,.pv,.sc,.pv]]),(171,[.agg [.sc,.sc,.sc,.sc,.sc,.sc,.sc,.sc,.pv,.sc,.pv,.sc,.sc,.pv,.sc,.sc],.one (.sc)]),(172,[.agg [.pv,.pv],.one (.sc)]),(173,[.one (.sc)]),(174,[.one (.sc)]),(175,[.agg [.sc,.sc,.sc,.pv]]),(177,[.agg [.own true 257 17,.sc,.sc,.sc,.sc,.own true 9 1,.sc,.own true 3 1,.sc,.sc,.sc,.sc,.own true 9 1,.sc,.sc,.sc,.own true 9 1,.sc,.own true 3 1,.sc,.own true 3 1]]),(178,[.one (.sc)]),(180,[.agg [.own true 257 17,.sc,.sc,.sc,.sc,.own true 9 1,.sc,.own true 3 1,.sc,.sc,.sc,.sc,.own true 9 1,.sc,.sc,.sc,.own true 9 1,.sc,.own true 3 1,.sc,.own true 3 1]]),(181,[.one (.sc)]),(182,[.agg []]),(183,[.one (.sc)]),(184,[.one (.sc)]),(187,[.one (.sc)]),(190,[.one (.sc)]),(191,[.one (.pv)]),(195,[.agg [.sc,.sc,.sc,.sc,.sc,.sc,.sc,.sc,.own true 3 1,.sc,.own true 3 1,.sc,.sc,.own true 3 1,.sc,.sc,.own true 317 2]]),(198,[.agg [.own true 90 1,.own true 259 51]]),(200,[.one (.own true 3 1)]),(201,[.one (.sc)]),(205,[.one (.sc)]),(210,[.one (.sc)]),(212,[.one (.sc)]),(215,[.one (.own true 3 1)]),(218,[.one (.sc)]),(219,[.agg [.own true 257 17,.sc,.sc,.sc,.sc,.own true 9 1,.sc,.own true 3 1,.sc,.sc,.sc,.sc,.own true 9 1,.sc,.sc,.sc,.own true 9 1,.sc,.own true 3 1,.sc,.own true 3 1]]),(220,[.one (.sc)]),(221,[.agg [.sc,.sc,.sc,.sc,.sc,.sc,.sc,.sc,.pv,.sc,.pv,.sc,.sc,.pv,.sc,.sc,.pv,.sc,.sc,.sc,.sc,.sc,.sc,.sc,.sc,.pv,.sc,.pv,.sc,.sc,.pv,.sc,.sc,.pv,.sc,.sc,.sc,.sc,.sc,.sc,.sc,.sc,.pv,.sc,.pv,.sc,.sc,.pv,.sc,.sc,.pv]]),(222,[.one (.sc)]),(223,[.one (.sc)]),(224,[.agg [.sc,.sc,.own true 257 17,.sc,.sc,.sc,.sc,.own true 9 1,.sc,.own true 3 1,.sc,.sc,.sc,.sc,.own true 9 1,.sc,.sc,.sc,.own true 9 1,.sc,.own true 3 1,.sc,.own true 3 1]]),(225,[.one (.sc)]),(227,[.one (.sc)]),(229,[.agg [.sc,.sc,.sc,.own true 9 1]]),(230,[.one (.sc)]),(231,[.one (.sc)]),(232,[.agg [.sc,.pv]]),(233,[.agg [.sc,.sc,.sc,.sc,.pv,.sc,.sc,.sc,.pv,.sc,.pv,.sc,.pv]]),(234,[.one (.sc)]),(235,[.one (.own true 3 1)]),(236,[.agg [.pv,.sc,.sc,.sc,.sc,.pv,.sc,.pv,.sc,.sc,.sc,.sc,.pv,.sc,.sc,.sc,.pv,.sc,.pv,.sc,.pv]]),(237,[.one (.sc)]),(238,[.agg [.sc,.sc,.sc,.sc,.sc,.sc,.sc,.sc,.pv,.sc,.pv,.sc,.sc,.pv,.sc,.sc]]),(239,[.one (.sc)]),(240,[.one (.sc)]),(241,[.agg [.sc,.sc,.sc,.sc,.sc,.sc,.sc,.sc,.pv,.sc,.pv,.sc,.sc,.pv,.sc,.sc,.pv,.sc,.sc,.sc,.sc,.sc,.sc,.sc,.sc,.pv,.sc,.pv,.sc,.sc,.pv,.sc,.sc,.pv,.sc,.sc,.sc,.sc,.sc,.sc,.sc,.sc,.pv,.sc,.pv,.sc,.sc,.pv,.sc,.sc,.pv],.one (.sc)]),(242,[.one (.sc)]),(243,[.one (.sc)]),(244,[.one (.sc)]),(245,[.one (.own true 257 17)]),(246,[.agg [.sc,.own true 3 1]]),(247,[.agg [.sc,.sc,.sc,.sc,.own true 9 1,.sc,.sc,.sc,.own true 9 1,.sc,.own true 3 1,.sc,.own true 3 1]]),(248,[.one (.sc)]),(249,[.one (.sc)]),(250,[.one (.sc)]),(251,[.one (.own true 3 1)]),(252,[.agg [.own true 257 17,.sc,.sc,.sc,.sc,.own true 9 1,.sc,.own true 3 1,.sc,.sc,.sc,.sc,.own true 9 1,.sc,.sc,.sc,.own true 9 1,.sc,.own true 3 1,.sc,.own true 3 1]]),(253,[.one (.sc)]),(254,[.one (.sc)]),(255,[.one (.sc)]),(256,[.agg [.sc,.sc,.sc,.sc,.sc,.sc,.sc,.sc,.pv,.sc,.pv,.sc,.sc,.pv,.sc,.sc,.pv]]),(257,[.one (.own true 317 2)]),(259,[.agg [.sc,.sc,.sc,.sc,.sc,.sc,.sc,.sc,.own true 3 1,.sc,.own true 3 1,.sc,.sc,.own true 3 1,.sc,.sc,.own true 317 2,.sc,.sc,.sc,.sc,.sc,.sc,.sc,.sc,.own true 3 1,.sc,.own true 3 1,.sc,.sc,.own true 3 1,.sc,.sc,.own true 317 2,.sc,.sc,.sc,.sc,.sc,.sc,.sc,.sc,.own true 3 1,.sc,.own true 3 1,.sc,.sc,.own true 3 1,.sc,.sc,.own true 317 2]]),(261,[.agg [.sc,.sc,.sc,.sc,.sc,.sc,.sc,.sc,.pv,.sc,.pv,.sc,.sc,.pv,.sc,.sc]]),(263,[.one (.sc)]),(265,[.one (.sc)]),(266,[.one (.sc)]),(267,[.one (.sc)]),(268,[.one (.sc)]),(271,[.one (.sc)]),(275,[.one (.sc)]),(276,[.one (.sc)]),(277,[.agg [.sc,.own true 3 1]]),(278,[.agg [.sc,.sc,.sc,.sc,.own true 9 1,.sc,.sc,.sc,.own true 9 1,.sc,.own true 3 1,.sc,.own true 3 1]]),(279,[.one (.sc)]),(280,[.one (.sc)]),(281,[.one (.sc)]),(282,[.one (.sc)]),(283,[.one (.sc)]),(284,[.one (.sc)]),(285,[.one (.sc)]),(286,[.agg [.own true 90 1,.own true 259 51],.one (.sc)]),(287,[.one (.sc)]),(288,[.agg [.sc,.sc,.sc,.sc,.sc,.sc,.sc,.sc,.own true 3 1,.sc,.own true 3 1,.sc,.sc,.own true 3 1,.sc,.sc],.one (.sc)]),(289,[.one (.sc)]),(290,[.one (.sc)]),(291,[.one (.sc)]),(292,[.one (.own true 3 1)]),(293,[.one (.sc)]),(294,[.agg [.sc,.pv],.one (.sc)]),(295,[.agg [.sc,.sc,.sc,.sc,.pv,.sc,.sc,.sc,.pv,.sc,.pv,.sc,.pv],.one (.sc)]),(296,[.one (.sc)]),(297,[.agg [.pv,.sc]]),(298,[.one (.sc)]),(299,[.one (.sc)]),(300,[.one (.sc)]),(301,[.one (.sc)]),(302,[.one (.sc)]),(303,[.one (.sc)]),(304,[.one (.sc)]),(305,[.agg [.sc,.sc,.sc,.sc,.sc,.sc,.sc,.sc,.own true 3 1,.sc,.own true 3 1,.sc,.sc,.own true 3 1,.sc,.sc,.own true 317 2]]),(306,[.one (.sc)]),(307,[.one (.own true 3 1)]),(308,[.one (.sc)]),(309,[.agg [.sc,.own true 3 1],.one (.sc)]),(310,[.agg [.sc,.sc,.sc,.sc,.own true 9 1,.sc,.sc,.sc,.own true 9 1,.sc,.own true 3 1,.sc,.own true 3 1],.one (.sc)]),(311,[.one (.sc)]),(312,[.one (.sc)]),(313,[.one (.sc)]),(314,[.one (.sc)]),(315,[.one (.own true 3 1)]),(316,[.agg [.sc,.sc]]),(317,[.one (.sc)]),(318,[.one (.sc)]),(319,[.one (.sc)]),(320,[.one (.sc)]),(322,[.one (.sc)]),(323,[.one (.sc)]),(324,[.one (.sc)]),(325,[.one (.sc)]),(326,[.one (.sc)]),(327,[.one (.sc)]),(328,[.one (.sc)]),(329,[.one (.own true 3 1)]),(331,[.one (.sc)]),(333,[.one (.sc)]),(334,[.one (.sc)]),(335,[.one (.sc)]),(336,[.agg [.sc,.sc,.sc,.sc,.sc,.sc,.sc,.sc,.own true 3 1,.sc,.own true 3 1,.sc,.sc,.own true 3 1,.sc,.sc,.own true 317 2,.sc,.sc,.sc,.sc,.sc,.sc,.sc,.sc,.own true 3 1,.sc,.own true 3 1,.sc,.sc,.own true 3 1,.sc,.sc,.own true 317 2,.sc,.sc,.sc,.sc,.sc,.sc,.sc,.sc,.own true 3 1,.sc,.own true 3 1,.sc,.sc,.own true 3 1,.sc,.sc,.own true 317 2],.one (.sc)]),(337,[.one (.sc)]),(338,[.one (.sc)]),(339,[.one (.sc)]),(340,[.agg [.sc,.sc,.sc,.sc,.sc,.sc,.sc,.sc,.own true 3 1,.sc,.own true 3 1,.sc,.sc,.own true 3 1,.sc,.sc]]),(341,[.one (.sc)]),(342,[.one (.sc)]),(343,[.one (.sc)]),(344,[.one (.sc)]),(345,[.one (.sc)]),(346,[.one (.own true 3 1)]),(347,[.one (.sc)]),(348,[.one (.sc)]),(349,[.one (.sc)]),(350,[.one (.sc)]),(351,[.one (.sc),.one (.sc)]),(352,[.one (.sc)]),(353,[.one (.sc)]),(354,[.one (.sc)]),(355,[.one (.sc)]),(356,[.one (.own true 317 2)]),(357,[.one (.sc)]),(358,[.one (.sc)]),(359,[.one (.own true 3 1)]),(360,[.one (.own true 3 1)]),(361,[.one (.sc)]),(362,[.one (.own true 3 1)]),(363,[.one (.sc)]),(364,[.one (.sc)]),(365,[.one (.sc)]),(366,[.one (.sc)]),(367,[.one (.sc)]),(368,[.one (.sc)]),(370,[.one (.sc)]),(371,[.one (.sc)]),(372,[.one (.sc)]),(373,[.one (.sc)]),(374,[.one (.sc)]),(375,[.one (.sc)]),(376,[.one (.own true 3 1)]),(377,[.one (.sc)]),(378,[.one (.sc)]),(379,[.one (.sc)]),(380,[.one (.sc)]),(381,[.one (.sc)]),(382,[.one (.sc)]),(384,[.one (.own true 3 1)]),(385,[.one (.sc)]),(386,[.one (.sc)]),(387,[.one (.sc)]),(388,[.one (.sc)]),(389,[.one (.sc)]),(390,[.one (.sc)]),(391,[.agg [.own true 3 1,.sc]]),(392,[.one (.sc),.one (.sc)]),(393,[.one (.sc)]),(394,[.one (.sc)]),(395,[.one (.sc)]),(396,[.one (.sc)]),(397,[.one (.sc)]),(398,[.one (.sc)]),(399,[.one (.own true 3 1)]),(400,[.one (.sc)]),(401,[.one (.own true 3 1)]),(402,[.one (.sc)]),(403,[.one (.sc)]),(404,[.one (.sc)]),(405,[.one (.sc)]),(406,[.one (.sc)]),(407,[.one (.sc)]),(408,[.one (.sc)]),(409,[.one (.sc)]),(410,[.one (.sc)]),(411,[.one (.sc)]),(412,[.one (.sc)]),(413,[.one (.sc)]),(414,[.one (.sc)]),(415,[.one (.sc)]),(416,[.one (.sc)]),(417,[.one (.own true 3 1)]),(418,[.one (.own true 3 1)]),(419,[.one (.sc)]),(420,[.one (.sc)]),(421,[.one (.sc)]),(422,[.one (.sc)]),(423,[.one (.own true 3 1)]),(424,[.one (.sc)]),(425,[.one (.sc)]),(426,[.one (.sc)]),(427,[.one (.sc)]),(428,[.one (.own true 3 1)]),(429,[.one (.sc)]),(430,[.one (.sc)]),(431,[.one (.sc)]),(432,[.one (.sc)]),(433,[.one (.sc)]),(434,[.one (.sc)]),(435,[.one (.sc)])],false,[428],[174],[257,57,93,90,259,221,197,195,136,150,9],[(118,(f118,[])),(228,(f228,[])),(135,(f135,[])),(144,(f144,[])),(159,(f159,[(2,false),(3,false),(8,false),(9,false),(10,false)])),(160,(f160,[])),(226,(f226,[]))],0,false⟩
theorem tabok:xaz Tryz.prog TT:=xry (by kernel_rfl) (by kernel_rfl) ⟨⟨by kernel_rfl,by kernel_rfl⟩,⟨by kernel_rfl,by kernel_rfl⟩,⟨by kernel_rfl,by kernel_rfl⟩,⟨by kernel_rfl,by kernel_rfl⟩,⟨by kernel_rfl,by kernel_rfl⟩,⟨by kernel_rfl,by kernel_rfl⟩,⟨by kernel_rfl,by kernel_rfl⟩,True.intro⟩
abbrev EO:=xfE Tryz.prog TT
theorem ec {e:Ent} {L:List Ent} (h:EO e) (k:xbA Tryz.prog TT L):xbA Tryz.prog TT (e::L):=⟨h,k⟩
theorem en:xbA Tryz.prog TT []:=trivial
theorem oN {L:List Ent} (hL:xbA Tryz.prog TT L) {f:Nat} {fn:Func} {keep:List (Nat×Bool)} {l:List LE} {g:GM} {cl:List Nat} (hf:Tryz.prog.funcs[f]? = some fn) (hS:xaC L TT keep l fn l)
 (h:∀av k,g av k→xdi (orac TT L (xbG l)) TT keep l fn (xd2 TT f) av k) (hn:(fn.name == "runtime.NumGoroutine") = false:=by kernel_rfl) (hsg:lk TT.sig f=some (xd2 TT f):=by kernel_rfl) (hns:xhT (xd2 TT f)=false:=by kernel_rfl):EO ⟨f::cl,g⟩:=ok_ tabok hL hf hS h hn hsg hns
theorem oF {L:List Ent} (hL:xbA Tryz.prog TT L) {f:Nat} {fn:Func} {keep:List (Nat×Bool)} {l:List LE} {g:GM} {cl:List Nat} (hf:Tryz.prog.funcs[f]? = some fn) (hS:xaC L TT.nofl keep l fn l)
 (h:∀av k,g av k→xdi (orac TT.nofl L (xbG l)) TT.nofl keep l fn (xd2 TT f) av k) (hn:(fn.name == "runtime.NumGoroutine") = false:=by kernel_rfl) (hsg:lk TT.sig f=some (xd2 TT f):=by kernel_rfl) (hns:xhT (xd2 TT f)=false:=by kernel_rfl):EO ⟨f::cl,g⟩:=xwA tabok hL hf hS h hn hsg hns
theorem oM {L:List Ent} (hL:xbA Tryz.prog TT L) {f:Nat} {fn:Func} {keep:List (Nat×Bool)} {l:List LE} {g:GM} {cl:List Nat} (hf:Tryz.prog.funcs[f]? = some fn) (hS:xaC L TT.moving keep l fn l)
 (h:∀av k,g av k→xdi (orac TT.moving L (xbG l)) TT.moving keep l fn (xd2 TT f) av k) (hn:(fn.name == "runtime.NumGoroutine") = false:=by kernel_rfl) (hsg:lk TT.sig f=some (xd2 TT f):=by kernel_rfl) (hns:xhT (xd2 TT f)=false:=by kernel_rfl):EO ⟨f::cl,g⟩:=xwz tabok hL hf hS h hn hsg hns
theorem oW {L:List Ent} (hL:xbA Tryz.prog TT L) {f:Nat} {fn:Func} {keep:List (Nat×Bool)} {l:List LE} {g:GM} {cl:List Nat} (hf:Tryz.prog.funcs[f]? = some fn) (hS:xaC L TT.wind keep l fn l)
 (h:∀av k,g av k→xdi (orac TT.wind L (xbG l)) TT.wind keep l fn (xd2 TT f) av k) (hn:(fn.name == "runtime.NumGoroutine") = false:=by kernel_rfl) (hsg:lk TT.sig f=some (xd2 TT f):=by kernel_rfl) (hns:xhT (xd2 TT f)=false:=by kernel_rfl):EO ⟨f::cl,g⟩:=xwx tabok hL hf hS h hn hsg hns
theorem oS {L:List Ent} (hL:xbA Tryz.prog TT L) {f:Nat} {fn:Func} {keep:List (Nat×Bool)} {l:List LE} {g:GM} {cl:List Nat} (hf:Tryz.prog.funcs[f]? = some fn) (hS:xaC L TT.shr keep l fn l)
 (h:∀av k,g av k→xdi (orac TT.shr L (xbG l)) TT.shr keep l fn (xd2 TT f) av k) (hn:(fn.name == "runtime.NumGoroutine") = false:=by kernel_rfl) (hsg:lk TT.sig f=some (xd2 TT f):=by kernel_rfl) (hns:xhT (xd2 TT f)=false:=by kernel_rfl):EO ⟨f::cl,g⟩:=xwy tabok hL hf hS h hn hsg hns
theorem oNz {L:List Ent} (hL:xbA Tryz.prog TT L) {f:Nat} {fn:Func} {g:GM} {cl:List Nat} (hf:Tryz.prog.funcs[f]? = some fn)
 (h:∀av k,g av k→xdi (orac TT L (xbG [])) TT [] [] fn (xd2 TT f) av k) (hn:(fn.name == "runtime.NumGoroutine") = false:=by kernel_rfl) (hsg:lk TT.sig f=some (xd2 TT f):=by kernel_rfl) (hns:xhT (xd2 TT f)=false:=by kernel_rfl):EO ⟨f::cl,g⟩:=oN hL hf (keep:=[]) (l:=[]) trivial h hn hsg hns
theorem oFz {L:List Ent} (hL:xbA Tryz.prog TT L) {f:Nat} {fn:Func} {g:GM} {cl:List Nat} (hf:Tryz.prog.funcs[f]? = some fn)
 (h:∀av k,g av k→xdi (orac TT.nofl L (xbG [])) TT.nofl [] [] fn (xd2 TT f) av k) (hn:(fn.name == "runtime.NumGoroutine") = false:=by kernel_rfl) (hsg:lk TT.sig f=some (xd2 TT f):=by kernel_rfl) (hns:xhT (xd2 TT f)=false:=by kernel_rfl):EO ⟨f::cl,g⟩:=oF hL hf (keep:=[]) (l:=[]) trivial h hn hsg hns
theorem oMz {L:List Ent} (hL:xbA Tryz.prog TT L) {f:Nat} {fn:Func} {g:GM} {cl:List Nat} (hf:Tryz.prog.funcs[f]? = some fn)
 (h:∀av k,g av k→xdi (orac TT.moving L (xbG [])) TT.moving [] [] fn (xd2 TT f) av k) (hn:(fn.name == "runtime.NumGoroutine") = false:=by kernel_rfl) (hsg:lk TT.sig f=some (xd2 TT f):=by kernel_rfl) (hns:xhT (xd2 TT f)=false:=by kernel_rfl):EO ⟨f::cl,g⟩:=oM hL hf (keep:=[]) (l:=[]) trivial h hn hsg hns
end Go.Ev
set_option maxRecDepth 100000
namespace Go.Ev
open Go.Proofs Go.Proofs.Tryz
def laws_markText_r0 (v:List PV) (K:List PV→Prop) (x0k:PV→PV→PV→Prop):Prop :=
 un 3 (fun v0 v1 v2 =>
  xac .gtr v0 (I 0) fun r0 =>
  xad r0
   (xac .rem v0 (I 10) fun r1 =>
   xac .add (I 48) r1 fun r2 =>
   xmc .u8 r2 fun r3 =>
   (1=1)∧(1≤16777216)∧(1=1)∧(0=0)∧(1=1)∧(xae [.pv (.int .u8 0)] [.pv r3])∧xnk (.list 1 [[r3]]) fun r4 =>
   xac .add r4 v2 fun r5 =>
   xac .quo v0 (I 10) fun r6 =>
   K [r6,v1,r5])
   (x0k v0 v1 v2)) v
def laws_markText:GM
 | [.one a0],k =>
  xac .leq a0 (I 0) fun r0 =>
  xad r0
   (rt [.sc] [(.str ⟨#[109,48]⟩)] k)
   (lp (fun L w=>laws_markText_r0 w L
    (fun q7 q8 q9=>xac .add (.str ⟨#[109]⟩) q9 fun r10 =>
     rt [.sc] [r10] k)) [a0,(.str ⟨#[]⟩),(.str ⟨#[]⟩)])
 | _,_=>False
abbrev laws_markText_e:Ent:=⟨[76],laws_markText⟩
def laws_markText_l:List LE:=[⟨none,0,⟨[(0,.one zB),(2,.one zB),(3,.one zB)],[],[],0,20,[]⟩,fun K k v=>laws_markText_r0 v K (fun x0 x1 x2=>k (.exit 0) ⟨[(0,.one (.pv x0)),(2,.one (.pv x1)),(3,.one (.pv x2))],[],[],0,20,[]⟩)⟩]
theorem laws_markText_s:xaC [] TT.nofl (kk [0,2,3]) laws_markText_l f76 laws_markText_l:=⟨fun v K k h=>by
 apply xab h;exact fun v0 v1 v2 h=>km h
 ,trivial⟩
theorem laws_markText_w:EO laws_markText_e:=oF en (keep:=(kk [0,2,3])) (l:=laws_markText_l) func76 laws_markText_s fun av k h=>by
 unfold laws_markText at h;split at h
 ·exact km h
 ·exact h.elim
end Go.Ev
/- The texts of counts; the functions that mark what they are handed. -/
set_option maxRecDepth 100000
namespace Go.Ev
open Go.Proofs Go.Proofs.Tryz
def mdigs (u:Nat):List UInt8:=if u=0 then [] else Go.Lib.decDigits u
theorem mdigs_step {u:Nat} (h:u≠0):mdigs u=mdigs (u / 10)++[UInt8.ofNat (48+u % 10)]:=by
 unfold mdigs
 rw [if_neg h]
 by_cases h1:u<10
 ·rw [Go.Lib.decDigits_one h1,if_pos (by omega),show u % 10=u by omega];rfl
 ·rw [if_neg (by omega),Go.Lib.decDigits,dif_neg h1]
theorem mdigs_len:∀(m u:Nat),u<10 ^ m→(mdigs u).length≤m
 | 0,u,h=>by
  have:u=0:=by simpa using h
  subst this;simp [mdigs]
 | m+1,u,h=>by
  by_cases h0:u=0
  ·subst h0;simp [mdigs]
  ·rw [mdigs_step h0,List.length_append]
   have h2:u / 10<10 ^ m:=by rw [Nat.pow_succ] at h;omega
   have:=mdigs_len m (u / 10) h2
   simp only [List.length_singleton];omega
abbrev Sx (l:List UInt8):PV:=.str ⟨l.toArray⟩
theorem bin_strM (a b:List UInt8) (k:PV→Prop):xac .add (Sx a) (Sx b) k=(a.length+b.length≤9223372036854775807∧k (Sx (a++b))):=by
 have e:(⟨a.toArray⟩:ByteArray)++⟨b.toArray⟩=⟨(a++b).toArray⟩:=by
  apply ByteArray.ext
  rw [ByteArray.data_append]
  simp
 have h1:(⟨a.toArray⟩:ByteArray).size=a.length:=by simp [ByteArray.size]
 have h2:(⟨b.toArray⟩:ByteArray).size=b.length:=by simp [ByteArray.size]
 show (_∧k _)=_
 rw [h1,h2,e]
theorem text_oneM (n:Int) (k:PV→Prop):xnk (.list 1 [[.int .u8 n]]) k=k (Sx [UInt8.ofNat n.toNat]):=rfl
theorem u8_digitM {d:Nat} (h:d<10):IntKind.u8.wrap (48+(d:Int))=((48+d:Nat):Int):=by
 have:∀d:Fin 10,IntKind.u8.wrap (48+((d:Nat):Int))=((48+(d:Nat):Nat):Int):=by decide
 exact this ⟨d,h⟩
theorem fc_u8M (n:Int):xae [.pv (.int .u8 0)] [.pv (.int .u8 n)]:=by intro x hx;simp at hx;subst hx;rfl
def mtx (n:Int):ByteArray:=if n≤0 then ⟨#[109,48]⟩ else ⟨([109]++mdigs n.toNat).toArray⟩
theorem mtx_lp (z:PV) (A:PV→Prop):∀(m:Nat) (x:Nat) (s:List UInt8),x<10 ^ m→x<9223372036854775808→s.length+m≤1000 →
 (lp (fun L w=>laws_markText_r0 w L (fun q7 q8 q9=>A q9)) [I x,z,Sx s]↔A (Sx (mdigs x++s)))
 | 0,x,s,h,hx,hs=>by
  have h0:x=0:=by simpa using h
  subst h0
  refine xaE fun K=>?_
  simp [laws_markText_r0,mdigs]
 | m+1,x,s,h,hx,hs=>by
  by_cases h0:x=0
  ·subst h0
   refine xaE fun K=>?_
   simp [laws_markText_r0,mdigs]
  ·have hd:x % 10<10:=Nat.mod_lt _ (by omega)
   have hq:x / 10<10 ^ m:=by rw [Nat.pow_succ] at h;omega
   have ih:=mtx_lp z A m (x / 10) (UInt8.ofNat (48+x % 10)::s) hq (by omega) (by simp only [List.length_cons];omega)
   have he:mdigs (x / 10)++(UInt8.ofNat (48+x % 10)::s)=mdigs x++s:=by
    rw [mdigs_step (u:=x) h0,List.append_assoc];rfl
   rw [he] at ih
   refine (xcm fun K=>?_).trans ih
   have hb:1+s.length≤9223372036854775807:=by omega
   have e1:(x:Int).tmod 10=((x % 10:Nat):Int):=by rw [Int.tmod_eq_emod_of_nonneg (by omega)];rfl
   have e4:(x:Int).tdiv 10=((x / 10:Nat):Int):=by rw [Int.tdiv_eq_ediv_of_nonneg (by omega)];rfl
   have e2:IntKind.i64.wrap (48+((x % 10:Nat):Int))=48+((x % 10:Nat):Int):=xcn (by omega) (by omega)
   have e3:=u8_digitM hd
   have e5:IntKind.i64.wrap (((x / 10:Nat):Int))=((x / 10:Nat):Int):=xcn (by omega) (by omega)
   simp only [laws_markText_r0,un,cur0,xb3,show (0:Int)<(x:Int) by omega,decide_true,xah,if_true,xcP,e1,xbh,e2,xmc,e3,fc_u8M,text_oneM,bin_strM,xf5,e4,e5,List.length_singleton,List.singleton_append,true_and,hb,Int.toNat_natCast]
   simp
theorem laws_markText_n (n:Int) (h:rg64 n=true) (k):call laws_markText [.one (I n)] k=k [.str (mtx n)]:=xaa (fun k=>by
 simp only [rg64,Bool.and_eq_true,decide_eq_true_eq] at h
 unfold mtx
 by_cases h0:n≤0
 ·simp [laws_markText,h0]
 ·obtain ⟨x,rfl⟩:∃x:Nat,n=x:=⟨n.toNat,by omega⟩
  simp only [laws_markText,xhg,h0,decide_false,xah,Bool.false_eq_true,if_false]
  have hs:x<10 ^ 19:=by
   have:(10:Nat) ^ 19=10000000000000000000:=rfl
   omega
  refine (mtx_lp (Sx []) (fun q=>xac .add (Sx [109]) q fun r=>rt [.sc] [r] k) 19 x [] hs (by omega) (by simp)).trans ?_
  have hd:=mdigs_len 19 _ hs
  rw [List.append_nil,bin_strM]
  have hl:[109].length+(mdigs x).length≤9223372036854775807:=by simp only [List.length_singleton];omega
  simp only [true_and,xav,xam,xai,xmU,Int.toNat_natCast]
  exact ⟨fun q=>q.2,fun q=>⟨hl,q⟩⟩) k
theorem laws_markText_n' (n:Int) (h:rg64 n=true):(laws_markText [.one (I n)] (fun o=>o=[.str (mtx n)]))=True:=by
 have:=laws_markText_n n h (fun o=>o=[.str (mtx n)])
 simp only [call] at this
 obtain ⟨out,h1,h2⟩:=of_eq_true this
 subst h2
 exact eq_true h1
theorem mtx_ok:xgR Tryz.prog 76 mtx:=xrx (fun _=>trivial) ⟨f76,func76,by kernel_rfl,by kernel_rfl⟩ fun k hk=>(laws_markText_w 76 _ _ rfl (of_eq_true (laws_markText_n' k hk)) _ (by kernel_rfl)).1 rfl
abbrev mk_StringS_r:List (Nat×MM):=[]
abbrev mk_StringS_s:List (Option Eff×SV):=[(some (.store 0 1),.kk),(none,.kinc)]
def mk_StringS:PV→Int→Option (PV×Int):=mkS mk_StringS_r mtx 1 mk_StringS_s
theorem mk_StringS_ok:xlA Tryz.prog 24 (.sl mk_StringS):=xd1 (T:=TT) (st:=22) (ss:=mk_StringS_s) tabok (ρ:=[]) trivial mtx_ok func24 (by kernel_rfl) (by kernel_rfl)
def laws_markStringS:GM:=gS mk_StringS
abbrev laws_markStringS_e:Ent:=⟨[24],laws_markStringS⟩
theorem laws_markStringS_w:EO laws_markStringS_e:=xr2 mk_StringS_ok (by kernel_rfl)
abbrev mk_IntS_r:List (Nat×MM):=[]
abbrev mk_IntS_s:List (Option Eff×SV):=[(some (.store 0 0),.kk),(none,.kinc)]
def mk_IntS:PV→Int→Option (PV×Int):=mkS mk_IntS_r mtx 1 mk_IntS_s
theorem mk_IntS_ok:xlA Tryz.prog 99 (.sl mk_IntS):=xd1 (T:=TT) (st:=58) (ss:=mk_IntS_s) tabok (ρ:=[]) trivial mtx_ok func99 (by kernel_rfl) (by kernel_rfl)
def laws_markIntS:GM:=gS mk_IntS
abbrev laws_markIntS_e:Ent:=⟨[99],laws_markIntS⟩
theorem laws_markIntS_w:EO laws_markIntS_e:=xr2 mk_IntS_ok (by kernel_rfl)
abbrev mk_SigS_r:List (Nat×MM):=[]
abbrev mk_SigS_s:List (Option Eff×SV):=[(some (.store 0 0),.kk),(none,.kinc),(some (.store 1 0),.kk),(none,.kinc)]
def mk_SigS:PV→Int→Option (PV×Int):=mkS mk_SigS_r mtx 2 mk_SigS_s
theorem mk_SigS_ok:xlA Tryz.prog 182 (.sl mk_SigS):=xd1 (T:=TT) (st:=255) (ss:=mk_SigS_s) tabok (ρ:=[]) trivial mtx_ok func182 (by kernel_rfl) (by kernel_rfl)
def laws_markSigS:GM:=gS mk_SigS
abbrev laws_markSigS_e:Ent:=⟨[182],laws_markSigS⟩
theorem laws_markSigS_w:EO laws_markSigS_e:=xr2 mk_SigS_ok (by kernel_rfl)
abbrev mk_SignedS_r:List (Nat×MM):=[(99,.sl mk_IntS),(182,.sl mk_SigS)]
abbrev mk_SignedS_s:List (Option Eff×SV):=[(some (.store 0 0),.kk),(none,.kinc),(some (.store 1 0),.kk),(none,.kinc),(some (.store 2 0),.kk),(none,.kinc),(some (.store 3 0),.kk),(none,.kinc),(some (.store 4 0),.kk),(none,.kinc),(some (.store 5 0),.kk),(none,.kinc),(some (.store 6 0),.kk),(none,.kinc),(some (.store 7 0),.kk),(none,.kinc),(some (.call 8 none 99),.res),(some (.store 9 0),.kk),(none,.kinc),(some (.call 10 none 99),.res),(some (.store 11 0),.kk),(none,.kinc),(some (.store 12 0),.kk),(none,.kinc),(some (.call 13 none 99),.res),(some (.store 14 0),.kk),(none,.kinc),(some (.store 15 2),.kk),(none,.kinc),(some (.call 16 none 182),.res)]
def mk_SignedS:PV→Int→Option (PV×Int):=mkS mk_SignedS_r mtx 17 mk_SignedS_s
theorem mk_SignedS_ok:xlA Tryz.prog 127 (.sl mk_SignedS):=xd1 (T:=TT) (st:=90) (ss:=mk_SignedS_s) tabok (ρ:=[(99,.sl mk_IntS),(182,.sl mk_SigS)]) ⟨mk_IntS_ok,mk_SigS_ok,trivial⟩ mtx_ok func127 (by kernel_rfl) (by kernel_rfl)
def laws_markSignedS:GM:=gS mk_SignedS
abbrev laws_markSignedS_e:Ent:=⟨[127],laws_markSignedS⟩
theorem laws_markSignedS_w:EO laws_markSignedS_e:=xr2 mk_SignedS_ok (by kernel_rfl)
abbrev mk_StoredS_r:List (Nat×MM):=[(127,.sl mk_SignedS),(24,.sl mk_StringS),(99,.sl mk_IntS)]
abbrev mk_StoredS_s:List (Option Eff×SV):=[(some (.store 0 0),.kk),(none,.kinc),(some (.store 1 1),.kk),(none,.kinc),(some (.call 2 none 127),.res),(some (.store 3 2),.kk),(none,.kinc),(some (.store 4 1),.kk),(none,.kinc),(some (.store 5 0),.kk),(none,.kinc),(some (.store 6 0),.kk),(none,.kinc),(some (.call 7 none 24),.res),(some (.store 8 0),.kk),(none,.kinc),(some (.call 9 none 99),.res),(some (.store 10 0),.kk),(none,.kinc),(some (.store 11 1),.kk),(none,.kinc),(some (.store 12 0),.kk),(none,.kinc),(some (.store 13 0),.kk),(none,.kinc),(some (.call 14 none 24),.res),(some (.store 15 1),.kk),(none,.kinc),(some (.store 16 0),.kk),(none,.kinc),(some (.store 17 0),.kk),(none,.kinc),(some (.call 18 none 24),.res),(some (.store 19 0),.kk),(none,.kinc),(some (.call 20 none 99),.res),(some (.store 21 0),.kk),(none,.kinc),(some (.call 22 none 99),.res)]
def mk_StoredS:PV→Int→Option (PV×Int):=mkS mk_StoredS_r mtx 23 mk_StoredS_s
theorem mk_StoredS_ok:xlA Tryz.prog 77 (.sl mk_StoredS):=xd1 (T:=TT) (st:=28) (ss:=mk_StoredS_s) tabok (ρ:=[(127,.sl mk_SignedS),(24,.sl mk_StringS),(99,.sl mk_IntS)]) ⟨mk_SignedS_ok,mk_StringS_ok,mk_IntS_ok,trivial⟩ mtx_ok func77 (by kernel_rfl) (by kernel_rfl)
def laws_markStoredS:GM:=gS mk_StoredS
abbrev laws_markStoredS_e:Ent:=⟨[77],laws_markStoredS⟩
theorem laws_markStoredS_w:EO laws_markStoredS_e:=xr2 mk_StoredS_ok (by kernel_rfl)
abbrev mk_Bundle_r:List (Nat×MM):=[(24,.sl mk_StringS),(77,.sl mk_StoredS)]
abbrev mk_Bundle_s:List (Option Eff×SV):=[(some (.call 1 none 24),.res),(some (.call 2 none 77),.res)]
def mk_Bundle:List PV→Int→Option (List PV×Int):=mkT mk_Bundle_r mtx 3 mk_Bundle_s
theorem mk_Bundle_ok:xlA Tryz.prog 25 (.st mk_Bundle):=xfG (T:=TT) (esz:=3) (ss:=mk_Bundle_s) tabok (ρ:=[(24,.sl mk_StringS),(77,.sl mk_StoredS)]) ⟨mk_StringS_ok,mk_StoredS_ok,trivial⟩ mtx_ok func25 (by kernel_rfl) (by kernel_rfl)
def laws_markBundle:GM:=gT mk_Bundle
abbrev laws_markBundle_e:Ent:=⟨[25],laws_markBundle⟩
theorem laws_markBundle_w:EO laws_markBundle_e:=xul mk_Bundle_ok (by kernel_rfl)
abbrev mk_SignedSS_r:List (Nat×MM):=[(127,.sl mk_SignedS)]
abbrev mk_SignedSS_s:List (Option Eff×SV):=[(some (.call 0 none 127),.res)]
def mk_SignedSS:PV→Int→Option (PV×Int):=mkS mk_SignedSS_r mtx 1 mk_SignedSS_s
theorem mk_SignedSS_ok:xlA Tryz.prog 96 (.sl mk_SignedSS):=xd1 (T:=TT) (st:=52) (ss:=mk_SignedSS_s) tabok (ρ:=[(127,.sl mk_SignedS)]) ⟨mk_SignedS_ok,trivial⟩ mtx_ok func96 (by kernel_rfl) (by kernel_rfl)
def laws_markSignedSS:GM:=gS mk_SignedSS
abbrev laws_markSignedSS_e:Ent:=⟨[96],laws_markSignedSS⟩
theorem laws_markSignedSS_w:EO laws_markSignedSS_e:=xr2 mk_SignedSS_ok (by kernel_rfl)
abbrev mk_ForkS_r:List (Nat×MM):=[(99,.sl mk_IntS),(182,.sl mk_SigS)]
abbrev mk_ForkS_s:List (Option Eff×SV):=[(some (.store 0 0),.kk),(none,.kinc),(some (.store 1 0),.kk),(none,.kinc),(some (.store 2 0),.kk),(none,.kinc),(some (.store 3 0),.kk),(none,.kinc),(some (.store 4 0),.kk),(none,.kinc),(some (.store 5 0),.kk),(none,.kinc),(some (.store 6 0),.kk),(none,.kinc),(some (.store 7 0),.kk),(none,.kinc),(some (.call 8 none 99),.res),(some (.store 9 0),.kk),(none,.kinc),(some (.call 10 none 99),.res),(some (.store 11 0),.kk),(none,.kinc),(some (.store 12 0),.kk),(none,.kinc),(some (.call 13 none 99),.res),(some (.store 14 0),.kk),(none,.kinc),(some (.store 15 2),.kk),(none,.kinc),(some (.call 16 none 182),.res),(some (.store 17 0),.kk),(none,.kinc),(some (.store 18 0),.kk),(none,.kinc),(some (.store 19 0),.kk),(none,.kinc),(some (.store 20 0),.kk),(none,.kinc),(some (.store 21 0),.kk),(none,.kinc),(some (.store 22 0),.kk),(none,.kinc),(some (.store 23 0),.kk),(none,.kinc),(some (.store 24 0),.kk),(none,.kinc),(some (.call 25 none 99),.res),(some (.store 26 0),.kk),(none,.kinc),(some (.call 27 none 99),.res),(some (.store 28 0),.kk),(none,.kinc),(some (.store 29 0),.kk),(none,.kinc),(some (.call 30 none 99),.res),(some (.store 31 0),.kk),(none,.kinc),(some (.store 32 2),.kk),(none,.kinc),(some (.call 33 none 182),.res),(some (.store 34 0),.kk),(none,.kinc),(some (.store 35 0),.kk),(none,.kinc),(some (.store 36 0),.kk),(none,.kinc),(some (.store 37 0),.kk),(none,.kinc),(some (.store 38 0),.kk),(none,.kinc),(some (.store 39 0),.kk),(none,.kinc),(some (.store 40 0),.kk),(none,.kinc),(some (.store 41 0),.kk),(none,.kinc),(some (.call 42 none 99),.res),(some (.store 43 0),.kk),(none,.kinc),(some (.call 44 none 99),.res),(some (.store 45 0),.kk),(none,.kinc),(some (.store 46 0),.kk),(none,.kinc),(some (.call 47 none 99),.res),(some (.store 48 0),.kk),(none,.kinc),(some (.store 49 2),.kk),(none,.kinc),(some (.call 50 none 182),.res)]
def mk_ForkS:PV→Int→Option (PV×Int):=mkS mk_ForkS_r mtx 51 mk_ForkS_s
theorem mk_ForkS_ok:xlA Tryz.prog 97 (.sl mk_ForkS):=xd1 (T:=TT) (st:=53) (ss:=mk_ForkS_s) tabok (ρ:=[(99,.sl mk_IntS),(182,.sl mk_SigS)]) ⟨mk_IntS_ok,mk_SigS_ok,trivial⟩ mtx_ok func97 (by kernel_rfl) (by kernel_rfl)
def laws_markForkS:GM:=gS mk_ForkS
abbrev laws_markForkS_e:Ent:=⟨[97],laws_markForkS⟩
theorem laws_markForkS_w:EO laws_markForkS_e:=xr2 mk_ForkS_ok (by kernel_rfl)
abbrev mk_Known_r:List (Nat×MM):=[(96,.sl mk_SignedSS),(97,.sl mk_ForkS)]
abbrev mk_Known_s:List (Option Eff×SV):=[(some (.call 0 none 96),.res),(some (.call 1 none 97),.res)]
def mk_Known:List PV→Int→Option (List PV×Int):=mkT mk_Known_r mtx 2 mk_Known_s
theorem mk_Known_ok:xlA Tryz.prog 33 (.st mk_Known):=xfG (T:=TT) (esz:=2) (ss:=mk_Known_s) tabok (ρ:=[(96,.sl mk_SignedSS),(97,.sl mk_ForkS)]) ⟨mk_SignedSS_ok,mk_ForkS_ok,trivial⟩ mtx_ok func33 (by kernel_rfl) (by kernel_rfl)
def laws_markKnown:GM:=gT mk_Known
abbrev laws_markKnown_e:Ent:=⟨[33],laws_markKnown⟩
theorem laws_markKnown_w:EO laws_markKnown_e:=xul mk_Known_ok (by kernel_rfl)
abbrev mk_Entry_r:List (Nat×MM):=[(24,.sl mk_StringS)]
abbrev mk_Entry_s:List (Option Eff×SV):=[(some (.call 3 none 24),.res)]
def mk_Entry:List PV→Int→Option (List PV×Int):=mkT mk_Entry_r mtx 4 mk_Entry_s
theorem mk_Entry_ok:xlA Tryz.prog 98 (.st mk_Entry):=xfG (T:=TT) (esz:=4) (ss:=mk_Entry_s) tabok (ρ:=[(24,.sl mk_StringS)]) ⟨mk_StringS_ok,trivial⟩ mtx_ok func98 (by kernel_rfl) (by kernel_rfl)
def laws_markEntry:GM:=gT mk_Entry
abbrev laws_markEntry_e:Ent:=⟨[98],laws_markEntry⟩
theorem laws_markEntry_w:EO laws_markEntry_e:=xul mk_Entry_ok (by kernel_rfl)
abbrev mk_Trace_r:List (Nat×MM):=[(33,.st mk_Known),(98,.st mk_Entry),(99,.sl mk_IntS)]
abbrev mk_Trace_s:List (Option Eff×SV):=[(some (.call 0 (some 2) 33),.res),(some (.call 3 (some 4) 98),.res),(some (.call 7 none 99),.res)]
def mk_Trace:List PV→Int→Option (List PV×Int):=mkT mk_Trace_r mtx 9 mk_Trace_s
theorem mk_Trace_ok:xlA Tryz.prog 52 (.st mk_Trace):=xfG (T:=TT) (esz:=9) (ss:=mk_Trace_s) tabok (ρ:=[(33,.st mk_Known),(98,.st mk_Entry),(99,.sl mk_IntS)]) ⟨mk_Known_ok,mk_Entry_ok,mk_IntS_ok,trivial⟩ mtx_ok func52 (by kernel_rfl) (by kernel_rfl)
def laws_markTrace:GM:=gT mk_Trace
abbrev laws_markTrace_e:Ent:=⟨[52],laws_markTrace⟩
theorem laws_markTrace_w:EO laws_markTrace_e:=xul mk_Trace_ok (by kernel_rfl)
end Go.Ev
/- The library's comparison of strings, by the shelf's contract. -/
set_option maxRecDepth 100000
namespace Go.Ev
open Go.Proofs Go.Proofs.Tryz
def rhoC:Go.Shelf.Ren:=⟨fun n=>match n with | 106=>405 | 213=>426 | 265=>431 | _=>0,fun t=>t,fun g=>g⟩
theorem laysC:Go.Proofs.Lays.n213 Tryz.prog rhoC where
 mixed:=by kernel_rfl
 f213:=by kernel_rfl
 f265:=by kernel_rfl
 t3:=by kernel_rfl
 a3:=fun w=>by kernel_rfl
 z3:=fun w=>by kernel_rfl
 v3:=fun w=>by kernel_rfl
 t9:=by kernel_rfl
 a9:=fun w=>by kernel_rfl
 z9:=fun w=>by kernel_rfl
 v9:=fun w=>by kernel_rfl
def Qlb:GM
 | [.one (.str s),.one (.str t)],k=>k [I (Go.Lib.compareBytes s.data.toList t.data.toList)]
 | _,_=>False
theorem Qlb_w:EO ⟨[426],Qlb⟩:=by
 intro f av out hk hg sg hsg
 injection hk with hk hn
 subst hk
 have hs:lk TT.sig 426=some [.one .sc]:=by kernel_rfl
 rw [hs] at hsg
 injection hsg with hsg
 subst hsg
 change Qlb av _ at hg
 unfold Qlb at hg
 split at hg
 ·rename_i s t
  subst hg
  refine ⟨fun _=>⟨⟨f426,func426,by kernel_rfl,by kernel_rfl⟩,fun w S vals _ hS hv=>?_⟩,fun h=>nomatch h⟩
  obtain ⟨v1,r,rfl,h1,v2,r2,rfl,h2,h3⟩:=hv
  have h3:r2=[]:=h3
  subst h3
  have e1:v1=.string s:=xbp.str_inv h1
  have e2:v2=.string t:=xbp.str_inv h2
  subst e1;subst e2
  refine (Any.bytealg_CompareString laysC s t w).mono ?_
  rintro e w' ⟨rfl,rfl⟩
  refine ⟨_,S,fun _=>none,[.int .i64 (Go.Lib.compareBytes s.data.toList t.data.toList)],rfl,rfl,.refl _ _,fun _ h=>h,fun x hx=>⟨rfl,hS x hx,.inl hx⟩,fun x i h=>(nomatch h),rfl,rfl,fun i ck v h4 h5=>?_,fun x i h=>nomatch h⟩
  cases i with
  | zero =>
   simp [xaA,RS.cks] at h4 h5
   subst h4;subst h5
   exact xbp.int
  | succ i=>simp [xaA,RS.cks] at h4
 ·exact hg.elim
end Go.Ev
set_option maxRecDepth 100000
namespace Go.Ev
open Go.Proofs Go.Proofs.Tryz
@[simp] def s4 (l:List PV):List PV:=[atP l 0,atP l 1,atP l 2,atP l 3]
@[simp] def s9 (l:List PV):List PV:=[atP l 0,atP l 1,atP l 2,atP l 3,atP l 4,atP l 5,atP l 6,atP l 7,atP l 8]
@[simp] def s16 (l:List PV):List PV:=[atP l 0,atP l 1,atP l 2,atP l 3,atP l 4,atP l 5,atP l 6,atP l 7,atP l 8,atP l 9,atP l 10,atP l 11,atP l 12,atP l 13,atP l 14,atP l 15]
@[simp] def s21 (l:List PV):List PV:=[atP l 0,atP l 1,atP l 2,atP l 3,atP l 4,atP l 5,atP l 6,atP l 7,atP l 8,atP l 9,atP l 10,atP l 11,atP l 12,atP l 13,atP l 14,atP l 15,atP l 16,atP l 17,atP l 18,atP l 19,atP l 20]
@[simp] def s23 (l:List PV):List PV:=[atP l 0,atP l 1,atP l 2,atP l 3,atP l 4,atP l 5,atP l 6,atP l 7,atP l 8,atP l 9,atP l 10,atP l 11,atP l 12,atP l 13,atP l 14,atP l 15,atP l 16,atP l 17,atP l 18,atP l 19,atP l 20,atP l 21,atP l 22]
@[simp] def s51 (l:List PV):List PV:=[atP l 0,atP l 1,atP l 2,atP l 3,atP l 4,atP l 5,atP l 6,atP l 7,atP l 8,atP l 9,atP l 10,atP l 11,atP l 12,atP l 13,atP l 14,atP l 15,atP l 16,atP l 17,atP l 18,atP l 19,atP l 20,atP l 21,atP l 22,atP l 23,atP l 24,atP l 25,atP l 26,atP l 27,atP l 28,atP l 29,atP l 30,atP l 31,atP l 32,atP l 33,atP l 34,atP l 35,atP l 36,atP l 37,atP l 38,atP l 39,atP l 40,atP l 41,atP l 42,atP l 43,atP l 44,atP l 45,atP l 46,atP l 47,atP l 48,atP l 49,atP l 50]
abbrev g0:List CK:=[.pv,.pv,.sc,.sc,.sc,.sc,.pv,.pv,.sc,.pv]
abbrev g1:List CK:=[.own true 257 17,.sc,.sc,.sc,.sc,.own true 9 1,.sc,.own true 3 1,.sc,.sc,.sc,.sc,.own true 9 1,.sc,.sc,.sc,.own true 9 1,.sc,.own true 3 1,.sc,.own true 3 1]
abbrev g2:List CK:=[.pv,.sc,.sc,.sc,.sc,.pv,.sc,.pv,.sc,.sc,.sc,.sc,.pv,.sc,.sc,.sc,.pv,.sc,.pv,.sc,.pv]
abbrev g3:List CK:=[.sc,.sc,.sc,.sc,.sc,.sc,.sc,.sc,.pv,.sc,.pv,.sc,.sc,.pv,.sc,.sc,.pv,.sc,.sc,.sc,.sc,.sc,.sc,.sc,.sc,.pv,.sc,.pv,.sc,.sc,.pv,.sc,.sc,.pv,.sc,.sc,.sc,.sc,.sc,.sc,.sc,.sc,.pv,.sc,.pv,.sc,.sc,.pv,.sc,.sc,.pv,.sc]
abbrev g4:List CK:=[.sc,.sc,.sc,.sc,.pv,.sc,.sc,.sc,.pv,.sc,.pv,.sc,.pv,.sc]
abbrev g5:List CK:=[.pv,.pv,.sc,.sc,.sc,.sc,.pv,.sc,.pv]
abbrev g6:List CK:=[.sc,.sc,.sc,.sc,.own true 9 1,.sc,.sc,.sc,.own true 9 1,.sc,.own true 3 1,.sc,.own true 3 1,.sc]
abbrev g7:List CK:=[.sc,.sc,.sc,.sc,.sc,.sc,.sc,.sc,.own true 3 1,.sc,.own true 3 1,.sc,.sc,.own true 3 1,.sc,.sc,.own true 317 2,.sc,.sc,.sc,.sc,.sc,.sc,.sc,.sc,.own true 3 1,.sc,.own true 3 1,.sc,.sc,.own true 3 1,.sc,.sc,.own true 317 2,.sc,.sc,.sc,.sc,.sc,.sc,.sc,.sc,.own true 3 1,.sc,.own true 3 1,.sc,.sc,.own true 3 1,.sc,.sc,.own true 317 2,.sc]
abbrev g10:List CK:=[.own true 90 1,.own true 259 51,.sc,.sc,.sc,.sc,.own true 9 1,.sc,.own true 3 1,.sc]
abbrev g11:List CK:=[.sc,.sc,.sc,.pv,.sc]
abbrev g12:List CK:=[.pv,.pv,.sc,.sc,.sc,.sc,.pv,.pv,.sc]
abbrev g13:List CK:=[.own true 90 1,.own true 259 51,.sc,.sc,.sc,.sc,.own true 9 1,.own true 3 1,.sc]
abbrev g15:List CK:=[.sc,.sc,.sc,.sc,.sc,.sc,.sc,.sc,.own true 3 1,.sc,.own true 3 1,.sc,.sc,.own true 3 1,.sc,.sc]
abbrev g16:List CK:=[.sc,.sc,.sc,.sc,.sc,.sc,.sc,.sc,.own true 3 1,.sc,.own true 3 1,.sc,.sc,.own true 3 1,.sc,.sc,.own true 317 2]
abbrev g17:List CK:=[.sc,.sc,.sc,.own true 9 1]
abbrev g18:List CK:=[.sc,.sc,.sc,.sc,.sc,.sc,.sc,.sc,.own true 3 1,.sc,.own true 3 1,.sc,.sc,.own true 3 1,.sc,.sc,.own true 317 2,.sc,.sc,.sc,.sc,.sc,.sc,.sc,.sc,.own true 3 1,.sc,.own true 3 1,.sc,.sc,.own true 3 1,.sc,.sc,.own true 317 2,.sc,.sc,.sc,.sc,.sc,.sc,.sc,.sc,.own true 3 1,.sc,.own true 3 1,.sc,.sc,.own true 3 1,.sc,.sc,.own true 317 2]
abbrev g19:List CK:=[.sc,.sc,.sc,.sc,.own true 9 1,.sc,.sc,.sc,.own true 9 1,.sc,.own true 3 1,.sc,.own true 3 1]
abbrev g20:List CK:=[.sc,.sc,.own true 257 17,.sc,.sc,.sc,.sc,.own true 9 1,.sc,.own true 3 1,.sc,.sc,.sc,.sc,.own true 9 1,.sc,.sc,.sc,.own true 9 1,.sc,.own true 3 1,.sc,.own true 3 1]
abbrev g21:List CK:=[.sc,.sc,.sc,.sc,.sc,.sc,.sc,.sc,.pv,.sc,.pv,.sc,.sc,.pv,.sc,.sc]
abbrev g22:List CK:=[.sc,.sc,.sc,.sc,.sc,.sc,.sc,.sc,.pv,.sc,.pv,.sc,.sc,.pv,.sc,.sc,.sc]
abbrev g25:List CK:=[.sc,.sc,.sc,.sc,.sc,.sc,.sc,.sc,.own true 3 1,.sc,.own true 3 1,.sc,.sc,.own true 3 1,.sc,.sc,.sc]
abbrev g27:List CK:=[.own true 90 1,.own true 259 51,.sc,.sc,.sc,.sc,.own true 9 1,.own true 3 1,.sc,.own true 221 23]
def Qab:GM
 | [.one a0,.one a1],k =>
  xaH a0 fun r0 =>
  xac .sub a1 r0 fun r1 =>
  xac .lss r1 (I 0) fun r2 =>
  xad r2
   (rt [.sc] [(I (-1))] k)
   (rt [.sc] [r1] k)
 | _,_=>False
theorem Qab_w:EO ⟨[212],Qab⟩:=oFz en func212 fun av k h=>by
 unfold Qab at h;split at h
 ·exact km h
 ·exact h.elim
def Qac:GM
 | [.agg u0,.one a2],k=>un 2 (fun a0 a1 =>
  call Qab [.one a0,.one a2] fun o0 =>
  xac .lss (atP o0 0) (I 0) fun r1 =>
  xad r1
   (rt [.sc] [(I (-1))] k)
   (rt [.sc] [(atP o0 0)] k)) u0
 | _,_=>False
theorem Qac_w:EO ⟨[138],Qac⟩:=oFz (ec Qab_w en) func138 fun av k h=>by
 unfold Qac at h;split at h
 ·apply xab h;clear h;intro a0 a1 h;exact km h
 ·exact h.elim
def Qad:GM
 | [.agg u0,.one a16],k=>un 16 (fun a0 a1 a2 a3 a4 a5 a6 a7 a8 a9 a10 a11 a12 a13 a14 a15 =>
  call Qac [.agg [a8,a9],.one a16] fun o0 =>
  xac .lss (atP o0 0) (I 0) fun r1 =>
  xad r1
   (rt [.sc] [(I (-1))] k)
   (call Qac [.agg [a10,a11],.one (atP o0 0)] fun o2 =>
   xac .lss (atP o2 0) (I 0) fun r3 =>
   xad r3
    (rt [.sc] [(I (-1))] k)
    (call Qac [.agg [a13,a14],.one (atP o2 0)] fun o4 =>
    xac .lss (atP o4 0) (I 0) fun r5 =>
    xad r5
     (rt [.sc] [(I (-1))] k)
     (rt [.sc] [(atP o4 0)] k)))) u0
 | _,_=>False
theorem Qad_w:EO ⟨[54],Qad⟩:=oFz (ec Qac_w en) func54 fun av k h=>by
 unfold Qad at h;split at h
 ·apply xab h;clear h;(repeat intro _);rename_i h;exact km h
 ·exact h.elim
def Qae:GM
 | [.one a0,.one a1],k =>
  xaH a0 fun r0 =>
  xac .sub a1 r0 fun r1 =>
  xac .lss r1 (I 0) fun r2 =>
  xad r2
   (rt [.sc] [(I (-1))] k)
   (rt [.sc] [r1] k)
 | _,_=>False
theorem Qae_w:EO ⟨[253],Qae⟩:=oFz en func253 fun av k h=>by
 unfold Qae at h;split at h
 ·exact km h
 ·exact h.elim
def Qaf:GM
 | [.agg u0,.one a17],k=>un 17 (fun a0 a1 a2 a3 a4 a5 a6 a7 a8 a9 a10 a11 a12 a13 a14 a15 a16 =>
  call Qad [.agg [a0,a1,a2,a3,a4,a5,a6,a7,a8,a9,a10,a11,a12,a13,a14,a15],.one a17] fun o0 =>
  xac .lss (atP o0 0) (I 0) fun r1 =>
  xad r1
   (rt [.sc] [(I (-1))] k)
   (call Qae [.one a16,.one (atP o0 0)] fun o2 =>
   xac .lss (atP o2 0) (I 0) fun r3 =>
   xad r3
    (rt [.sc] [(I (-1))] k)
    (rt [.sc] [(atP o2 0)] k))) u0
 | _,_=>False
theorem Qaf_w:EO ⟨[187],Qaf⟩:=oFz (ec Qad_w (ec Qae_w en)) func187 fun av k h=>by
 unfold Qaf at h;split at h
 ·apply xab h;clear h;(repeat intro _);rename_i h;exact km h
 ·exact h.elim
def Qag_r0 (v:List PV) (K:List PV→Prop) (x0k:Prop) (x1k:PV→PV→PV→PV→Prop):Prop :=
 un 4 (fun v0 v1 v2 v3 =>
  xaH v0 fun r0 =>
  xac .lss v3 r0 fun r1 =>
  xad r1
   (xaj 17 v0 v3 fun c2 =>
   call Qaf [.agg [(atP c2 0),(atP c2 1),(atP c2 2),(atP c2 3),(atP c2 4),(atP c2 5),(atP c2 6),(atP c2 7),(atP c2 8),(atP c2 9),(atP c2 10),(atP c2 11),(atP c2 12),(atP c2 13),(atP c2 14),(atP c2 15),(atP c2 16)],.one v1] fun o3 =>
   xac .lss (atP o3 0) (I 0) fun r4 =>
   xad r4
    (x0k)
    (xac .add v3 (I 1) fun r5 =>
    K [v0,(atP o3 0),v2,r5]))
   (x1k v0 v1 v2 v3)) v
def Qag:GM
 | [.one a0,.one a1],k =>
  xaH a0 fun r0 =>
  xac .sub a1 r0 fun r1 =>
  xac .lss r1 (I 0) fun r2 =>
  xad r2
   (rt [.sc] [(I (-1))] k)
   (lp (fun L w=>Qag_r0 w L
    (rt [.sc] [(I (-1))] k)
    (fun q6 q7 q8 q9=>rt [.sc] [q7] k)) [a0,r1,(I 0),(I 0)])
 | _,_=>False
def Qag_l:List LE:=[⟨none,0,⟨[(0,.one zB),(1,.one zB),(4,.one zB),(5,.one zB)],[],[],0,27,[]⟩,fun K k v=>Qag_r0 v K (k .ret ⟨[(4,.one (.pv (I (-1))))],[],[],1,27,[]⟩) (fun x0 x1 x2 x3=>k (.exit 0) ⟨[(0,.one (.pv x0)),(1,.one (.pv x1)),(4,.one (.pv x2)),(5,.one (.pv x3))],[],[],0,27,[]⟩)⟩]
theorem Qag_s:xaC [⟨[187],Qaf⟩] TT.nofl (kk [0,1,4,5]) Qag_l f107 Qag_l:=⟨fun v K k h=>by
 apply xab h;exact fun v0 v1 v2 v3 h=>km h
 ,trivial⟩
theorem Qag_w:EO ⟨[107],Qag⟩:=oF (ec Qaf_w en) (keep:=(kk [0,1,4,5])) (l:=Qag_l) func107 Qag_s fun av k h=>by
 unfold Qag at h;split at h
 ·exact km h
 ·exact h.elim
def Qah_r0 (v:List PV) (K:List PV→Prop) (x0k:Prop) (x1k:PV→PV→PV→PV→Prop):Prop :=
 un 4 (fun v0 v1 v2 v3 =>
  xaH v0 fun r0 =>
  xac .lss v3 r0 fun r1 =>
  xad r1
   (xaj 1 v0 v3 fun c2 =>
   xlV (atP c2 0) fun r3 =>
   xac .sub v1 r3 fun r4 =>
   xac .lss r4 (I 0) fun r5 =>
   xad r5
    (x0k)
    (xac .add v3 (I 1) fun r6 =>
    K [v0,r4,v2,r6]))
   (x1k v0 v1 v2 v3)) v
def Qah:GM
 | [.one a0,.one a1],k =>
  xaH a0 fun r0 =>
  xac .sub a1 r0 fun r1 =>
  xac .lss r1 (I 0) fun r2 =>
  xad r2
   (rt [.sc] [(I (-1))] k)
   (lp (fun L w=>Qah_r0 w L
    (rt [.sc] [(I (-1))] k)
    (fun q7 q8 q9 q10=>rt [.sc] [q8] k)) [a0,r1,(I 0),(I 0)])
 | _,_=>False
def Qah_l:List LE:=[⟨none,0,⟨[(0,.one zB),(1,.one zB),(4,.one zB),(5,.one zB)],[],[],0,28,[]⟩,fun K k v=>Qah_r0 v K (k .ret ⟨[(4,.one (.pv (I (-1))))],[],[],0,28,[]⟩) (fun x0 x1 x2 x3=>k (.exit 0) ⟨[(0,.one (.pv x0)),(1,.one (.pv x1)),(4,.one (.pv x2)),(5,.one (.pv x3))],[],[],0,28,[]⟩)⟩]
theorem Qah_s:xaC [] TT.nofl (kk [0,1,4,5]) Qah_l f16 Qah_l:=⟨fun v K k h=>by
 apply xab h;exact fun v0 v1 v2 v3 h=>km h
 ,trivial⟩
theorem Qah_w:EO ⟨[16],Qah⟩:=oF en (keep:=(kk [0,1,4,5])) (l:=Qah_l) func16 Qah_s fun av k h=>by
 unfold Qah at h;split at h
 ·exact km h
 ·exact h.elim
def Qai:GM
 | [.agg u0,.one a4],k=>un 4 (fun a0 a1 a2 a3 =>
  xlV a0 fun r0 =>
  xac .sub a4 r0 fun r1 =>
  xac .lss r1 (I 0) fun r2 =>
  xad r2
   (rt [.sc] [(I (-1))] k)
   (call Qah [.one a3,.one r1] fun o3 =>
   xac .lss (atP o3 0) (I 0) fun r4 =>
   xad r4
    (rt [.sc] [(I (-1))] k)
    (rt [.sc] [(atP o3 0)] k))) u0
 | _,_=>False
theorem Qai_w:EO ⟨[139],Qai⟩:=oFz (ec Qah_w en) func139 fun av k h=>by
 unfold Qai at h;split at h
 ·apply xab h;clear h;intro a0 a1 a2 a3 h;exact km h
 ·exact h.elim
def Qaj:GM
 | [.agg u0,.one a2],k=>un 2 (fun a0 a1 =>
  call Qab [.one a1,.one a2] fun o0 =>
  xac .lss (atP o0 0) (I 0) fun r1 =>
  xad r1
   (rt [.sc] [(I (-1))] k)
   (rt [.sc] [(atP o0 0)] k)) u0
 | _,_=>False
theorem Qaj_w:EO ⟨[275],Qaj⟩:=oFz (ec Qab_w en) func275 fun av k h=>by
 unfold Qaj at h;split at h
 ·apply xab h;clear h;intro a0 a1 h;exact km h
 ·exact h.elim
def Qak:GM
 | [.agg u0,.one a13],k=>un 13 (fun a0 a1 a2 a3 a4 a5 a6 a7 a8 a9 a10 a11 a12 =>
  call Qai [.agg [a1,a2,a3,a4],.one a13] fun o0 =>
  xac .lss (atP o0 0) (I 0) fun r1 =>
  xad r1
   (rt [.sc] [(I (-1))] k)
   (call Qai [.agg [a5,a6,a7,a8],.one (atP o0 0)] fun o2 =>
   xac .lss (atP o2 0) (I 0) fun r3 =>
   xad r3
    (rt [.sc] [(I (-1))] k)
    (call Qaj [.agg [a9,a10],.one (atP o2 0)] fun o4 =>
    xac .lss (atP o4 0) (I 0) fun r5 =>
    xad r5
     (rt [.sc] [(I (-1))] k)
     (call Qaj [.agg [a11,a12],.one (atP o4 0)] fun o6 =>
     xac .lss (atP o6 0) (I 0) fun r7 =>
     xad r7
      (rt [.sc] [(I (-1))] k)
      (rt [.sc] [(atP o6 0)] k))))) u0
 | _,_=>False
theorem Qak_w:EO ⟨[276],Qak⟩:=oFz (ec Qai_w (ec Qaj_w en)) func276 fun av k h=>by
 unfold Qak at h;split at h
 ·apply xab h;clear h;(repeat intro _);rename_i h;exact km h
 ·exact h.elim
def Qal:GM
 | [.agg u0,.one a21],k=>un 21 (fun a0 a1 a2 a3 a4 a5 a6 a7 a8 a9 a10 a11 a12 a13 a14 a15 a16 a17 a18 a19 a20 =>
  call Qag [.one a0,.one a21] fun o0 =>
  xac .lss (atP o0 0) (I 0) fun r1 =>
  xad r1
   (rt [.sc] [(I (-1))] k)
   (call Qai [.agg [a2,a3,a4,a5],.one (atP o0 0)] fun o2 =>
   xac .lss (atP o2 0) (I 0) fun r3 =>
   xad r3
    (rt [.sc] [(I (-1))] k)
    (call Qaj [.agg [a6,a7],.one (atP o2 0)] fun o4 =>
    xac .lss (atP o4 0) (I 0) fun r5 =>
    xad r5
     (rt [.sc] [(I (-1))] k)
     (call Qak [.agg [a8,a9,a10,a11,a12,a13,a14,a15,a16,a17,a18,a19,a20],.one (atP o4 0)] fun o6 =>
     xac .lss (atP o6 0) (I 0) fun r7 =>
     xad r7
      (rt [.sc] [(I (-1))] k)
      (rt [.sc] [(atP o6 0)] k))))) u0
 | _,_=>False
theorem Qal_w:EO ⟨[218],Qal⟩:=oFz (ec Qag_w (ec Qai_w (ec Qaj_w (ec Qak_w en)))) func218 fun av k h=>by
 unfold Qal at h;split at h
 ·apply xab h;clear h;(repeat intro _);rename_i h;exact km h
 ·exact h.elim
def Qam:GM
 | [.agg u0,.one a23],k=>un 23 (fun a0 a1 a2 a3 a4 a5 a6 a7 a8 a9 a10 a11 a12 a13 a14 a15 a16 a17 a18 a19 a20 a21 a22 =>
  xlV a1 fun r0 =>
  xac .sub a23 r0 fun r1 =>
  xac .lss r1 (I 0) fun r2 =>
  xad r2
   (rt [.sc] [(I (-1))] k)
   (call Qal [.agg [a2,a3,a4,a5,a6,a7,a8,a9,a10,a11,a12,a13,a14,a15,a16,a17,a18,a19,a20,a21,a22],.one r1] fun o3 =>
   xac .lss (atP o3 0) (I 0) fun r4 =>
   xad r4
    (rt [.sc] [(I (-1))] k)
    (rt [.sc] [(atP o3 0)] k))) u0
 | _,_=>False
theorem Qam_w:EO ⟨[147],Qam⟩:=oFz (ec Qal_w en) func147 fun av k h=>by
 unfold Qam at h;split at h
 ·apply xab h;clear h;(repeat intro _);rename_i h;exact km h
 ·exact h.elim
def Qan_r0 (v:List PV) (K:List PV→Prop) (x0k:Prop) (x1k:PV→PV→PV→PV→Prop):Prop :=
 un 4 (fun v0 v1 v2 v3 =>
  xaH v0 fun r0 =>
  xac .lss v3 r0 fun r1 =>
  xad r1
   (xaj 23 v0 v3 fun c2 =>
   call Qam [.agg [(atP c2 0),(atP c2 1),(atP c2 2),(atP c2 3),(atP c2 4),(atP c2 5),(atP c2 6),(atP c2 7),(atP c2 8),(atP c2 9),(atP c2 10),(atP c2 11),(atP c2 12),(atP c2 13),(atP c2 14),(atP c2 15),(atP c2 16),(atP c2 17),(atP c2 18),(atP c2 19),(atP c2 20),(atP c2 21),(atP c2 22)],.one v1] fun o3 =>
   xac .lss (atP o3 0) (I 0) fun r4 =>
   xad r4
    (x0k)
    (xac .add v3 (I 1) fun r5 =>
    K [v0,(atP o3 0),v2,r5]))
   (x1k v0 v1 v2 v3)) v
def Qan:GM
 | [.one a0,.one a1],k =>
  xaH a0 fun r0 =>
  xac .sub a1 r0 fun r1 =>
  xac .lss r1 (I 0) fun r2 =>
  xad r2
   (rt [.sc] [(I (-1))] k)
   (lp (fun L w=>Qan_r0 w L
    (rt [.sc] [(I (-1))] k)
    (fun q6 q7 q8 q9=>rt [.sc] [q7] k)) [a0,r1,(I 0),(I 0)])
 | _,_=>False
def Qan_l:List LE:=[⟨none,0,⟨[(0,.one zB),(1,.one zB),(4,.one zB),(5,.one zB)],[],[],0,27,[]⟩,fun K k v=>Qan_r0 v K (k .ret ⟨[(4,.one (.pv (I (-1))))],[],[],1,27,[]⟩) (fun x0 x1 x2 x3=>k (.exit 0) ⟨[(0,.one (.pv x0)),(1,.one (.pv x1)),(4,.one (.pv x2)),(5,.one (.pv x3))],[],[],0,27,[]⟩)⟩]
theorem Qan_s:xaC [⟨[147],Qam⟩] TT.nofl (kk [0,1,4,5]) Qan_l f64 Qan_l:=⟨fun v K k h=>by
 apply xab h;exact fun v0 v1 v2 v3 h=>km h
 ,trivial⟩
theorem Qan_w:EO ⟨[64],Qan⟩:=oF (ec Qam_w en) (keep:=(kk [0,1,4,5])) (l:=Qan_l) func64 Qan_s fun av k h=>by
 unfold Qan at h;split at h
 ·exact km h
 ·exact h.elim
def Qao_r0 (v:List PV) (K:List PV→Prop) (x0k:PV→PV→PV→PV→Prop):Prop :=
 un 4 (fun v0 v1 v2 v3 =>
  xaH v0 fun r0 =>
  xac .lss v1 r0 fun r1 =>
  xad r1
   (xaj 1 v0 v1 fun c2 =>
   xdm 1 v3 v1 fun n3 =>
   (xae [.pv (I 0)] [.pv (atP c2 0)])∧xmu v3 n3 0 [(atP c2 0)] fun r4 =>
   xac .add v1 (I 1) fun r5 =>
   K [v0,r5,v2,r4])
   (x0k v0 v1 v2 v3)) v
def Qao:GM
 | [.one a0],k =>
  xaH a0 fun r0 =>
  (r0=r0)∧(1=1)∧xgW 1 r0 [(I 0)] fun r1 =>
  lp (fun L w=>Qao_r0 w L
   (fun q6 q7 q8 q9=>rt [.own true 3 1] [q9] k)) [a0,(I 0),(.list 1 []),r1]
 | _,_=>False
def Qao_l:List LE:=[⟨none,0,⟨[(0,.one zB),(2,.one (.own 1)),(3,.one (.own 0)),(4,.one zB)],[],[(1,⟨.deep,3,1,(.bool false)⟩),(0,⟨.deep,3,1,(.bool false)⟩)],2,22,[]⟩,fun K k v=>Qao_r0 v K (fun x0 x1 x2 x3=>k (.exit 0) ⟨[(0,.one (.pv x0)),(2,.one (.own 1)),(3,.one (.own 0)),(4,.one (.pv x1))],[],[(1,⟨.deep,3,1,x2⟩),(0,⟨.deep,3,1,x3⟩)],2,22,[]⟩)⟩]
theorem Qao_s:xaC [] TT.nofl (kk [0,2,3,4]) Qao_l f215 Qao_l:=⟨fun v K k h=>by
 apply xab h;exact fun v0 v1 v2 v3 h=>km h
 ,trivial⟩
theorem Qao_w:EO ⟨[215],Qao⟩:=oF en (keep:=(kk [0,2,3,4])) (l:=Qao_l) func215 Qao_s fun av k h=>by
 unfold Qao at h;split at h
 ·exact km h
 ·exact h.elim
def Qap:GM
 | [.agg u0],k=>un 2 (fun a0 a1 =>
  call Qao [.one a0] fun o0 =>
  rt [.own true 3 1,.sc] [(atP o0 0),a1] k) u0
 | _,_=>False
theorem Qap_w:EO ⟨[142],Qap⟩:=oFz (ec Qao_w en) func142 fun av k h=>by
 unfold Qap at h;split at h
 ·apply xab h;clear h;intro a0 a1 h;exact km h
 ·exact h.elim
def Qaq:GM
 | [.agg u0],k=>un 16 (fun a0 a1 a2 a3 a4 a5 a6 a7 a8 a9 a10 a11 a12 a13 a14 a15 =>
  call Qap [.agg [a8,a9]] fun o0 =>
  call Qap [.agg [a10,a11]] fun o1 =>
  call Qap [.agg [a13,a14]] fun o2 =>
  rt g15 [a0,a1,a2,a3,a4,a5,a6,a7,(atP o0 0),(atP o0 1),(atP o1 0),(atP o1 1),a12,(atP o2 0),(atP o2 1),a15] k) u0
 | _,_=>False
theorem Qaq_w:EO ⟨[57],Qaq⟩:=oFz (ec Qap_w en) func57 fun av k h=>by
 unfold Qaq at h;split at h
 ·apply xab h;clear h;(repeat intro _);rename_i h;exact km h
 ·exact h.elim
def Qar:GM
 | [.agg u0],k=>un 2 (fun a0 a1 =>
  rt [.sc,.sc] [a0,a1] k) u0
 | _,_=>False
theorem Qar_w:EO ⟨[316],Qar⟩:=oFz en func316 fun av k h=>by
 unfold Qar at h;split at h
 ·apply xab h;clear h;intro a0 a1 h;exact km h
 ·exact h.elim
def Qas_r0 (v:List PV) (K:List PV→Prop) (x0k:PV→PV→PV→PV→Prop):Prop :=
 un 4 (fun v0 v1 v2 v3 =>
  xaH v0 fun r0 =>
  xac .lss v1 r0 fun r1 =>
  xad r1
   (xaj 2 v0 v1 fun c2 =>
   call Qar [.agg [(atP c2 0),(atP c2 1)]] fun o3 =>
   xdm 2 v3 v1 fun n4 =>
   (xae [.pv (I 0),.pv (I 0)] [.pv (atP o3 0),.pv (atP o3 1)])∧xmu v3 n4 0 [(atP o3 0),(atP o3 1)] fun r5 =>
   xac .add v1 (I 1) fun r6 =>
   K [v0,r6,v2,r5])
   (x0k v0 v1 v2 v3)) v
def Qas:GM
 | [.one a0],k =>
  xaH a0 fun r0 =>
  (r0=r0)∧(2=2)∧xgW 2 r0 [(I 0),(I 0)] fun r1 =>
  lp (fun L w=>Qas_r0 w L
   (fun q7 q8 q9 q10=>rt [.own true 317 2] [q10] k)) [a0,(I 0),(.list 2 []),r1]
 | _,_=>False
def Qas_l:List LE:=[⟨none,0,⟨[(0,.one zB),(2,.one (.own 1)),(3,.one (.own 0)),(4,.one zB)],[],[(1,⟨.deep,317,2,(.bool false)⟩),(0,⟨.deep,317,2,(.bool false)⟩)],2,23,[]⟩,fun K k v=>Qas_r0 v K (fun x0 x1 x2 x3=>k (.exit 0) ⟨[(0,.one (.pv x0)),(2,.one (.own 1)),(3,.one (.own 0)),(4,.one (.pv x1))],[],[(1,⟨.deep,317,2,x2⟩),(0,⟨.deep,317,2,x3⟩)],2,23,[]⟩)⟩]
theorem Qas_s:xaC [⟨[316],Qar⟩] TT.nofl (kk [0,2,3,4]) Qas_l f257 Qas_l:=⟨fun v K k h=>by
 apply xab h;exact fun v0 v1 v2 v3 h=>km h
 ,trivial⟩
theorem Qas_w:EO ⟨[257],Qas⟩:=oF (ec Qar_w en) (keep:=(kk [0,2,3,4])) (l:=Qas_l) func257 Qas_s fun av k h=>by
 unfold Qas at h;split at h
 ·exact km h
 ·exact h.elim
def Qat:GM
 | [.agg u0],k=>un 17 (fun a0 a1 a2 a3 a4 a5 a6 a7 a8 a9 a10 a11 a12 a13 a14 a15 a16 =>
  call Qaq [.agg [a0,a1,a2,a3,a4,a5,a6,a7,a8,a9,a10,a11,a12,a13,a14,a15]] fun o0 =>
  call Qas [.one a16] fun o1 =>
  rt g16 [(atP o0 0),(atP o0 1),(atP o0 2),(atP o0 3),(atP o0 4),(atP o0 5),(atP o0 6),(atP o0 7),(atP o0 8),(atP o0 9),(atP o0 10),(atP o0 11),(atP o0 12),(atP o0 13),(atP o0 14),(atP o0 15),(atP o1 0)] k) u0
 | _,_=>False
theorem Qat_w:EO ⟨[195],Qat⟩:=oFz (ec Qaq_w (ec Qas_w en)) func195 fun av k h=>by
 unfold Qat at h;split at h
 ·apply xab h;clear h;(repeat intro _);rename_i h;exact km h
 ·exact h.elim
def Qau_r0 (v:List PV) (K:List PV→Prop) (x0k:PV→PV→PV→PV→Prop):Prop :=
 un 4 (fun v0 v1 v2 v3 =>
  xaH v0 fun r0 =>
  xac .lss v1 r0 fun r1 =>
  xad r1
   (xaj 17 v0 v1 fun c2 =>
   call Qat [.agg [(atP c2 0),(atP c2 1),(atP c2 2),(atP c2 3),(atP c2 4),(atP c2 5),(atP c2 6),(atP c2 7),(atP c2 8),(atP c2 9),(atP c2 10),(atP c2 11),(atP c2 12),(atP c2 13),(atP c2 14),(atP c2 15),(atP c2 16)]] fun o3 =>
   xdm 17 v3 v1 fun n4 =>
   (xae [.pv (I 0),.pv (I 0),.pv (I 0),.pv (I 0),.pv (I 0),.pv (I 0),.pv (I 0),.pv (I 0),.nil 3 1,.pv (I 0),.nil 3 1,.pv (I 0),.pv (I 0),.nil 3 1,.pv (I 0),zB,.nil 317 2] [.pv (atP o3 0),.pv (atP o3 1),.pv (atP o3 2),.pv (atP o3 3),.pv (atP o3 4),.pv (atP o3 5),.pv (atP o3 6),.pv (atP o3 7),.own 10,.pv (atP o3 9),.own 12,.pv (atP o3 11),.pv (atP o3 12),.own 15,.pv (atP o3 14),.pv (atP o3 15),.own 18])∧xmu v3 n4 0 [(atP o3 0),(atP o3 1),(atP o3 2),(atP o3 3),(atP o3 4),(atP o3 5),(atP o3 6),(atP o3 7),(atP o3 8),(atP o3 9),(atP o3 10),(atP o3 11),(atP o3 12),(atP o3 13),(atP o3 14),(atP o3 15),(atP o3 16)] fun r5 =>
   xac .add v1 (I 1) fun r6 =>
   K [v0,r6,v2,r5])
   (x0k v0 v1 v2 v3)) v
def Qau:GM
 | [.one a0],k =>
  xaH a0 fun r0 =>
  (r0=r0)∧(17=17)∧xgW 17 r0 [(I 0),(I 0),(I 0),(I 0),(I 0),(I 0),(I 0),(I 0),(.list 1 []),(I 0),(.list 1 []),(I 0),(I 0),(.list 1 []),(I 0),(.bool false),(.list 2 [])] fun r1 =>
  lp (fun L w=>Qau_r0 w L
   (fun q7 q8 q9 q10=>rt [.own true 257 17] [q10] k)) [a0,(I 0),(.list 17 []),r1]
 | _,_=>False
def Qau_l:List LE:=[⟨none,0,⟨[(0,.one zB),(2,.one (.own 1)),(3,.one (.own 0)),(4,.one zB)],[],[(1,⟨.deep,257,17,(.bool false)⟩),(0,⟨.deep,257,17,(.bool false)⟩)],2,23,[]⟩,fun K k v=>Qau_r0 v K (fun x0 x1 x2 x3=>k (.exit 0) ⟨[(0,.one (.pv x0)),(2,.one (.own 1)),(3,.one (.own 0)),(4,.one (.pv x1))],[],[(1,⟨.deep,257,17,x2⟩),(0,⟨.deep,257,17,x3⟩)],2,23,[]⟩)⟩]
theorem Qau_s:xaC [⟨[195],Qat⟩] TT.nofl (kk [0,2,3,4]) Qau_l f116 Qau_l:=⟨fun v K k h=>by
 apply xab h;exact fun v0 v1 v2 v3 h=>km h
 ,trivial⟩
theorem Qau_w:EO ⟨[116],Qau⟩:=oF (ec Qat_w en) (keep:=(kk [0,2,3,4])) (l:=Qau_l) func116 Qau_s fun av k h=>by
 unfold Qau at h;split at h
 ·exact km h
 ·exact h.elim
def Qav_r0 (v:List PV) (K:List PV→Prop) (x0k:PV→PV→PV→PV→Prop):Prop :=
 un 4 (fun v0 v1 v2 v3 =>
  xaH v0 fun r0 =>
  xac .lss v1 r0 fun r1 =>
  xad r1
   (xaj 1 v0 v1 fun c2 =>
   xdm 1 v3 v1 fun n3 =>
   (xae [.pv (.str ⟨#[]⟩)] [.pv (atP c2 0)])∧xmu v3 n3 0 [(atP c2 0)] fun r4 =>
   xac .add v1 (I 1) fun r5 =>
   K [v0,r5,v2,r4])
   (x0k v0 v1 v2 v3)) v
def Qav:GM
 | [.one a0],k =>
  xaH a0 fun r0 =>
  (r0=r0)∧(1=1)∧xgW 1 r0 [(.str ⟨#[]⟩)] fun r1 =>
  lp (fun L w=>Qav_r0 w L
   (fun q6 q7 q8 q9=>rt [.own true 9 1] [q9] k)) [a0,(I 0),(.list 1 []),r1]
 | _,_=>False
def Qav_l:List LE:=[⟨none,0,⟨[(0,.one zB),(2,.one (.own 1)),(3,.one (.own 0)),(4,.one zB)],[],[(1,⟨.deep,9,1,(.bool false)⟩),(0,⟨.deep,9,1,(.bool false)⟩)],2,22,[]⟩,fun K k v=>Qav_r0 v K (fun x0 x1 x2 x3=>k (.exit 0) ⟨[(0,.one (.pv x0)),(2,.one (.own 1)),(3,.one (.own 0)),(4,.one (.pv x1))],[],[(1,⟨.deep,9,1,x2⟩),(0,⟨.deep,9,1,x3⟩)],2,22,[]⟩)⟩]
theorem Qav_s:xaC [] TT.nofl (kk [0,2,3,4]) Qav_l f19 Qav_l:=⟨fun v K k h=>by
 apply xab h;exact fun v0 v1 v2 v3 h=>km h
 ,trivial⟩
theorem Qav_w:EO ⟨[19],Qav⟩:=oF en (keep:=(kk [0,2,3,4])) (l:=Qav_l) func19 Qav_s fun av k h=>by
 unfold Qav at h;split at h
 ·exact km h
 ·exact h.elim
def Qaw:GM
 | [.agg u0],k=>un 4 (fun a0 a1 a2 a3 =>
  call Qav [.one a3] fun o0 =>
  rt g17 [a0,a1,a2,(atP o0 0)] k) u0
 | _,_=>False
theorem Qaw_w:EO ⟨[143],Qaw⟩:=oFz (ec Qav_w en) func143 fun av k h=>by
 unfold Qaw at h;split at h
 ·apply xab h;clear h;intro a0 a1 a2 a3 h;exact km h
 ·exact h.elim
def Qax:GM
 | [.agg u0],k=>un 2 (fun a0 a1 =>
  call Qao [.one a1] fun o0 =>
  rt [.sc,.own true 3 1] [a0,(atP o0 0)] k) u0
 | _,_=>False
theorem Qax_w:EO ⟨[277],Qax⟩:=oFz (ec Qao_w en) func277 fun av k h=>by
 unfold Qax at h;split at h
 ·apply xab h;clear h;intro a0 a1 h;exact km h
 ·exact h.elim
def Qay:GM
 | [.agg u0],k=>un 13 (fun a0 a1 a2 a3 a4 a5 a6 a7 a8 a9 a10 a11 a12 =>
  call Qaw [.agg [a1,a2,a3,a4]] fun o0 =>
  call Qaw [.agg [a5,a6,a7,a8]] fun o1 =>
  call Qax [.agg [a9,a10]] fun o2 =>
  call Qax [.agg [a11,a12]] fun o3 =>
  rt g19 [a0,(atP o0 0),(atP o0 1),(atP o0 2),(atP o0 3),(atP o1 0),(atP o1 1),(atP o1 2),(atP o1 3),(atP o2 0),(atP o2 1),(atP o3 0),(atP o3 1)] k) u0
 | _,_=>False
theorem Qay_w:EO ⟨[278],Qay⟩:=oFz (ec Qaw_w (ec Qax_w en)) func278 fun av k h=>by
 unfold Qay at h;split at h
 ·apply xab h;clear h;(repeat intro _);rename_i h;exact km h
 ·exact h.elim
def Qaz:GM
 | [.agg u0],k=>un 21 (fun a0 a1 a2 a3 a4 a5 a6 a7 a8 a9 a10 a11 a12 a13 a14 a15 a16 a17 a18 a19 a20 =>
  call Qau [.one a0] fun o0 =>
  call Qaw [.agg [a2,a3,a4,a5]] fun o1 =>
  call Qax [.agg [a6,a7]] fun o2 =>
  call Qay [.agg [a8,a9,a10,a11,a12,a13,a14,a15,a16,a17,a18,a19,a20]] fun o3 =>
  rt g1 [(atP o0 0),a1,(atP o1 0),(atP o1 1),(atP o1 2),(atP o1 3),(atP o2 0),(atP o2 1),(atP o3 0),(atP o3 1),(atP o3 2),(atP o3 3),(atP o3 4),(atP o3 5),(atP o3 6),(atP o3 7),(atP o3 8),(atP o3 9),(atP o3 10),(atP o3 11),(atP o3 12)] k) u0
 | _,_=>False
theorem Qaz_w:EO ⟨[219],Qaz⟩:=oFz (ec Qau_w (ec Qaw_w (ec Qax_w (ec Qay_w en)))) func219 fun av k h=>by
 unfold Qaz at h;split at h
 ·apply xab h;clear h;(repeat intro _);rename_i h;exact km h
 ·exact h.elim
def Qba:GM
 | [.agg u0],k=>un 23 (fun a0 a1 a2 a3 a4 a5 a6 a7 a8 a9 a10 a11 a12 a13 a14 a15 a16 a17 a18 a19 a20 a21 a22 =>
  call Qaz [.agg [a2,a3,a4,a5,a6,a7,a8,a9,a10,a11,a12,a13,a14,a15,a16,a17,a18,a19,a20,a21,a22]] fun o0 =>
  rt g20 [a0,a1,(atP o0 0),(atP o0 1),(atP o0 2),(atP o0 3),(atP o0 4),(atP o0 5),(atP o0 6),(atP o0 7),(atP o0 8),(atP o0 9),(atP o0 10),(atP o0 11),(atP o0 12),(atP o0 13),(atP o0 14),(atP o0 15),(atP o0 16),(atP o0 17),(atP o0 18),(atP o0 19),(atP o0 20)] k) u0
 | _,_=>False
theorem Qba_w:EO ⟨[148],Qba⟩:=oFz (ec Qaz_w en) func148 fun av k h=>by
 unfold Qba at h;split at h
 ·apply xab h;clear h;(repeat intro _);rename_i h;exact km h
 ·exact h.elim
def Qbb_r0 (v:List PV) (K:List PV→Prop) (x0k:PV→PV→PV→PV→Prop):Prop :=
 un 4 (fun v0 v1 v2 v3 =>
  xaH v0 fun r0 =>
  xac .lss v1 r0 fun r1 =>
  xad r1
   (xaj 23 v0 v1 fun c2 =>
   call Qba [.agg [(atP c2 0),(atP c2 1),(atP c2 2),(atP c2 3),(atP c2 4),(atP c2 5),(atP c2 6),(atP c2 7),(atP c2 8),(atP c2 9),(atP c2 10),(atP c2 11),(atP c2 12),(atP c2 13),(atP c2 14),(atP c2 15),(atP c2 16),(atP c2 17),(atP c2 18),(atP c2 19),(atP c2 20),(atP c2 21),(atP c2 22)]] fun o3 =>
   xdm 23 v3 v1 fun n4 =>
   (xae [.pv (I 0),.pv (.str ⟨#[]⟩),.nil 257 17,zB,.pv (.str ⟨#[]⟩),.pv (I 0),.pv (I 0),.nil 9 1,.pv (I 0),.nil 3 1,.pv (I 0),.pv (.str ⟨#[]⟩),.pv (I 0),.pv (I 0),.nil 9 1,.pv (.str ⟨#[]⟩),.pv (I 0),.pv (I 0),.nil 9 1,.pv (I 0),.nil 3 1,.pv (I 0),.nil 3 1] [.pv (atP o3 0),.pv (atP o3 1),.own 4,.pv (atP o3 3),.pv (atP o3 4),.pv (atP o3 5),.pv (atP o3 6),.own 9,.pv (atP o3 8),.own 11,.pv (atP o3 10),.pv (atP o3 11),.pv (atP o3 12),.pv (atP o3 13),.own 16,.pv (atP o3 15),.pv (atP o3 16),.pv (atP o3 17),.own 20,.pv (atP o3 19),.own 22,.pv (atP o3 21),.own 24])∧xmu v3 n4 0 [(atP o3 0),(atP o3 1),(atP o3 2),(atP o3 3),(atP o3 4),(atP o3 5),(atP o3 6),(atP o3 7),(atP o3 8),(atP o3 9),(atP o3 10),(atP o3 11),(atP o3 12),(atP o3 13),(atP o3 14),(atP o3 15),(atP o3 16),(atP o3 17),(atP o3 18),(atP o3 19),(atP o3 20),(atP o3 21),(atP o3 22)] fun r5 =>
   xac .add v1 (I 1) fun r6 =>
   K [v0,r6,v2,r5])
   (x0k v0 v1 v2 v3)) v
def Qbb:GM
 | [.one a0],k =>
  xaH a0 fun r0 =>
  (r0=r0)∧(23=23)∧xgW 23 r0 [(I 0),(.str ⟨#[]⟩),(.list 17 []),(.bool false),(.str ⟨#[]⟩),(I 0),(I 0),(.list 1 []),(I 0),(.list 1 []),(I 0),(.str ⟨#[]⟩),(I 0),(I 0),(.list 1 []),(.str ⟨#[]⟩),(I 0),(I 0),(.list 1 []),(I 0),(.list 1 []),(I 0),(.list 1 [])] fun r1 =>
  lp (fun L w=>Qbb_r0 w L
   (fun q7 q8 q9 q10=>rt [.own true 221 23] [q10] k)) [a0,(I 0),(.list 23 []),r1]
 | _,_=>False
def Qbb_l:List LE:=[⟨none,0,⟨[(0,.one zB),(2,.one (.own 1)),(3,.one (.own 0)),(4,.one zB)],[],[(1,⟨.deep,221,23,(.bool false)⟩),(0,⟨.deep,221,23,(.bool false)⟩)],2,23,[]⟩,fun K k v=>Qbb_r0 v K (fun x0 x1 x2 x3=>k (.exit 0) ⟨[(0,.one (.pv x0)),(2,.one (.own 1)),(3,.one (.own 0)),(4,.one (.pv x1))],[],[(1,⟨.deep,221,23,x2⟩),(0,⟨.deep,221,23,x3⟩)],2,23,[]⟩)⟩]
theorem Qbb_s:xaC [⟨[148],Qba⟩] TT.nofl (kk [0,2,3,4]) Qbb_l f65 Qbb_l:=⟨fun v K k h=>by
 apply xab h;exact fun v0 v1 v2 v3 h=>km h
 ,trivial⟩
theorem Qbb_w:EO ⟨[65],Qbb⟩:=oF (ec Qba_w en) (keep:=(kk [0,2,3,4])) (l:=Qbb_l) func65 Qbb_s fun av k h=>by
 unfold Qbb at h;split at h
 ·exact km h
 ·exact h.elim
def Qbc:GM
 | [.agg u0],k=>un 2 (fun a0 a1 =>
  xbd 1 a0 (.list 1 []) fun r0 =>
  rt [.pv,.sc] [r0,a1] k) u0
 | _,_=>False
theorem Qbc_w:EO ⟨[297],Qbc⟩:=oNz en func297 fun av k h=>by
 unfold Qbc at h;split at h
 ·apply xab h;clear h;intro a0 a1 h;exact km h
 ·exact h.elim
def Qbd:GM
 | [.agg u0],k=>un 16 (fun a0 a1 a2 a3 a4 a5 a6 a7 a8 a9 a10 a11 a12 a13 a14 a15 =>
  call Qbc [.agg [a8,a9]] fun o0 =>
  call Qbc [.agg [a10,a11]] fun o1 =>
  call Qbc [.agg [a13,a14]] fun o2 =>
  rt g21 [a0,a1,a2,a3,a4,a5,a6,a7,(atP o0 0),(atP o0 1),(atP o1 0),(atP o1 1),a12,(atP o2 0),(atP o2 1),a15] k) u0
 | _,_=>False
theorem Qbd_w:EO ⟨[238],Qbd⟩:=oNz (ec Qbc_w en) func238 fun av k h=>by
 unfold Qbd at h;split at h
 ·apply xab h;clear h;(repeat intro _);rename_i h;exact km h
 ·exact h.elim
def Qbe:GM
 | [.agg u0],k=>un 17 (fun a0 a1 a2 a3 a4 a5 a6 a7 a8 a9 a10 a11 a12 a13 a14 a15 a16 =>
  call Qbd [.agg [a0,a1,a2,a3,a4,a5,a6,a7,a8,a9,a10,a11,a12,a13,a14,a15]] fun o0 =>
  xbd 2 a16 (.list 2 []) fun r1 =>
  rt [.sc,.sc,.sc,.sc,.sc,.sc,.sc,.sc,.pv,.sc,.pv,.sc,.sc,.pv,.sc,.sc,.pv] [(atP o0 0),(atP o0 1),(atP o0 2),(atP o0 3),(atP o0 4),(atP o0 5),(atP o0 6),(atP o0 7),(atP o0 8),(atP o0 9),(atP o0 10),(atP o0 11),(atP o0 12),(atP o0 13),(atP o0 14),(atP o0 15),r1] k) u0
 | _,_=>False
theorem Qbe_w:EO ⟨[256],Qbe⟩:=oNz (ec Qbd_w en) func256 fun av k h=>by
 unfold Qbe at h;split at h
 ·apply xab h;clear h;(repeat intro _);rename_i h;exact km h
 ·exact h.elim
def Qbf_r0 (v:List PV) (K:List PV→Prop) (x0k:Cur 4):Prop :=
 un 4 (fun v0 v1 v2 v3 =>
  xaH v0 fun r0 =>
  xac .lss v1 r0 fun r1 =>
  xad r1
   (xaj 17 v0 v1 fun c2 =>
   call Qbe [.agg [(atP c2 0),(atP c2 1),(atP c2 2),(atP c2 3),(atP c2 4),(atP c2 5),(atP c2 6),(atP c2 7),(atP c2 8),(atP c2 9),(atP c2 10),(atP c2 11),(atP c2 12),(atP c2 13),(atP c2 14),(atP c2 15),(atP c2 16)]] fun o3 =>
   (1=1)∧(17≤16777216)∧(17=17)∧(0=0)∧(17=17)∧xbd 17 v3 (.list 17 [[(atP o3 0),(atP o3 1),(atP o3 2),(atP o3 3),(atP o3 4),(atP o3 5),(atP o3 6),(atP o3 7),(atP o3 8),(atP o3 9),(atP o3 10),(atP o3 11),(atP o3 12),(atP o3 13),(atP o3 14),(atP o3 15),(atP o3 16)]]) fun r4 =>
   xac .add v1 (I 1) fun r5 =>
   K [v0,r5,v2,r4])
   (x0k v0 v1 v2 v3)) v
def Qbf:GM
 | [.one a0],k =>
  (0=0)∧(0≤16777216)∧(17=17)∧lp (fun L w=>Qbf_r0 w L
   (fun q6 q7 q8 q9=>rt [.pv] [q9] k)) [a0,(I 0),(.list 17 []),(.list 17 [])]
 | _,_=>False
def Qbf_l:List LE:=[⟨none,0,⟨[(0,.one zB),(2,.one (.own 1)),(3,.one (.own 0)),(4,.one zB)],[],[(1,⟨.flat,257,17,(.bool false)⟩),(0,⟨.flat,257,17,(.bool false)⟩)],2,21,[]⟩,fun K k v=>Qbf_r0 v K (fun x0 x1 x2 x3=>k (.exit 0) ⟨[(0,.one (.pv x0)),(2,.one (.own 1)),(3,.one (.own 0)),(4,.one (.pv x1))],[],[(1,⟨.flat,257,17,x2⟩),(0,⟨.flat,257,17,x3⟩)],2,21,[]⟩)⟩]
theorem Qbf_s:xaC [⟨[256],Qbe⟩] TT (kk [0,2,3,4,999999]) Qbf_l f191 Qbf_l:=⟨fun v K k h=>by
 apply xab h;exact fun v0 v1 v2 v3 h=>km h
 ,trivial⟩
theorem Qbf_w:EO ⟨[191],Qbf⟩:=oN (ec Qbe_w en) (keep:=(kk [0,2,3,4,999999])) (l:=Qbf_l) func191 Qbf_s fun av k h=>by
 unfold Qbf at h;split at h
 ·exact km h
 ·exact h.elim
def Qbg:GM
 | [.agg u0],k=>un 51 (fun a0 a1 a2 a3 a4 a5 a6 a7 a8 a9 a10 a11 a12 a13 a14 a15 a16 a17 a18 a19 a20 a21 a22 a23 a24 a25 a26 a27 a28 a29 a30 a31 a32 a33 a34 a35 a36 a37 a38 a39 a40 a41 a42 a43 a44 a45 a46 a47 a48 a49 a50 =>
  call Qbe [.agg [a0,a1,a2,a3,a4,a5,a6,a7,a8,a9,a10,a11,a12,a13,a14,a15,a16]] fun o0 =>
  call Qbe [.agg [a17,a18,a19,a20,a21,a22,a23,a24,a25,a26,a27,a28,a29,a30,a31,a32,a33]] fun o1 =>
  call Qbe [.agg [a34,a35,a36,a37,a38,a39,a40,a41,a42,a43,a44,a45,a46,a47,a48,a49,a50]] fun o2 =>
  rt [.sc,.sc,.sc,.sc,.sc,.sc,.sc,.sc,.pv,.sc,.pv,.sc,.sc,.pv,.sc,.sc,.pv,.sc,.sc,.sc,.sc,.sc,.sc,.sc,.sc,.pv,.sc,.pv,.sc,.sc,.pv,.sc,.sc,.pv,.sc,.sc,.sc,.sc,.sc,.sc,.sc,.sc,.pv,.sc,.pv,.sc,.sc,.pv,.sc,.sc,.pv] [(atP o0 0),(atP o0 1),(atP o0 2),(atP o0 3),(atP o0 4),(atP o0 5),(atP o0 6),(atP o0 7),(atP o0 8),(atP o0 9),(atP o0 10),(atP o0 11),(atP o0 12),(atP o0 13),(atP o0 14),(atP o0 15),(atP o0 16),(atP o1 0),(atP o1 1),(atP o1 2),(atP o1 3),(atP o1 4),(atP o1 5),(atP o1 6),(atP o1 7),(atP o1 8),(atP o1 9),(atP o1 10),(atP o1 11),(atP o1 12),(atP o1 13),(atP o1 14),(atP o1 15),(atP o1 16),(atP o2 0),(atP o2 1),(atP o2 2),(atP o2 3),(atP o2 4),(atP o2 5),(atP o2 6),(atP o2 7),(atP o2 8),(atP o2 9),(atP o2 10),(atP o2 11),(atP o2 12),(atP o2 13),(atP o2 14),(atP o2 15),(atP o2 16)] k) u0
 | _,_=>False
theorem Qbg_w:EO ⟨[221],Qbg⟩:=oNz (ec Qbe_w en) func221 fun av k h=>by
 unfold Qbg at h;split at h
 ·apply xab h;clear h;(repeat intro _);rename_i h;exact km h
 ·exact h.elim
def Qbh_r0 (v:List PV) (K:List PV→Prop) (x0k:Cur 7):Prop :=
 un 7 (fun v0 v1 v2 v3 v4 v5 v6 =>
  xaH v1 fun r0 =>
  xac .lss v0 r0 fun r1 =>
  xad r1
   (xaj 1 v1 v0 fun c2 =>
   call Qbf [.one (atP c2 0)] fun o3 =>
   (1=1)∧(1≤16777216)∧(1=1)∧(0=0)∧(1=1)∧xbd 1 v6 (.list 1 [[(atP o3 0)]]) fun r4 =>
   xac .add v0 (I 1) fun r5 =>
   K [r5,v1,v2,v3,v4,v5,r4])
   (x0k v0 v1 v2 v3 v4 v5 v6)) v
def Qbh_r1 (v:List PV) (K:List PV→Prop) (x0k:Cur 8):Prop :=
 un 8 (fun v0 v1 v2 v3 v4 v5 v6 v7 =>
  xaH v3 fun r0 =>
  xac .lss v1 r0 fun r1 =>
  xad r1
   (xaj 51 v3 v1 fun c2 =>
   call Qbg [.agg (s51 c2)] fun o3 =>
   (1=1)∧(51≤16777216)∧(51=51)∧(0=0)∧(51=51)∧xbd 51 v6 (.list 51 [(s51 o3)]) fun r4 =>
   xac .add v1 (I 1) fun r5 =>
   K [v0,r5,v2,v3,v4,v5,r4,v7])
   (x0k v0 v1 v2 v3 v4 v5 v6 v7)) v
def Qbh:GM
 | [.agg u0],k=>un 2 (fun a0 a1 =>
  lp (fun L w=>Qbh_r0 w L
   (fun q6 q7 q8 q9 q10 q11 q12=>lp (fun L w=>Qbh_r1 w L
    (fun q13 q14 q15 q16 q17 q18 q19 q20=>rt [.own false 90 1,.own false 259 51] [q20,q19] k)) [q6,(I 0),q7,q8,q9,q10,q11,q12])) [(I 0),a0,a1,(.list 51 []),(.list 1 []),(.list 51 []),(.list 1 [])]) u0
 | _,_=>False
def Qbh_l:List LE:=[⟨none,0,⟨[(1,.one (.ptr 0 0)),(2,.one (.ptr 1 0)),(3,.one (.ptr 2 0)),(4,.one zB)],[(2,[.own 3,.own 4]),(1,[.own 5,.own 6]),(0,[zB,zB])],[(6,⟨.flat,259,51,(.bool false)⟩),(5,⟨.flat,90,1,(.bool false)⟩),(4,⟨.flat,259,51,(.bool false)⟩),(3,⟨.flat,90,1,(.bool false)⟩)],7,44,[]⟩,fun K k v=>Qbh_r0 v K (fun x0 x1 x2 x3 x4 x5 x6=>k (.exit 0) ⟨[(1,.one (.ptr 0 0)),(2,.one (.ptr 1 0)),(3,.one (.ptr 2 0)),(4,.one (.pv x0))],[(2,[.own 3,.own 4]),(1,[.own 5,.own 6]),(0,[.pv x1,.pv x2])],[(6,⟨.flat,259,51,x3⟩),(5,⟨.flat,90,1,x4⟩),(4,⟨.flat,259,51,x5⟩),(3,⟨.flat,90,1,x6⟩)],7,44,[]⟩)⟩,
 ⟨none,1,⟨[(1,.one (.ptr 0 0)),(2,.one (.ptr 1 0)),(3,.one (.ptr 2 0)),(4,.one zB),(5,.one zB)],[(2,[.own 3,.own 4]),(1,[.own 5,.own 6]),(0,[zB,zB])],[(6,⟨.flat,259,51,(.bool false)⟩),(5,⟨.flat,90,1,(.bool false)⟩),(4,⟨.flat,259,51,(.bool false)⟩),(3,⟨.flat,90,1,(.bool false)⟩)],7,44,[]⟩,fun K k v=>Qbh_r1 v K (fun x0 x1 x2 x3 x4 x5 x6 x7=>k (.exit 2) ⟨[(1,.one (.ptr 0 0)),(2,.one (.ptr 1 0)),(3,.one (.ptr 2 0)),(4,.one (.pv x0)),(5,.one (.pv x1))],[(2,[.own 3,.own 4]),(1,[.own 5,.own 6]),(0,[.pv x2,.pv x3])],[(6,⟨.flat,259,51,x4⟩),(5,⟨.flat,90,1,x5⟩),(4,⟨.flat,259,51,x6⟩),(3,⟨.flat,90,1,x7⟩)],7,44,[]⟩)⟩]
theorem Qbh_s:xaC [⟨[191],Qbf⟩,⟨[221],Qbg⟩] TT (kk [1,2,3,4,5,999999]) Qbh_l f150 Qbh_l:=⟨fun v K k h=>by
 apply xab h;exact fun v0 v1 v2 v3 v4 v5 v6 h=>km h
 ,fun v K k h=>by
 apply xab h;(repeat intro _);rename_i h;exact km h
 ,trivial⟩
theorem Qbh_w:EO ⟨[150],Qbh⟩:=oN (ec Qbf_w (ec Qbg_w en)) (keep:=(kk [1,2,3,4,5,999999])) (l:=Qbh_l) func150 Qbh_s fun av k h=>by
 unfold Qbh at h;split at h
 ·apply xab h;clear h;intro a0 a1 h;exact km h
 ·exact h.elim
def Qbi:GM
 | [.one a0],k =>
  (0=0)∧(0≤16777216)∧(1=1)∧(xaZ a0)∧xbd 1 (.list 1 []) a0 fun r0 =>
  rt [.own false 9 1] [r0] k
 | _,_=>False
theorem Qbi_w:EO ⟨[70],Qbi⟩:=oMz en func70 fun av k h=>by
 unfold Qbi at h;split at h
 ·exact km h
 ·exact h.elim
def Qbj:GM
 | [.agg u0],k=>un 4 (fun a0 a1 a2 a3 =>
  call Qbi [.one a3] fun o0 =>
  rt [.sc,.sc,.sc,.pv] [a0,a1,a2,(atP o0 0)] k) u0
 | _,_=>False
theorem Qbj_w:EO ⟨[175],Qbj⟩:=oNz (ec Qbi_w en) func175 fun av k h=>by
 unfold Qbj at h;split at h
 ·apply xab h;clear h;intro a0 a1 a2 a3 h;exact km h
 ·exact h.elim
def Qbk:GM
 | [.agg u0],k=>un 2 (fun a0 a1 =>
  xbd 1 a1 (.list 1 []) fun r0 =>
  rt [.sc,.pv] [a0,r0] k) u0
 | _,_=>False
theorem Qbk_w:EO ⟨[232],Qbk⟩:=oNz en func232 fun av k h=>by
 unfold Qbk at h;split at h
 ·apply xab h;clear h;intro a0 a1 h;exact km h
 ·exact h.elim
def Qbl:GM
 | [.agg u0],k=>un 13 (fun a0 a1 a2 a3 a4 a5 a6 a7 a8 a9 a10 a11 a12 =>
  call Qbj [.agg [a1,a2,a3,a4]] fun o0 =>
  call Qbj [.agg [a5,a6,a7,a8]] fun o1 =>
  call Qbk [.agg [a9,a10]] fun o2 =>
  call Qbk [.agg [a11,a12]] fun o3 =>
  rt [.sc,.sc,.sc,.sc,.pv,.sc,.sc,.sc,.pv,.sc,.pv,.sc,.pv] [a0,(atP o0 0),(atP o0 1),(atP o0 2),(atP o0 3),(atP o1 0),(atP o1 1),(atP o1 2),(atP o1 3),(atP o2 0),(atP o2 1),(atP o3 0),(atP o3 1)] k) u0
 | _,_=>False
theorem Qbl_w:EO ⟨[233],Qbl⟩:=oNz (ec Qbj_w (ec Qbk_w en)) func233 fun av k h=>by
 unfold Qbl at h;split at h
 ·apply xab h;clear h;(repeat intro _);rename_i h;exact km h
 ·exact h.elim
def Qbm:GM
 | [.agg u0],k=>un 21 (fun a0 a1 a2 a3 a4 a5 a6 a7 a8 a9 a10 a11 a12 a13 a14 a15 a16 a17 a18 a19 a20 =>
  call Qbf [.one a0] fun o0 =>
  call Qbj [.agg [a2,a3,a4,a5]] fun o1 =>
  call Qbk [.agg [a6,a7]] fun o2 =>
  call Qbl [.agg [a8,a9,a10,a11,a12,a13,a14,a15,a16,a17,a18,a19,a20]] fun o3 =>
  rt g2 [(atP o0 0),a1,(atP o1 0),(atP o1 1),(atP o1 2),(atP o1 3),(atP o2 0),(atP o2 1),(atP o3 0),(atP o3 1),(atP o3 2),(atP o3 3),(atP o3 4),(atP o3 5),(atP o3 6),(atP o3 7),(atP o3 8),(atP o3 9),(atP o3 10),(atP o3 11),(atP o3 12)] k) u0
 | _,_=>False
theorem Qbm_w:EO ⟨[167],Qbm⟩:=oNz (ec Qbf_w (ec Qbj_w (ec Qbk_w (ec Qbl_w en)))) func167 fun av k h=>by
 unfold Qbm at h;split at h
 ·apply xab h;clear h;(repeat intro _);rename_i h;exact km h
 ·exact h.elim
def Qbn_r0 (v:List PV) (K:List PV→Prop) (x0k:Cur 4):Prop :=
 un 4 (fun v0 v1 v2 v3 =>
  xaH v1 fun r0 =>
  xac .lss v0 r0 fun r1 =>
  xad r1
   (xaj 23 v1 v0 fun c2 =>
   xaj 23 v1 v0 fun c3 =>
   xaj 23 v1 v0 fun c4 =>
   call Qbm [.agg [(atP c4 2),(atP c4 3),(atP c4 4),(atP c4 5),(atP c4 6),(atP c4 7),(atP c4 8),(atP c4 9),(atP c4 10),(atP c4 11),(atP c4 12),(atP c4 13),(atP c4 14),(atP c4 15),(atP c4 16),(atP c4 17),(atP c4 18),(atP c4 19),(atP c4 20),(atP c4 21),(atP c4 22)]] fun o5 =>
   (1=1)∧(23≤16777216)∧(23=23)∧(0=0)∧(23=23)∧xbd 23 v3 (.list 23 [[(atP c2 0),(atP c3 1),(atP o5 0),(atP o5 1),(atP o5 2),(atP o5 3),(atP o5 4),(atP o5 5),(atP o5 6),(atP o5 7),(atP o5 8),(atP o5 9),(atP o5 10),(atP o5 11),(atP o5 12),(atP o5 13),(atP o5 14),(atP o5 15),(atP o5 16),(atP o5 17),(atP o5 18),(atP o5 19),(atP o5 20)]]) fun r6 =>
   xac .add v0 (I 1) fun r7 =>
   K [r7,v1,v2,r6])
   (x0k v0 v1 v2 v3)) v
def Qbn:GM
 | [.agg u0],k=>un 1 (fun a0 =>
  lp (fun L w=>Qbn_r0 w L
   (fun q8 q9 q10 q11=>rt [.own false 221 23] [q11] k)) [(I 0),a0,(.list 23 []),(.list 23 [])]) u0
 | _,_=>False
def Qbn_l:List LE:=[⟨none,0,⟨[(1,.one (.ptr 0 0)),(2,.one (.ptr 1 0)),(3,.one (.ptr 2 0)),(4,.one zB)],[(2,[.own 3]),(1,[.own 4]),(0,[zB])],[(4,⟨.flat,221,23,(.bool false)⟩),(3,⟨.flat,221,23,(.bool false)⟩)],5,39,[]⟩,fun K k v=>Qbn_r0 v K (fun x0 x1 x2 x3=>k (.exit 0) ⟨[(1,.one (.ptr 0 0)),(2,.one (.ptr 1 0)),(3,.one (.ptr 2 0)),(4,.one (.pv x0))],[(2,[.own 3]),(1,[.own 4]),(0,[.pv x1])],[(4,⟨.flat,221,23,x2⟩),(3,⟨.flat,221,23,x3⟩)],5,39,[]⟩)⟩]
theorem Qbn_s:xaC [⟨[167],Qbm⟩] TT (kk [1,2,3,4,999999]) Qbn_l f151 Qbn_l:=⟨fun v K k h=>by
 apply xab h;exact fun v0 v1 v2 v3 h=>km h
 ,trivial⟩
theorem Qbn_w:EO ⟨[151],Qbn⟩:=oN (ec Qbm_w en) (keep:=(kk [1,2,3,4,999999])) (l:=Qbn_l) func151 Qbn_s fun av k h=>by
 unfold Qbn at h;split at h
 ·apply xab h;clear h;intro a0 h;exact km h
 ·exact h.elim
def Qbo:GM
 | [.one a0,.one a1,.one a2],k =>
  xac .geq a0 a1 fun r0 =>
  xad r0
   (xac .leq a0 a2 fun r1 =>
   rt [.sc] [r1] k)
   (rt [.sc] [(.bool false)] k)
 | _,_=>False
theorem Qbo_w:EO ⟨[133],Qbo⟩:=oNz en func133 fun av k h=>by
 unfold Qbo at h;split at h
 ·exact km h
 ·exact h.elim
def Qbp_r0 (v:List PV) (K:List PV→Prop) (x0k:Prop) (x1k:Cur 4):Prop :=
 un 4 (fun v0 v1 v2 v3 =>
  xaH v2 fun r0 =>
  xac .lss v1 r0 fun r1 =>
  xad r1
   (xaj 1 v2 v1 fun c2 =>
   call Qbo [.one (atP c2 0),.one (I 1),.one (I 99)] fun o3 =>
   unP .not (atP o3 0) fun r4 =>
   xad r4
    (x0k)
    (xac .gtr v1 (I 0) fun r5 =>
    xad r5
     (xac .sub v1 (I 1) fun r6 =>
     xaj 1 v2 r6 fun c7 =>
     xaj 1 v2 v1 fun c8 =>
     xac .geq (atP c7 0) (atP c8 0) fun r9 =>
     xad r9
      (x0k)
      (xac .add v1 (I 1) fun r10 =>
      K [v0,r10,v2,v3]))
     (xac .add v1 (I 1) fun r11 =>
     K [v0,r11,v2,v3])))
   (x1k v0 v1 v2 v3)) v
def Qbp:GM
 | [.agg u0],k=>un 2 (fun a0 a1 =>
  lp (fun L w=>Qbp_r0 w L
   (rt [.sc] [(.bool false)] k)
   (fun q12 q13 q14 q15=>xaH q14 fun r16 =>
    call Qbo [.one r16,.one (I 1),.one (I 4)] fun o17 =>
    xad (atP o17 0)
     (xaH q14 fun r18 =>
     call Qbo [.one q15,.one (I 1),.one r18] fun o19 =>
     rt [.sc] [(atP o19 0)] k)
     (rt [.sc] [(.bool false)] k))) [(.bool false),(I 0),a0,a1]) u0
 | _,_=>False
def Qbp_l:List LE:=[⟨none,0,⟨[(1,.one (.ptr 0 0)),(2,.one zB),(3,.one zB)],[(0,[zB,zB])],[],1,48,[]⟩,fun K k v=>Qbp_r0 v K (k .ret ⟨[(2,.one (.kb false))],[],[],2,48,[]⟩) (fun x0 x1 x2 x3=>k (.exit 0) ⟨[(1,.one (.ptr 0 0)),(2,.one (.pv x0)),(3,.one (.pv x1))],[(0,[.pv x2,.pv x3])],[],1,48,[]⟩)⟩]
theorem Qbp_s:xaC [⟨[133],Qbo⟩] TT (kk [1,2,3,19,20,21,22,23,24,25,26,27,28,29,30,31,32,33,34,41,42,43,44,45,46,999999]) Qbp_l f265 Qbp_l:=⟨fun v K k h=>by
 apply xab h;exact fun v0 v1 v2 v3 h=>km h
 ,trivial⟩
theorem Qbp_w:EO ⟨[265],Qbp⟩:=oN (ec Qbo_w en) (keep:=(kk [1,2,3,19,20,21,22,23,24,25,26,27,28,29,30,31,32,33,34,41,42,43,44,45,46,999999])) (l:=Qbp_l) func265 Qbp_s fun av k h=>by
 unfold Qbp at h;split at h
 ·apply xab h;clear h;intro a0 a1 h;exact km h
 ·exact h.elim
def Qbq:GM
 | [.agg u0],k=>un 2 (fun a0 a1 =>
  xac .eql a1 (I 0) fun r0 =>
  xad r0
   (xaH a0 fun r1 =>
   xac .eql r1 (I 0) fun r2 =>
   rt [.sc] [r2] k)
   (rt [.sc] [(.bool false)] k)) u0
 | _,_=>False
theorem Qbq_w:EO ⟨[372],Qbq⟩:=oNz en func372 fun av k h=>by
 unfold Qbq at h;split at h
 ·apply xab h;clear h;intro a0 a1 h;exact km h
 ·exact h.elim
def Qbr:GM
 | [.agg u0],k=>un 16 (fun a0 a1 a2 a3 a4 a5 a6 a7 a8 a9 a10 a11 a12 a13 a14 a15 =>
  call Qbo [.one a0,.one (I 0),.one (I 2147483646)] fun o0 =>
  unP .not (atP o0 0) fun r1 =>
  xad r1
   (rt [.sc] [(.bool false)] k)
   (call Qbo [.one a6,.one (I 0),.one (I 2147483646)] fun o2 =>
   unP .not (atP o2 0) fun r3 =>
   xad r3
    (rt [.sc] [(.bool false)] k)
    (call Qbo [.one a7,.one (I 0),.one (I 2147483646)] fun o4 =>
    unP .not (atP o4 0) fun r5 =>
    xad r5
     (rt [.sc] [(.bool false)] k)
     (call Qbo [.one a1,.one (I 0),.one (I 200)] fun o6 =>
     unP .not (atP o6 0) fun r7 =>
     xad r7
      (rt [.sc] [(.bool false)] k)
      (call Qbo [.one a2,.one (I 1),.one (I 3)] fun o8 =>
      unP .not (atP o8 0) fun r9 =>
      xad r9
       (rt [.sc] [(.bool false)] k)
       (call Qbo [.one a3,.one (I 0),.one (I 100000)] fun o10 =>
       unP .not (atP o10 0) fun r11 =>
       xad r11
        (rt [.sc] [(.bool false)] k)
        (call Qbo [.one a4,.one a3,.one (I 100000)] fun o12 =>
        unP .not (atP o12 0) fun r13 =>
        xad r13
         (rt [.sc] [(.bool false)] k)
         (xac .sub a4 a3 fun r14 =>
         xac .gtr r14 (I 200) fun r15 =>
         xad r15
          (rt [.sc] [(.bool false)] k)
          (call Qbo [.one a5,.one (I 0),.one (I 12)] fun o16 =>
          unP .not (atP o16 0) fun r17 =>
          xad r17
           (rt [.sc] [(.bool false)] k)
           (call Qbp [.agg [a8,a9]] fun o18 =>
           unP .not (atP o18 0) fun r19 =>
           xad r19
            (rt [.sc] [(.bool false)] k)
            (call Qbq [.agg [a10,a11]] fun o20 =>
            xad (atP o20 0)
             (xac .neq a12 (I 0) fun r21 =>
             xad r21
              (rt [.sc] [(.bool false)] k)
              (call Qbp [.agg [a13,a14]] fun o22 =>
              xad (atP o22 0)
               (rt [.sc] [(.bool true)] k)
               (call Qbq [.agg [a13,a14]] fun o23 =>
               xad (atP o23 0)
                (unP .not a15 fun r24 =>
                rt [.sc] [r24] k)
                (rt [.sc] [(.bool false)] k))))
             (call Qbp [.agg [a10,a11]] fun o25 =>
             unP .not (atP o25 0) fun r26 =>
             xad r26
              (rt [.sc] [(.bool false)] k)
              (call Qbo [.one a12,.one (I 1),.one (I 500)] fun o27 =>
              unP .not (atP o27 0) fun r28 =>
              xad r28
               (rt [.sc] [(.bool false)] k)
               (call Qbp [.agg [a13,a14]] fun o29 =>
               xad (atP o29 0)
                (rt [.sc] [(.bool true)] k)
                (call Qbq [.agg [a13,a14]] fun o30 =>
                xad (atP o30 0)
                 (unP .not a15 fun r31 =>
                 rt [.sc] [r31] k)
                 (rt [.sc] [(.bool false)] k)))))))))))))))) u0
 | _,_=>False
theorem Qbr_w:EO ⟨[323],Qbr⟩:=oNz (ec Qbo_w (ec Qbp_w (ec Qbq_w en))) func323 fun av k h=>by
 unfold Qbr at h;split at h
 ·apply xab h;clear h;(repeat intro _);rename_i h;exact km h
 ·exact h.elim
def Qbs:GM
 | [.agg u0],k=>un 2 (fun a0 a1 =>
  xaH a0 fun r0 =>
  (2=2)∧(2≤16777216)∧(1=1)∧(0=0)∧(1=1)∧(xae [.pv (I 0)] [.pv a1])∧(1=1)∧(1=1)∧(xae [.pv (I 0)] [.pv r0])∧(xaZ a0)∧xbd 1 (.list 1 [[a1],[r0]]) a0 fun r1 =>
  rt [.own true 3 1] [r1] k) u0
 | _,_=>False
theorem Qbs_w:EO ⟨[376],Qbs⟩:=oNz en func376 fun av k h=>by
 unfold Qbs at h;split at h
 ·apply xab h;clear h;intro a0 a1 h;exact km h
 ·exact h.elim
def Qbt:GM
 | [.one a0,.one a1],k =>
  call Qbo [.one a1,.one (I 1),.one (I 1000000000000)] fun o0 =>
  unP .not (atP o0 0) fun r1 =>
  xad r1
   (rt [.sc] [(I 0)] k)
   (xac .rem a0 a1 fun r2 =>
   xac .add r2 a1 fun r3 =>
   xac .rem r3 a1 fun r4 =>
   rt [.sc] [r4] k)
 | _,_=>False
theorem Qbt_w:EO ⟨[291],Qbt⟩:=oNz (ec Qbo_w en) func291 fun av k h=>by
 unfold Qbt at h;split at h
 ·exact km h
 ·exact h.elim
def Qbu_r0 (v:List PV) (K:List PV→Prop) (x0k:Cur 4):Prop :=
 un 4 (fun v0 v1 v2 v3 =>
  xaH v0 fun r0 =>
  xac .lss v3 r0 fun r1 =>
  xad r1
   (xac .mul v2 (I 1000003) fun r2 =>
   xaj 1 v0 v3 fun c3 =>
   call Qbt [.one (atP c3 0),.one (I 2147483647)] fun o4 =>
   xac .add r2 (atP o4 0) fun r5 =>
   xac .add r5 (I 13) fun r6 =>
   xac .rem r6 (I 2147483647) fun r7 =>
   xac .add v3 (I 1) fun r8 =>
   K [v0,v1,r7,r8])
   (x0k v0 v1 v2 v3)) v
def Qbu:GM
 | [.one a0],k =>
  lp (fun L w=>Qbu_r0 w L
   (fun q9 q10 q11 q12=>rt [.sc] [q11] k)) [a0,(I 0),(I 11),(I 0)]
 | _,_=>False
def Qbu_l:List LE:=[⟨none,0,⟨[(0,.one zB),(2,.one zB),(3,.one zB),(4,.one zB)],[],[],0,22,[]⟩,fun K k v=>Qbu_r0 v K (fun x0 x1 x2 x3=>k (.exit 0) ⟨[(0,.one (.pv x0)),(2,.one (.pv x1)),(3,.one (.pv x2)),(4,.one (.pv x3))],[],[],0,22,[]⟩)⟩]
theorem Qbu_s:xaC [⟨[291],Qbt⟩] TT (kk [0,2,3,4,999999]) Qbu_l f234 Qbu_l:=⟨fun v K k h=>by
 apply xab h;exact fun v0 v1 v2 v3 h=>km h
 ,trivial⟩
theorem Qbu_w:EO ⟨[234],Qbu⟩:=oN (ec Qbt_w en) (keep:=(kk [0,2,3,4,999999])) (l:=Qbu_l) func234 Qbu_s fun av k h=>by
 unfold Qbu at h;split at h
 ·exact km h
 ·exact h.elim
def Qbv:GM
 | [.agg u0,.one a2],k=>un 2 (fun a0 a1 =>
  (2=2)∧(2≤16777216)∧(1=1)∧(0=0)∧(1=1)∧(xae [.pv (I 0)] [.pv (I 239)])∧(1=1)∧(1=1)∧(xae [.pv (I 0)] [.pv a2])∧call Qbs [.agg [a0,a1]] fun o0 =>
  xbd 1 (.list 1 [[(I 239)],[a2]]) (atP o0 0) fun r1 =>
  call Qbu [.one r1] fun o2 =>
  rt [.sc] [(atP o2 0)] k) u0
 | _,_=>False
theorem Qbv_w:EO ⟨[397],Qbv⟩:=oNz (ec Qbs_w (ec Qbu_w en)) func397 fun av k h=>by
 unfold Qbv at h;split at h
 ·apply xab h;clear h;intro a0 a1 h;exact km h
 ·exact h.elim
def Qbw:GM
 | [.agg u0],k=>un 16 (fun a0 a1 a2 a3 a4 a5 a6 a7 a8 a9 a10 a11 a12 a13 a14 a15 =>
  (8=8)∧(8≤16777216)∧(1=1)∧(0=0)∧(1=1)∧(xae [.pv (I 0)] [.pv a0])∧(1=1)∧(1=1)∧(xae [.pv (I 0)] [.pv a1])∧(2=2)∧(1=1)∧(xae [.pv (I 0)] [.pv a2])∧(3=3)∧(1=1)∧(xae [.pv (I 0)] [.pv a3])∧(4=4)∧(1=1)∧(xae [.pv (I 0)] [.pv a4])∧(5=5)∧(1=1)∧(xae [.pv (I 0)] [.pv a5])∧(6=6)∧(1=1)∧(xae [.pv (I 0)] [.pv a6])∧(7=7)∧(1=1)∧(xae [.pv (I 0)] [.pv a7])∧call Qbs [.agg [a8,a9]] fun o0 =>
  xbd 1 (.list 1 [[a0],[a1],[a2],[a3],[a4],[a5],[a6],[a7]]) (atP o0 0) fun r1 =>
  call Qbs [.agg [a10,a11]] fun o2 =>
  xbd 1 r1 (atP o2 0) fun r3 =>
  (1=1)∧(1≤16777216)∧(1=1)∧(0=0)∧(1=1)∧(xae [.pv (I 0)] [.pv a12])∧xbd 1 r3 (.list 1 [[a12]]) fun r4 =>
  call Qbs [.agg [a13,a14]] fun o5 =>
  xbd 1 r4 (atP o5 0) fun r6 =>
  xad a15
   ((1=1)∧(1≤16777216)∧(1=1)∧(0=0)∧(1=1)∧(xae [.pv (I 0)] [.pv (I 1)])∧xbd 1 r6 (.list 1 [[(I 1)]]) fun r7 =>
   rt [.own true 3 1] [r7] k)
   ((1=1)∧(1≤16777216)∧(1=1)∧(0=0)∧(1=1)∧(xae [.pv (I 0)] [.pv (I 0)])∧xbd 1 r6 (.list 1 [[(I 0)]]) fun r8 =>
   rt [.own true 3 1] [r8] k)) u0
 | _,_=>False
theorem Qbw_w:EO ⟨[329],Qbw⟩:=oNz (ec Qbs_w en) func329 fun av k h=>by
 unfold Qbw at h;split at h
 ·apply xab h;clear h;(repeat intro _);rename_i h;exact km h
 ·exact h.elim
def Qbx:GM
 | [.one a0,.one a1],k =>
  (1=1)∧(1≤16777216)∧(1=1)∧(0=0)∧(1=1)∧(xae [.pv (I 0)] [.pv a0])∧(xaZ a1)∧xbd 1 (.list 1 [[a0]]) a1 fun r0 =>
  (1=1)∧(1≤16777216)∧(1=1)∧(0=0)∧(1=1)∧(xae [.pv (I 0)] [.pv a0])∧xbd 1 r0 (.list 1 [[a0]]) fun r1 =>
  call Qbu [.one r1] fun o2 =>
  rt [.sc] [(atP o2 0)] k
 | _,_=>False
theorem Qbx_w:EO ⟨[408],Qbx⟩:=oNz (ec Qbu_w en) func408 fun av k h=>by
 unfold Qbx at h;split at h
 ·exact km h
 ·exact h.elim
def Qby:GM
 | [.one a0,.one a1],k =>
  (1=1)∧(1≤16777216)∧(1=1)∧(0=0)∧(1=1)∧(xae [.pv (I 0)] [.pv (I 223)])∧(xaZ a1)∧xbd 1 (.list 1 [[(I 223)]]) a1 fun r0 =>
  call Qbx [.one a0,.one r0] fun o1 =>
  rt [.sc] [(atP o1 0)] k
 | _,_=>False
theorem Qby_w:EO ⟨[377],Qby⟩:=oNz (ec Qbx_w en) func377 fun av k h=>by
 unfold Qby at h;split at h
 ·exact km h
 ·exact h.elim
def Qbz:GM
 | [.agg u0,.one a2],k=>un 2 (fun a0 a1 =>
  call Qbo [.one a0,.one (I 1),.one (I 99)] fun o0 =>
  xad (atP o0 0)
   (call Qby [.one a0,.one a2] fun o1 =>
   xac .eql a1 (atP o1 0) fun r2 =>
   rt [.sc] [r2] k)
   (rt [.sc] [(.bool false)] k)) u0
 | _,_=>False
theorem Qbz_w:EO ⟨[407],Qbz⟩:=oNz (ec Qbo_w (ec Qby_w en)) func407 fun av k h=>by
 unfold Qbz at h;split at h
 ·apply xab h;clear h;intro a0 a1 h;exact km h
 ·exact h.elim
def Qca_r1 (v:List PV) (K:List PV→Prop) (x0k:Cur 11) (x1k:Cur 8):Prop :=
 un 8 (fun v0 v1 v2 v3 v4 v5 v6 v7 =>
  xaH v1 fun r0 =>
  xac .lss v5 r0 fun r1 =>
  xad r1
   (xaj 2 v1 v5 fun c2 =>
   xaj 1 v6 v4 fun c3 =>
   xac .eql (atP c2 0) (atP c3 0) fun r4 =>
   xad r4
    (xaj 2 v1 v5 fun c5 =>
    call Qbz [.agg [(atP c5 0),(atP c5 1)],.one v0] fun o6 =>
    xad (atP o6 0)
     (xac .add v3 (I 1) fun r7 =>
     x0k v0 v1 v2 r7 v4 v5 (atP c5 0) (atP c5 1) (atP o6 0) v6 v7)
     (xac .add v5 (I 1) fun r8 =>
     K [v0,v1,v2,v3,v4,r8,v6,v7]))
    (xac .add v5 (I 1) fun r9 =>
    K [v0,v1,v2,v3,v4,r9,v6,v7]))
   (x1k v0 v1 v2 v3 v4 v5 v6 v7)) v
def Qca_r0 (v:List PV) (K:List PV→Prop) (x0k:Cur 7):Prop :=
 un 7 (fun v0 v1 v2 v3 v4 v5 v6 =>
  xaH v5 fun r0 =>
  xac .lss v4 r0 fun r1 =>
  xad r1
   (lp (fun L w=>Qca_r1 w L
    (fun q10 q11 q12 q13 q14 q15 q16 q17 q18 q19 q20=>xac .add q14 (I 1) fun r21 =>
     K [q10,q11,q12,q13,r21,q19,q20])
    (fun q22 q23 q24 q25 q26 q27 q28 q29=>xac .add q26 (I 1) fun r30 =>
     K [q22,q23,q24,q25,r30,q28,q29])) [v0,v1,v2,v3,v4,(I 0),v5,v6])
   (x0k v0 v1 v2 v3 v4 v5 v6)) v
def Qca:GM
 | [.agg u0,.one a2,.one a3],k=>un 2 (fun a0 a1 =>
  lp (fun L w=>Qca_r0 w L
   (fun q31 q32 q33 q34 q35 q36 q37=>rt [.sc] [q34] k)) [a2,a3,(I 0),(I 0),(I 0),a0,a1]) u0
 | _,_=>False
def Qca_l:List LE:=[⟨none,1,⟨[(1,.one zB),(2,.one zB),(3,.one (.ptr 0 0)),(6,.one zB),(7,.one zB),(8,.one zB),(9,.one zB)],[(0,[zB,zB])],[],1,45,[]⟩,fun K k v=>Qca_r1 v K (fun x0 x1 x2 x3 x4 x5 x6 x7 x8 x9 x10=>k (.exit 2) ⟨[(1,.one (.pv x0)),(2,.one (.pv x1)),(3,.one (.ptr 0 0)),(6,.one (.pv x2)),(7,.one (.pv x3)),(8,.one (.pv x4)),(9,.one (.pv x5)),(35,.one (.pv x1)),(36,.one (.pv x5)),(37,.one (.sptr [x6,x7])),(38,.agg [.pv x6,.pv x7]),(39,.one (.pv x0)),(40,.one (.pv x8))],[(0,[.pv x9,.pv x10])],[],2,45,[]⟩) (fun x0 x1 x2 x3 x4 x5 x6 x7=>k (.exit 2) ⟨[(1,.one (.pv x0)),(2,.one (.pv x1)),(3,.one (.ptr 0 0)),(6,.one (.pv x2)),(7,.one (.pv x3)),(8,.one (.pv x4)),(9,.one (.pv x5))],[(0,[.pv x6,.pv x7])],[],1,45,[]⟩)⟩,
 ⟨none,0,⟨[(1,.one zB),(2,.one zB),(3,.one (.ptr 0 0)),(6,.one zB),(7,.one zB),(8,.one zB)],[(0,[zB,zB])],[],1,45,[]⟩,fun K k v=>Qca_r0 v K (fun x0 x1 x2 x3 x4 x5 x6=>k (.exit 0) ⟨[(1,.one (.pv x0)),(2,.one (.pv x1)),(3,.one (.ptr 0 0)),(6,.one (.pv x2)),(7,.one (.pv x3)),(8,.one (.pv x4))],[(0,[.pv x5,.pv x6])],[],1,45,[]⟩)⟩]
theorem Qca_s:xaC [⟨[407],Qbz⟩] TT (kk [1,2,3,6,7,8,9,35,36,37,38,39,40,999999]) Qca_l f375 Qca_l:=⟨fun v K k h=>by
 apply xab h;(repeat intro _);rename_i h;exact km h
 ,fun v K k h=>by
 apply xab h;exact fun v0 v1 v2 v3 v4 v5 v6 h=>km h
 ,trivial⟩
theorem Qca_w:EO ⟨[375],Qca⟩:=oN (ec Qbz_w en) (keep:=(kk [1,2,3,6,7,8,9,35,36,37,38,39,40,999999])) (l:=Qca_l) func375 Qca_s fun av k h=>by
 unfold Qca at h;split at h
 ·apply xab h;clear h;intro a0 a1 h;exact km h
 ·exact h.elim
def Qcb:GM
 | [.agg u0,.one a2,.one a3],k=>un 2 (fun a0 a1 =>
  call Qbp [.agg [a0,a1]] fun o0 =>
  xad (atP o0 0)
   (call Qca [.agg [a0,a1],.one a2,.one a3] fun o1 =>
   xac .geq (atP o1 0) a1 fun r2 =>
   rt [.sc] [r2] k)
   (rt [.sc] [(.bool false)] k)) u0
 | _,_=>False
theorem Qcb_w:EO ⟨[328],Qcb⟩:=oNz (ec Qbp_w (ec Qca_w en)) func328 fun av k h=>by
 unfold Qcb at h;split at h
 ·apply xab h;clear h;intro a0 a1 h;exact km h
 ·exact h.elim
def Qcc:GM
 | [.agg u0],k=>un 17 (fun a0 a1 a2 a3 a4 a5 a6 a7 a8 a9 a10 a11 a12 a13 a14 a15 a16 =>
  call Qbr [.agg [a0,a1,a2,a3,a4,a5,a6,a7,a8,a9,a10,a11,a12,a13,a14,a15]] fun o0 =>
  xad (atP o0 0)
   (xac .eql a1 (I 0) fun r1 =>
   xad r1
    (xac .eql a2 (I 1) fun r2 =>
    xad r2
     (unP .not a15 fun r3 =>
     xad r3
      (call Qbv [.agg [a8,a9],.one a7] fun o4 =>
      xac .eql a0 (atP o4 0) fun r5 =>
      xad r5
       (call Qbw [.agg [a0,a1,a2,a3,a4,a5,a6,a7,a8,a9,a10,a11,a12,a13,a14,a15]] fun o6 =>
       call Qcb [.agg [a8,a9],.one (atP o6 0),.one a16] fun o7 =>
       rt [.sc] [(atP o7 0)] k)
       (rt [.sc] [(.bool false)] k))
      (rt [.sc] [(.bool false)] k))
     (rt [.sc] [(.bool false)] k))
    (rt [.sc] [(.bool false)] k))
   (rt [.sc] [(.bool false)] k)) u0
 | _,_=>False
theorem Qcc_w:EO ⟨[348],Qcc⟩:=oNz (ec Qbr_w (ec Qbv_w (ec Qbw_w (ec Qcb_w en)))) func348 fun av k h=>by
 unfold Qcc at h;split at h
 ·apply xab h;clear h;(repeat intro _);rename_i h;exact km h
 ·exact h.elim
def Qcd:GM
 | [.agg u0],k=>un 16 (fun a0 a1 a2 a3 a4 a5 a6 a7 a8 a9 a10 a11 a12 a13 a14 a15 =>
  (1=1)∧(1≤16777216)∧(1=1)∧(0=0)∧(1=1)∧(xae [.pv (I 0)] [.pv (I 233)])∧call Qbw [.agg [a0,a1,a2,a3,a4,a5,a6,a7,a8,a9,a10,a11,a12,a13,a14,a15]] fun o0 =>
  xbd 1 (.list 1 [[(I 233)]]) (atP o0 0) fun r1 =>
  call Qbu [.one r1] fun o2 =>
  rt [.sc] [(atP o2 0)] k) u0
 | _,_=>False
theorem Qcd_w:EO ⟨[324],Qcd⟩:=oNz (ec Qbw_w (ec Qbu_w en)) func324 fun av k h=>by
 unfold Qcd at h;split at h
 ·apply xab h;clear h;(repeat intro _);rename_i h;exact km h
 ·exact h.elim
def Qce:GM
 | [.agg u0,.agg u1],k=>un 16 (fun a0 a1 a2 a3 a4 a5 a6 a7 a8 a9 a10 a11 a12 a13 a14 a15=>un 16 (fun a16 a17 a18 a19 a20 a21 a22 a23 a24 a25 a26 a27 a28 a29 a30 a31 =>
  xad a15
   (rt [.sc] [(I 4)] k)
   (xad a31
    (rt [.sc] [(I 6)] k)
    (rt [.sc] [(I 1)] k))) u1) u0
 | _,_=>False
theorem Qce_w:EO ⟨[325],Qce⟩:=oNz en func325 fun av k h=>by
 unfold Qce at h;split at h
 ·apply xab h;clear h;(repeat intro _);rename_i h;apply xab h;clear h;(repeat intro _);rename_i h;exact km h
 ·exact h.elim
def Qcf_r0 (v:List PV) (K:List PV→Prop) (x0k:Prop) (x1k:Cur 4):Prop :=
 un 4 (fun v0 v1 v2 v3 =>
  xaH v0 fun r0 =>
  xac .lss v3 r0 fun r1 =>
  xad r1
   (xaj 1 v0 v3 fun c2 =>
   xaj 1 v1 v3 fun c3 =>
   xac .neq (atP c2 0) (atP c3 0) fun r4 =>
   xad r4
    (x0k)
    (xac .add v3 (I 1) fun r5 =>
    K [v0,v1,v2,r5]))
   (x1k v0 v1 v2 v3)) v
def Qcf:GM
 | [.one a0,.one a1],k =>
  xaH a0 fun r0 =>
  xaH a1 fun r1 =>
  xac .neq r0 r1 fun r2 =>
  xad r2
   (rt [.sc] [(.bool false)] k)
   (lp (fun L w=>Qcf_r0 w L
    (rt [.sc] [(.bool false)] k)
    (fun q6 q7 q8 q9=>rt [.sc] [(.bool true)] k)) [a0,a1,(.bool false),(I 0)])
 | _,_=>False
def Qcf_l:List LE:=[⟨none,0,⟨[(0,.one zB),(1,.one zB),(4,.one zB),(5,.one zB)],[],[],0,26,[]⟩,fun K k v=>Qcf_r0 v K (k .ret ⟨[(4,.one (.kb false))],[],[],0,26,[]⟩) (fun x0 x1 x2 x3=>k (.exit 0) ⟨[(0,.one (.pv x0)),(1,.one (.pv x1)),(4,.one (.pv x2)),(5,.one (.pv x3))],[],[],0,26,[]⟩)⟩]
theorem Qcf_s:xaC [] TT (kk [0,1,4,5,999999]) Qcf_l f350 Qcf_l:=⟨fun v K k h=>by
 apply xab h;exact fun v0 v1 v2 v3 h=>km h
 ,trivial⟩
theorem Qcf_w:EO ⟨[350],Qcf⟩:=oN en (keep:=(kk [0,1,4,5,999999])) (l:=Qcf_l) func350 Qcf_s fun av k h=>by
 unfold Qcf at h;split at h
 ·exact km h
 ·exact h.elim
def Qcg:GM
 | [.agg u0,.agg u1],k=>un 2 (fun a0 a1=>un 2 (fun a2 a3 =>
  xac .eql a1 a3 fun r0 =>
  xad r0
   (call Qcf [.one a0,.one a2] fun o1 =>
   rt [.sc] [(atP o1 0)] k)
   (rt [.sc] [(.bool false)] k)) u1) u0
 | _,_=>False
theorem Qcg_w:EO ⟨[373],Qcg⟩:=oNz (ec Qcf_w en) func373 fun av k h=>by
 unfold Qcg at h;split at h
 ·apply xab h;clear h;intro a0 a1 h;apply xab h;clear h;intro a2 a3 h;exact km h
 ·exact h.elim
def Qch:GM
 | [.agg u0,.agg u1],k=>un 16 (fun a0 a1 a2 a3 a4 a5 a6 a7 a8 a9 a10 a11 a12 a13 a14 a15=>un 16 (fun a16 a17 a18 a19 a20 a21 a22 a23 a24 a25 a26 a27 a28 a29 a30 a31 =>
  xac .eql a5 a21 fun r0 =>
  xad r0
   (xac .eql a6 a22 fun r1 =>
   rt [.sc] [r1] k)
   (rt [.sc] [(.bool false)] k)) u1) u0
 | _,_=>False
theorem Qch_w:EO ⟨[374],Qch⟩:=oNz en func374 fun av k h=>by
 unfold Qch at h;split at h
 ·apply xab h;clear h;(repeat intro _);rename_i h;apply xab h;clear h;(repeat intro _);rename_i h;exact km h
 ·exact h.elim
def Qci:GM
 | [.agg u0,.agg u1],k=>un 16 (fun a0 a1 a2 a3 a4 a5 a6 a7 a8 a9 a10 a11 a12 a13 a14 a15=>un 16 (fun a16 a17 a18 a19 a20 a21 a22 a23 a24 a25 a26 a27 a28 a29 a30 a31 =>
  xad a15
   (rt [.sc] [(I 4)] k)
   (call Qbq [.agg [a10,a11]] fun o0 =>
   xad (atP o0 0)
    (rt [.sc] [(I 5)] k)
    (xac .add a4 a12 fun r1 =>
    xac .lss a19 r1 fun r2 =>
    xad r2
     (rt [.sc] [(I 5)] k)
     (xad a31
      (rt [.sc] [(I 6)] k)
      (call Qcg [.agg [a24,a25],.agg [a10,a11]] fun o3 =>
      unP .not (atP o3 0) fun r4 =>
      xad r4
       (rt [.sc] [(I 6)] k)
       (call Qch [.agg [a16,a17,a18,a19,a20,a21,a22,a23,a24,a25,a26,a27,a28,a29,a30,a31],.agg [a0,a1,a2,a3,a4,a5,a6,a7,a8,a9,a10,a11,a12,a13,a14,a15]] fun o5 =>
       unP .not (atP o5 0) fun r6 =>
       xad r6
        (rt [.sc] [(I 6)] k)
        (rt [.sc] [(I 1)] k))))))) u1) u0
 | _,_=>False
theorem Qci_w:EO ⟨[326],Qci⟩:=oNz (ec Qbq_w (ec Qcg_w (ec Qch_w en))) func326 fun av k h=>by
 unfold Qci at h;split at h
 ·apply xab h;clear h;(repeat intro _);rename_i h;apply xab h;clear h;(repeat intro _);rename_i h;exact km h
 ·exact h.elim
def Qcj:GM
 | [.agg u0,.agg u1],k=>un 16 (fun a0 a1 a2 a3 a4 a5 a6 a7 a8 a9 a10 a11 a12 a13 a14 a15=>un 16 (fun a16 a17 a18 a19 a20 a21 a22 a23 a24 a25 a26 a27 a28 a29 a30 a31 =>
  call Qbq [.agg [a13,a14]] fun o0 =>
  xad (atP o0 0)
   (rt [.sc] [(I 5)] k)
   (xen .eql a31 a15 fun r1 =>
   xad r1
    (rt [.sc] [(I 6)] k)
    (call Qch [.agg [a16,a17,a18,a19,a20,a21,a22,a23,a24,a25,a26,a27,a28,a29,a30,a31],.agg [a0,a1,a2,a3,a4,a5,a6,a7,a8,a9,a10,a11,a12,a13,a14,a15]] fun o2 =>
    unP .not (atP o2 0) fun r3 =>
    xad r3
     (rt [.sc] [(I 6)] k)
     (call Qcg [.agg [a29,a30],.agg [a13,a14]] fun o4 =>
     unP .not (atP o4 0) fun r5 =>
     xad r5
      (rt [.sc] [(I 6)] k)
      (call Qcg [.agg [a26,a27],.agg [a10,a11]] fun o6 =>
      unP .not (atP o6 0) fun r7 =>
      xad r7
       (rt [.sc] [(I 6)] k)
       (xac .neq a28 a12 fun r8 =>
       xad r8
        (rt [.sc] [(I 6)] k)
        (xad a31
         (call Qcg [.agg [a24,a25],.agg [a8,a9]] fun o9 =>
         unP .not (atP o9 0) fun r10 =>
         xad r10
          (rt [.sc] [(I 6)] k)
          (rt [.sc] [(I 1)] k))
         (rt [.sc] [(I 1)] k)))))))) u1) u0
 | _,_=>False
theorem Qcj_w:EO ⟨[327],Qcj⟩:=oNz (ec Qbq_w (ec Qch_w (ec Qcg_w en))) func327 fun av k h=>by
 unfold Qcj at h;split at h
 ·apply xab h;clear h;(repeat intro _);rename_i h;apply xab h;clear h;(repeat intro _);rename_i h;exact km h
 ·exact h.elim
def Qck:GM
 | [.agg u0,.agg u1],k=>un 16 (fun a0 a1 a2 a3 a4 a5 a6 a7 a8 a9 a10 a11 a12 a13 a14 a15=>un 17 (fun a16 a17 a18 a19 a20 a21 a22 a23 a24 a25 a26 a27 a28 a29 a30 a31 a32 =>
  call Qbr [.agg [a0,a1,a2,a3,a4,a5,a6,a7,a8,a9,a10,a11,a12,a13,a14,a15]] fun o0 =>
  unP .not (atP o0 0) fun r1 =>
  xad r1
   (rt [.sc] [(I 2)] k)
   (call Qbr [.agg [a16,a17,a18,a19,a20,a21,a22,a23,a24,a25,a26,a27,a28,a29,a30,a31]] fun o2 =>
   unP .not (atP o2 0) fun r3 =>
   xad r3
    (rt [.sc] [(I 2)] k)
    (xac .neq a16 a0 fun r4 =>
    xad r4
     (rt [.sc] [(I 3)] k)
     (xac .add a1 (I 1) fun r5 =>
     xac .neq a17 r5 fun r6 =>
     xad r6
      (rt [.sc] [(I 3)] k)
      (call Qcd [.agg [a0,a1,a2,a3,a4,a5,a6,a7,a8,a9,a10,a11,a12,a13,a14,a15]] fun o7 =>
      xac .neq a23 (atP o7 0) fun r8 =>
      xad r8
       (rt [.sc] [(I 3)] k)
       (xac .lss a19 a3 fun r9 =>
       xad r9
        (rt [.sc] [(I 3)] k)
        (call Qce [.agg [a0,a1,a2,a3,a4,a5,a6,a7,a8,a9,a10,a11,a12,a13,a14,a15],.agg [a16,a17,a18,a19,a20,a21,a22,a23,a24,a25,a26,a27,a28,a29,a30,a31]] fun o10 =>
        xac .eql a18 (I 2) fun r11 =>
        xad r11
         (call Qci [.agg [a0,a1,a2,a3,a4,a5,a6,a7,a8,a9,a10,a11,a12,a13,a14,a15],.agg [a16,a17,a18,a19,a20,a21,a22,a23,a24,a25,a26,a27,a28,a29,a30,a31]] fun o12 =>
         xac .eql (atP o12 0) (I 1) fun r13 =>
         xad r13
          (call Qbw [.agg [a16,a17,a18,a19,a20,a21,a22,a23,a24,a25,a26,a27,a28,a29,a30,a31]] fun o14 =>
          call Qcb [.agg [a10,a11],.one (atP o14 0),.one a32] fun o15 =>
          unP .not (atP o15 0) fun r16 =>
          xad r16
           (rt [.sc] [(I 7)] k)
           (rt [.sc] [(atP o12 0)] k))
          (rt [.sc] [(atP o12 0)] k))
         (xac .eql a18 (I 3) fun r17 =>
         xad r17
          (call Qcj [.agg [a0,a1,a2,a3,a4,a5,a6,a7,a8,a9,a10,a11,a12,a13,a14,a15],.agg [a16,a17,a18,a19,a20,a21,a22,a23,a24,a25,a26,a27,a28,a29,a30,a31]] fun o18 =>
          xac .eql (atP o18 0) (I 1) fun r19 =>
          xad r19
           (call Qbw [.agg [a16,a17,a18,a19,a20,a21,a22,a23,a24,a25,a26,a27,a28,a29,a30,a31]] fun o20 =>
           call Qcb [.agg [a13,a14],.one (atP o20 0),.one a32] fun o21 =>
           unP .not (atP o21 0) fun r22 =>
           xad r22
            (rt [.sc] [(I 7)] k)
            (rt [.sc] [(atP o18 0)] k))
           (rt [.sc] [(atP o18 0)] k))
          (xac .eql (atP o10 0) (I 1) fun r23 =>
          xad r23
           (call Qbw [.agg [a16,a17,a18,a19,a20,a21,a22,a23,a24,a25,a26,a27,a28,a29,a30,a31]] fun o24 =>
           call Qcb [.agg [a8,a9],.one (atP o24 0),.one a32] fun o25 =>
           unP .not (atP o25 0) fun r26 =>
           xad r26
            (rt [.sc] [(I 7)] k)
            (rt [.sc] [(atP o10 0)] k))
           (rt [.sc] [(atP o10 0)] k)))))))))) u1) u0
 | _,_=>False
theorem Qck_w:EO ⟨[271],Qck⟩:=oNz (ec Qbr_w (ec Qcd_w (ec Qce_w (ec Qci_w (ec Qbw_w (ec Qcb_w (ec Qcj_w en))))))) func271 fun av k h=>by
 unfold Qck at h;split at h
 ·apply xab h;clear h;(repeat intro _);rename_i h;apply xab h;clear h;(repeat intro _);rename_i h;exact km h
 ·exact h.elim
def Qcl:GM
 | [.agg u0,.agg u1],k=>un 16 (fun a0 a1 a2 a3 a4 a5 a6 a7 a8 a9 a10 a11 a12 a13 a14 a15=>un 17 (fun a16 a17 a18 a19 a20 a21 a22 a23 a24 a25 a26 a27 a28 a29 a30 a31 a32 =>
  call Qck [.agg [a0,a1,a2,a3,a4,a5,a6,a7,a8,a9,a10,a11,a12,a13,a14,a15],.agg [a16,a17,a18,a19,a20,a21,a22,a23,a24,a25,a26,a27,a28,a29,a30,a31,a32]] fun o0 =>
  xac .eql (atP o0 0) (I 1) fun r1 =>
  rt [.sc] [r1] k) u1) u0
 | _,_=>False
theorem Qcl_w:EO ⟨[349],Qcl⟩:=oNz (ec Qck_w en) func349 fun av k h=>by
 unfold Qcl at h;split at h
 ·apply xab h;clear h;(repeat intro _);rename_i h;apply xab h;clear h;(repeat intro _);rename_i h;exact km h
 ·exact h.elim
def Qcm_r0 (v:List PV) (K:List PV→Prop) (x0k:PV→Prop) (x1k:PV→Prop) (x2k:Cur 3):Prop :=
 un 3 (fun v0 v1 v2 =>
  xaH v0 fun r0 =>
  xac .lss v2 r0 fun r1 =>
  xad r1
   (xac .eql v2 (I 0) fun r2 =>
   xad r2
    (xaj 17 v0 (I 0) fun c3 =>
    call Qcc [.agg [(atP c3 0),(atP c3 1),(atP c3 2),(atP c3 3),(atP c3 4),(atP c3 5),(atP c3 6),(atP c3 7),(atP c3 8),(atP c3 9),(atP c3 10),(atP c3 11),(atP c3 12),(atP c3 13),(atP c3 14),(atP c3 15),(atP c3 16)]] fun o4 =>
    unP .not (atP o4 0) fun r5 =>
    xad r5
     (x0k v2)
     (xac .gtr v2 (I 0) fun r6 =>
     xad r6
      (xac .sub v2 (I 1) fun r7 =>
      xaj 17 v0 r7 fun c8 =>
      xaj 17 v0 v2 fun c9 =>
      call Qcl [.agg [(atP c8 0),(atP c8 1),(atP c8 2),(atP c8 3),(atP c8 4),(atP c8 5),(atP c8 6),(atP c8 7),(atP c8 8),(atP c8 9),(atP c8 10),(atP c8 11),(atP c8 12),(atP c8 13),(atP c8 14),(atP c8 15)],.agg [(atP c9 0),(atP c9 1),(atP c9 2),(atP c9 3),(atP c9 4),(atP c9 5),(atP c9 6),(atP c9 7),(atP c9 8),(atP c9 9),(atP c9 10),(atP c9 11),(atP c9 12),(atP c9 13),(atP c9 14),(atP c9 15),(atP c9 16)]] fun o10 =>
      unP .not (atP o10 0) fun r11 =>
      xad r11
       (x1k v2)
       (xac .add v2 (I 1) fun r12 =>
       K [v0,v1,r12]))
      (xac .add v2 (I 1) fun r13 =>
      K [v0,v1,r13])))
    (xac .gtr v2 (I 0) fun r14 =>
    xad r14
     (xac .sub v2 (I 1) fun r15 =>
     xaj 17 v0 r15 fun c16 =>
     xaj 17 v0 v2 fun c17 =>
     call Qcl [.agg [(atP c16 0),(atP c16 1),(atP c16 2),(atP c16 3),(atP c16 4),(atP c16 5),(atP c16 6),(atP c16 7),(atP c16 8),(atP c16 9),(atP c16 10),(atP c16 11),(atP c16 12),(atP c16 13),(atP c16 14),(atP c16 15)],.agg [(atP c17 0),(atP c17 1),(atP c17 2),(atP c17 3),(atP c17 4),(atP c17 5),(atP c17 6),(atP c17 7),(atP c17 8),(atP c17 9),(atP c17 10),(atP c17 11),(atP c17 12),(atP c17 13),(atP c17 14),(atP c17 15),(atP c17 16)]] fun o18 =>
     unP .not (atP o18 0) fun r19 =>
     xad r19
      (x0k v2)
      (xac .add v2 (I 1) fun r20 =>
      K [v0,v1,r20]))
     (xac .add v2 (I 1) fun r21 =>
     K [v0,v1,r21])))
   (x2k v0 v1 v2)) v
def Qcm:GM
 | [.one a0],k =>
  lp (fun L w=>Qcm_r0 w L
   (fun q22=>rt [.sc] [q22] k)
   (fun q23=>rt [.sc] [q23] k)
   (fun q24 q25 q26=>rt [.sc] [(I (-1))] k)) [a0,(I 0),(I 0)]
 | _,_=>False
def Qcm_l:List LE:=[⟨none,0,⟨[(0,.one zB),(2,.one zB),(3,.one zB)],[],[],0,38,[]⟩,fun K k v=>Qcm_r0 v K (fun x0=>k .ret ⟨[(2,.one (.pv x0))],[],[],1,38,[]⟩) (fun x0=>k .ret ⟨[(2,.one (.pv x0))],[],[],2,38,[]⟩) (fun x0 x1 x2=>k (.exit 0) ⟨[(0,.one (.pv x0)),(2,.one (.pv x1)),(3,.one (.pv x2))],[],[],0,38,[]⟩)⟩]
theorem Qcm_s:xaC [⟨[348],Qcc⟩,⟨[349],Qcl⟩] TT (kk [0,2,3,13,14,15,16,17,20,21,22,23,24,25,26,27,28,29,30,31,32,33,34,35,999999]) Qcm_l f296 Qcm_l:=⟨fun v K k h=>by
 apply xab h;exact fun v0 v1 v2 h=>km h
 ,trivial⟩
theorem Qcm_w:EO ⟨[296],Qcm⟩:=oN (ec Qcc_w (ec Qcl_w en)) (keep:=(kk [0,2,3,13,14,15,16,17,20,21,22,23,24,25,26,27,28,29,30,31,32,33,34,35,999999])) (l:=Qcm_l) func296 Qcm_s fun av k h=>by
 unfold Qcm at h;split at h
 ·exact km h
 ·exact h.elim
def Qcn:GM
 | [.one a0],k =>
  xaH a0 fun r0 =>
  call Qbo [.one r0,.one (I 1),.one (I 12)] fun o1 =>
  xad (atP o1 0)
   (call Qcm [.one a0] fun o2 =>
   xac .lss (atP o2 0) (I 0) fun r3 =>
   rt [.sc] [r3] k)
   (rt [.sc] [(.bool false)] k)
 | _,_=>False
theorem Qcn_w:EO ⟨[237],Qcn⟩:=oNz (ec Qbo_w (ec Qcm_w en)) func237 fun av k h=>by
 unfold Qcn at h;split at h
 ·exact km h
 ·exact h.elim
def Qco:GM
 | [.one a0],k =>
  call Qcn [.one a0] fun o0 =>
  unP .not (atP o0 0) fun r1 =>
  xad r1
   (rt g22 [(I 0),(I 0),(I 0),(I 0),(I 0),(I 0),(I 0),(I 0),(.list 1 []),(I 0),(.list 1 []),(I 0),(I 0),(.list 1 []),(I 0),(.bool false),(.bool false)] k)
   (xaH a0 fun r2 =>
   xac .sub r2 (I 1) fun r3 =>
   xaj 17 a0 r3 fun c4 =>
   call Qbd [.agg (s16 c4)] fun o5 =>
   rt g22 [(atP o5 0),(atP o5 1),(atP o5 2),(atP o5 3),(atP o5 4),(atP o5 5),(atP o5 6),(atP o5 7),(atP o5 8),(atP o5 9),(atP o5 10),(atP o5 11),(atP o5 12),(atP o5 13),(atP o5 14),(atP o5 15),(.bool true)] k)
 | _,_=>False
theorem Qco_w:EO ⟨[171],Qco⟩:=oNz (ec Qcn_w (ec Qbd_w en)) func171 fun av k h=>by
 unfold Qco at h;split at h
 ·exact km h
 ·exact h.elim
def Qcp_r0 (v:List PV) (K:List PV→Prop) (x0k:Prop) (x1k:Cur 3):Prop :=
 un 3 (fun v0 v1 v2 =>
  xlV v0 fun r0 =>
  xac .lss v2 r0 fun r1 =>
  xad r1
   (xeI v0 v2 fun r2 =>
   xac .lss r2 (.int .u8 97) fun r3 =>
   xad r3
    (xeI v0 v2 fun r4 =>
    xac .lss r4 (.int .u8 48) fun r5 =>
    xad r5
     (xeI v0 v2 fun r6 =>
     xac .neq r6 (.int .u8 45) fun r7 =>
     xad r7
      (x0k)
      (xac .add v2 (I 1) fun r8 =>
      K [v0,v1,r8]))
     (xeI v0 v2 fun r9 =>
     xac .gtr r9 (.int .u8 57) fun r10 =>
     xad r10
      (xeI v0 v2 fun r11 =>
      xac .neq r11 (.int .u8 45) fun r12 =>
      xad r12
       (x0k)
       (xac .add v2 (I 1) fun r13 =>
       K [v0,v1,r13]))
      (xac .add v2 (I 1) fun r14 =>
      K [v0,v1,r14])))
    (xeI v0 v2 fun r15 =>
    xac .gtr r15 (.int .u8 122) fun r16 =>
    xad r16
     (xeI v0 v2 fun r17 =>
     xac .lss r17 (.int .u8 48) fun r18 =>
     xad r18
      (xeI v0 v2 fun r19 =>
      xac .neq r19 (.int .u8 45) fun r20 =>
      xad r20
       (x0k)
       (xac .add v2 (I 1) fun r21 =>
       K [v0,v1,r21]))
      (xeI v0 v2 fun r22 =>
      xac .gtr r22 (.int .u8 57) fun r23 =>
      xad r23
       (xeI v0 v2 fun r24 =>
       xac .neq r24 (.int .u8 45) fun r25 =>
       xad r25
        (x0k)
        (xac .add v2 (I 1) fun r26 =>
        K [v0,v1,r26]))
       (xac .add v2 (I 1) fun r27 =>
       K [v0,v1,r27])))
     (xac .add v2 (I 1) fun r28 =>
     K [v0,v1,r28])))
   (x1k v0 v1 v2)) v
def Qcp:GM
 | [.one a0],k =>
  xlV a0 fun r0 =>
  call Qbo [.one r0,.one (I 1),.one (I 8)] fun o1 =>
  unP .not (atP o1 0) fun r2 =>
  xad r2
   (rt [.sc] [(.bool false)] k)
   (xeI a0 (I 0) fun r3 =>
   xac .eql r3 (.int .u8 45) fun r4 =>
   xad r4
    (rt [.sc] [(.bool false)] k)
    (xlV a0 fun r5 =>
    xac .sub r5 (I 1) fun r6 =>
    xeI a0 r6 fun r7 =>
    xac .eql r7 (.int .u8 45) fun r8 =>
    xad r8
     (rt [.sc] [(.bool false)] k)
     (lp (fun L w=>Qcp_r0 w L
      (rt [.sc] [(.bool false)] k)
      (fun q29 q30 q31=>rt [.sc] [(.bool true)] k)) [a0,(.bool false),(I 0)])))
 | _,_=>False
def Qcp_l:List LE:=[⟨none,0,⟨[(0,.one zB),(2,.one zB),(3,.one zB)],[],[],1,55,[]⟩,fun K k v=>Qcp_r0 v K (k .ret ⟨[(2,.one (.kb false))],[],[],1,55,[]⟩) (fun x0 x1 x2=>k (.exit 0) ⟨[(0,.one (.pv x0)),(2,.one (.pv x1)),(3,.one (.pv x2))],[],[],1,55,[]⟩)⟩]
theorem Qcp_s:xaC [⟨[133],Qbo⟩] TT (kk [0,2,3,32,33,34,35,38,39,40,41,42,43,44,45,46,47,50,51,52,53,999999]) Qcp_l f222 Qcp_l:=⟨fun v K k h=>by
 apply xab h;exact fun v0 v1 v2 h=>km h
 ,trivial⟩
theorem Qcp_w:EO ⟨[222],Qcp⟩:=oN (ec Qbo_w en) (keep:=(kk [0,2,3,32,33,34,35,38,39,40,41,42,43,44,45,46,47,50,51,52,53,999999])) (l:=Qcp_l) func222 Qcp_s fun av k h=>by
 unfold Qcp at h;split at h
 ·exact km h
 ·exact h.elim
def Qcq_r0 (v:List PV) (K:List PV→Prop) (x0k:Prop) (x1k:Cur 3):Prop :=
 un 3 (fun v0 v1 v2 =>
  xaH v0 fun r0 =>
  xac .lss v2 r0 fun r1 =>
  xad r1
   (xaj 1 v0 v2 fun c2 =>
   call Qcp [.one (atP c2 0)] fun o3 =>
   unP .not (atP o3 0) fun r4 =>
   xad r4
    (x0k)
    (xac .add v2 (I 1) fun r5 =>
    K [v0,v1,r5]))
   (x1k v0 v1 v2)) v
def Qcq:GM
 | [.one a0],k =>
  lp (fun L w=>Qcq_r0 w L
   (rt [.sc] [(.bool false)] k)
   (fun q6 q7 q8=>xaH q6 fun r9 =>
    call Qbo [.one r9,.one (I 1),.one (I 4)] fun o10 =>
    rt [.sc] [(atP o10 0)] k)) [a0,(.bool false),(I 0)]
 | _,_=>False
def Qcq_l:List LE:=[⟨none,0,⟨[(0,.one zB),(2,.one zB),(3,.one zB)],[],[],0,19,[]⟩,fun K k v=>Qcq_r0 v K (k .ret ⟨[(2,.one (.kb false))],[],[],1,19,[]⟩) (fun x0 x1 x2=>k (.exit 0) ⟨[(0,.one (.pv x0)),(2,.one (.pv x1)),(3,.one (.pv x2))],[],[],0,19,[]⟩)⟩]
theorem Qcq_s:xaC [⟨[222],Qcp⟩,⟨[133],Qbo⟩] TT (kk [0,2,3,999999]) Qcq_l f152 Qcq_l:=⟨fun v K k h=>by
 apply xab h;exact fun v0 v1 v2 h=>km h
 ,trivial⟩
theorem Qcq_w:EO ⟨[152],Qcq⟩:=oN (ec Qcp_w (ec Qbo_w en)) (keep:=(kk [0,2,3,999999])) (l:=Qcq_l) func152 Qcq_s fun av k h=>by
 unfold Qcq at h;split at h
 ·exact km h
 ·exact h.elim
def Qcr:GM
 | [.agg u0],k=>un 4 (fun a0 a1 a2 a3 =>
  xac .eql a1 (I 1) fun r0 =>
  xad r0
   (call Qcp [.one a0] fun o1 =>
   xad (atP o1 0)
    (call Qbo [.one a2,.one (I 0),.one (I 999999)] fun o2 =>
    xad (atP o2 0)
     (xaH a3 fun r3 =>
     xac .eql r3 (I 0) fun r4 =>
     rt [.sc] [r4] k)
     (rt [.sc] [(.bool false)] k))
    (rt [.sc] [(.bool false)] k))
   (xac .eql a1 (I 2) fun r5 =>
   xad r5
    (call Qcp [.one a0] fun o6 =>
    xad (atP o6 0)
     (call Qbo [.one a2,.one (I 0),.one (I 2147483646)] fun o7 =>
     xad (atP o7 0)
      (xaH a3 fun r8 =>
      xac .eql r8 (I 0) fun r9 =>
      rt [.sc] [r9] k)
      (rt [.sc] [(.bool false)] k))
     (rt [.sc] [(.bool false)] k))
    (xac .eql a1 (I 3) fun r10 =>
    xad r10
     (call Qcp [.one a0] fun o11 =>
     xad (atP o11 0)
      (call Qbo [.one a2,.one (I 0),.one (I 2147483646)] fun o12 =>
      xad (atP o12 0)
       (call Qcq [.one a3] fun o13 =>
       rt [.sc] [(atP o13 0)] k)
       (rt [.sc] [(.bool false)] k))
      (rt [.sc] [(.bool false)] k))
     (rt [.sc] [(.bool false)] k)))) u0
 | _,_=>False
theorem Qcr_w:EO ⟨[311],Qcr⟩:=oNz (ec Qcp_w (ec Qbo_w (ec Qcq_w en))) func311 fun av k h=>by
 unfold Qcr at h;split at h
 ·apply xab h;clear h;intro a0 a1 a2 a3 h;exact km h
 ·exact h.elim
def Qcs:GM
 | [.one a0,.one a1],k =>
  xac .lss a0 a1 fun r0 =>
  xad r0
   (rt [.sc] [(I (-1))] k)
   (xac .gtr a0 a1 fun r1 =>
   xad r1
    (rt [.sc] [(I 1)] k)
    (rt [.sc] [(I 0)] k))
 | _,_=>False
theorem Qcs_w:EO ⟨[312],Qcs⟩:=oNz en func312 fun av k h=>by
 unfold Qcs at h;split at h
 ·exact km h
 ·exact h.elim
def Qct_r0 (v:List PV) (K:List PV→Prop) (x0k:Prop) (x1k:Prop) (x2k:Cur 3):Prop :=
 un 3 (fun v0 v1 v2 =>
  xaH v0 fun r0 =>
  xac .lss v2 r0 fun r1 =>
  xad r1
   (xaj 4 v0 v2 fun c2 =>
   call Qcr [.agg [(atP c2 0),(atP c2 1),(atP c2 2),(atP c2 3)]] fun o3 =>
   unP .not (atP o3 0) fun r4 =>
   xad r4
    (x0k)
    (xac .gtr v2 (I 0) fun r5 =>
    xad r5
     (xac .sub v2 (I 1) fun r6 =>
     xaj 4 v0 r6 fun c7 =>
     xaj 4 v0 v2 fun c8 =>
     call Qcs [.one (atP c7 0),.one (atP c8 0)] fun o9 =>
     xac .neq (atP o9 0) (I (-1)) fun r10 =>
     xad r10
      (x1k)
      (xac .add v2 (I 1) fun r11 =>
      K [v0,v1,r11]))
     (xac .add v2 (I 1) fun r12 =>
     K [v0,v1,r12])))
   (x2k v0 v1 v2)) v
def Qct:GM
 | [.one a0],k =>
  lp (fun L w=>Qct_r0 w L
   (rt [.sc] [(.bool false)] k)
   (rt [.sc] [(.bool false)] k)
   (fun q13 q14 q15=>xaH q13 fun r16 =>
    xac .leq r16 (I 12) fun r17 =>
    rt [.sc] [r17] k)) [a0,(.bool false),(I 0)]
 | _,_=>False
def Qct_l:List LE:=[⟨none,0,⟨[(0,.one zB),(2,.one zB),(3,.one zB)],[],[],0,38,[]⟩,fun K k v=>Qct_r0 v K (k .ret ⟨[(2,.one (.kb false))],[],[],1,38,[]⟩) (k .ret ⟨[(2,.one (.kb false))],[],[],2,38,[]⟩) (fun x0 x1 x2=>k (.exit 0) ⟨[(0,.one (.pv x0)),(2,.one (.pv x1)),(3,.one (.pv x2))],[],[],0,38,[]⟩)⟩]
theorem Qct_s:xaC [⟨[311],Qcr⟩,⟨[312],Qcs⟩] TT (kk [0,2,3,17,18,19,20,21,22,23,24,25,26,27,28,29,30,31,32,33,999999]) Qct_l f254 Qct_l:=⟨fun v K k h=>by
 apply xab h;exact fun v0 v1 v2 h=>km h
 ,trivial⟩
theorem Qct_w:EO ⟨[254],Qct⟩:=oN (ec Qcr_w (ec Qcs_w en)) (keep:=(kk [0,2,3,17,18,19,20,21,22,23,24,25,26,27,28,29,30,31,32,33,999999])) (l:=Qct_l) func254 Qct_s fun av k h=>by
 unfold Qct at h;split at h
 ·exact km h
 ·exact h.elim
def Qcu_r0 (v:List PV) (K:List PV→Prop) (x0k:Cur 4):Prop :=
 un 4 (fun v0 v1 v2 v3 =>
  xaH v0 fun r0 =>
  xac .lss v1 r0 fun r1 =>
  xad r1
   (xaj 1 v0 v1 fun c2 =>
   xmc .i64 (atP c2 0) fun r3 =>
   (1=1)∧(1≤16777216)∧(1=1)∧(0=0)∧(1=1)∧(xae [.pv (I 0)] [.pv r3])∧xbd 1 v3 (.list 1 [[r3]]) fun r4 =>
   xac .add v1 (I 1) fun r5 =>
   K [v0,r5,v2,r4])
   (x0k v0 v1 v2 v3)) v
def Qcu:GM
 | [.one a0],k =>
  xaH a0 fun r0 =>
  (1=1)∧(1≤16777216)∧(1=1)∧(0=0)∧(1=1)∧(xae [.pv (I 0)] [.pv r0])∧lp (fun L w=>Qcu_r0 w L
   (fun q6 q7 q8 q9=>rt [.own true 3 1] [q9] k)) [a0,(I 0),(.list 1 []),(.list 1 [[r0]])]
 | _,_=>False
def Qcu_l:List LE:=[⟨none,0,⟨[(0,.one zB),(2,.one (.own 1)),(3,.one (.own 0)),(4,.one zB)],[],[(1,⟨.deep,3,1,(.bool false)⟩),(0,⟨.deep,3,1,(.bool false)⟩)],2,23,[]⟩,fun K k v=>Qcu_r0 v K (fun x0 x1 x2 x3=>k (.exit 0) ⟨[(0,.one (.pv x0)),(2,.one (.own 1)),(3,.one (.own 0)),(4,.one (.pv x1))],[],[(1,⟨.deep,3,1,x2⟩),(0,⟨.deep,3,1,x3⟩)],2,23,[]⟩)⟩]
theorem Qcu_s:xaC [] TT (kk [0,2,3,4,999999]) Qcu_l f292 Qcu_l:=⟨fun v K k h=>by
 apply xab h;exact fun v0 v1 v2 v3 h=>km h
 ,trivial⟩
theorem Qcu_w:EO ⟨[292],Qcu⟩:=oN en (keep:=(kk [0,2,3,4,999999])) (l:=Qcu_l) func292 Qcu_s fun av k h=>by
 unfold Qcu at h;split at h
 ·exact km h
 ·exact h.elim
def Qcv:GM
 | [.one a0],k =>
  xlk a0 fun r0 =>
  call Qcu [.one r0] fun o1 =>
  rt [.own true 3 1] [(atP o1 0)] k
 | _,_=>False
theorem Qcv_w:EO ⟨[235],Qcv⟩:=oNz (ec Qcu_w en) func235 fun av k h=>by
 unfold Qcv at h;split at h
 ·exact km h
 ·exact h.elim
def Qcw_r0 (v:List PV) (K:List PV→Prop) (x0k:Cur 7):Prop :=
 un 7 (fun v0 v1 v2 v3 v4 v5 v6 =>
  xaH v4 fun r0 =>
  xac .lss v0 r0 fun r1 =>
  xad r1
   (xaj 1 v4 v0 fun c2 =>
   call Qcv [.one (atP c2 0)] fun o3 =>
   xbd 1 v6 (atP o3 0) fun r4 =>
   xac .add v0 (I 1) fun r5 =>
   K [r5,v1,v2,v3,v4,v5,r4])
   (x0k v0 v1 v2 v3 v4 v5 v6)) v
def Qcw:GM
 | [.agg u0],k=>un 4 (fun a0 a1 a2 a3 =>
  call Qcv [.one a0] fun o0 =>
  xaH a3 fun r1 =>
  (3=3)∧(3≤16777216)∧(1=1)∧(0=0)∧(1=1)∧(xae [.pv (I 0)] [.pv a1])∧(1=1)∧(1=1)∧(xae [.pv (I 0)] [.pv a2])∧(2=2)∧(1=1)∧(xae [.pv (I 0)] [.pv r1])∧xbd 1 (atP o0 0) (.list 1 [[a1],[a2],[r1]]) fun r2 =>
  lp (fun L w=>Qcw_r0 w L
   (fun q6 q7 q8 q9 q10 q11 q12=>rt [.own true 3 1] [q12] k)) [(I 0),a0,a1,a2,a3,(.list 1 []),r2]) u0
 | _,_=>False
def Qcw_l:List LE:=[⟨none,0,⟨[(1,.one (.ptr 0 0)),(2,.one (.own 4)),(3,.one (.own 3)),(4,.one zB)],[(0,[zB,zB,zB,zB])],[(4,⟨.deep,3,1,(.bool false)⟩),(3,⟨.deep,3,1,(.bool false)⟩)],5,33,[]⟩,fun K k v=>Qcw_r0 v K (fun x0 x1 x2 x3 x4 x5 x6=>k (.exit 0) ⟨[(1,.one (.ptr 0 0)),(2,.one (.own 4)),(3,.one (.own 3)),(4,.one (.pv x0))],[(0,[.pv x1,.pv x2,.pv x3,.pv x4])],[(4,⟨.deep,3,1,x5⟩),(3,⟨.deep,3,1,x6⟩)],5,33,[]⟩)⟩]
theorem Qcw_s:xaC [⟨[235],Qcv⟩] TT (kk [1,2,3,4,999999]) Qcw_l f399 Qcw_l:=⟨fun v K k h=>by
 apply xab h;exact fun v0 v1 v2 v3 v4 v5 v6 h=>km h
 ,trivial⟩
theorem Qcw_w:EO ⟨[399],Qcw⟩:=oN (ec Qcv_w en) (keep:=(kk [1,2,3,4,999999])) (l:=Qcw_l) func399 Qcw_s fun av k h=>by
 unfold Qcw at h;split at h
 ·apply xab h;clear h;intro a0 a1 a2 a3 h;exact km h
 ·exact h.elim
def Qcx:GM
 | [.agg u0],k=>un 4 (fun a0 a1 a2 a3 =>
  (1=1)∧(1≤16777216)∧(1=1)∧(0=0)∧(1=1)∧(xae [.pv (I 0)] [.pv (I 227)])∧call Qcw [.agg [a0,a1,a2,a3]] fun o0 =>
  xbd 1 (.list 1 [[(I 227)]]) (atP o0 0) fun r1 =>
  call Qbu [.one r1] fun o2 =>
  rt [.sc] [(atP o2 0)] k) u0
 | _,_=>False
theorem Qcx_w:EO ⟨[352],Qcx⟩:=oNz (ec Qcw_w (ec Qbu_w en)) func352 fun av k h=>by
 unfold Qcx at h;split at h
 ·apply xab h;clear h;intro a0 a1 a2 a3 h;exact km h
 ·exact h.elim
def Qcy_r0 (v:List PV) (K:List PV→Prop) (x0k:Cur 4):Prop :=
 un 4 (fun v0 v1 v2 v3 =>
  xaH v0 fun r0 =>
  xac .lss v1 r0 fun r1 =>
  xad r1
   (xaj 4 v0 v1 fun c2 =>
   call Qcx [.agg [(atP c2 0),(atP c2 1),(atP c2 2),(atP c2 3)]] fun o3 =>
   (1=1)∧(1≤16777216)∧(1=1)∧(0=0)∧(1=1)∧(xae [.pv (I 0)] [.pv (atP o3 0)])∧xbd 1 v3 (.list 1 [[(atP o3 0)]]) fun r4 =>
   xac .add v1 (I 1) fun r5 =>
   K [v0,r5,v2,r4])
   (x0k v0 v1 v2 v3)) v
def Qcy:GM
 | [.one a0],k =>
  (0=0)∧(0≤16777216)∧(1=1)∧lp (fun L w=>Qcy_r0 w L
   (fun q6 q7 q8 q9=>rt [.own true 3 1] [q9] k)) [a0,(I 0),(.list 1 []),(.list 1 [])]
 | _,_=>False
def Qcy_l:List LE:=[⟨none,0,⟨[(0,.one zB),(2,.one (.own 1)),(3,.one (.own 0)),(4,.one zB)],[],[(1,⟨.deep,3,1,(.bool false)⟩),(0,⟨.deep,3,1,(.bool false)⟩)],2,21,[]⟩,fun K k v=>Qcy_r0 v K (fun x0 x1 x2 x3=>k (.exit 0) ⟨[(0,.one (.pv x0)),(2,.one (.own 1)),(3,.one (.own 0)),(4,.one (.pv x1))],[],[(1,⟨.deep,3,1,x2⟩),(0,⟨.deep,3,1,x3⟩)],2,21,[]⟩)⟩]
theorem Qcy_s:xaC [⟨[352],Qcx⟩] TT (kk [0,2,3,4,999999]) Qcy_l f315 Qcy_l:=⟨fun v K k h=>by
 apply xab h;exact fun v0 v1 v2 v3 h=>km h
 ,trivial⟩
theorem Qcy_w:EO ⟨[315],Qcy⟩:=oN (ec Qcx_w en) (keep:=(kk [0,2,3,4,999999])) (l:=Qcy_l) func315 Qcy_s fun av k h=>by
 unfold Qcy at h;split at h
 ·exact km h
 ·exact h.elim
def Qcz:GM
 | [.one a0,.one a1],k =>
  (3=3)∧(3≤16777216)∧(1=1)∧(0=0)∧(1=1)∧(xae [.pv (I 0)] [.pv (I 229)])∧(1=1)∧(1=1)∧(xae [.pv (I 0)] [.pv a0])∧(2=2)∧(1=1)∧(xae [.pv (I 0)] [.pv a1])∧call Qbu [.one (.list 1 [[(I 229)],[a0],[a1]])] fun o0 =>
  rt [.sc] [(atP o0 0)] k
 | _,_=>False
theorem Qcz_w:EO ⟨[398],Qcz⟩:=oNz (ec Qbu_w en) func398 fun av k h=>by
 unfold Qcz at h;split at h
 ·exact km h
 ·exact h.elim
def Qda_r0 (v:List PV) (K:List PV→Prop) (x0k:Cur 4):Prop :=
 un 4 (fun v0 v1 v2 v3 =>
  xaH v0 fun r0 =>
  xac .lss v1 r0 fun r1 =>
  xad r1
   (xac .add v1 (I 1) fun r2 =>
   xaH v0 fun r3 =>
   xac .lss r2 r3 fun r4 =>
   xad r4
    (xaj 1 v0 v1 fun c5 =>
    xac .add v1 (I 1) fun r6 =>
    xaj 1 v0 r6 fun c7 =>
    call Qcz [.one (atP c5 0),.one (atP c7 0)] fun o8 =>
    (1=1)∧(1≤16777216)∧(1=1)∧(0=0)∧(1=1)∧(xae [.pv (I 0)] [.pv (atP o8 0)])∧xbd 1 v3 (.list 1 [[(atP o8 0)]]) fun r9 =>
    xac .add v1 (I 2) fun r10 =>
    K [v0,r10,v2,r9])
    (xaj 1 v0 v1 fun c11 =>
    (1=1)∧(1≤16777216)∧(1=1)∧(0=0)∧(1=1)∧(xae [.pv (I 0)] [.pv (atP c11 0)])∧xbd 1 v3 (.list 1 [[(atP c11 0)]]) fun r12 =>
    xac .add v1 (I 2) fun r13 =>
    K [v0,r13,v2,r12]))
   (x0k v0 v1 v2 v3)) v
def Qda:GM
 | [.one a0],k =>
  (0=0)∧(0≤16777216)∧(1=1)∧lp (fun L w=>Qda_r0 w L
   (fun q14 q15 q16 q17=>rt [.own true 3 1] [q17] k)) [a0,(I 0),(.list 1 []),(.list 1 [])]
 | _,_=>False
def Qda_l:List LE:=[⟨none,0,⟨[(0,.one zB),(2,.one (.own 1)),(3,.one (.own 0)),(4,.one zB)],[],[(1,⟨.deep,3,1,(.bool false)⟩),(0,⟨.deep,3,1,(.bool false)⟩)],2,38,[]⟩,fun K k v=>Qda_r0 v K (fun x0 x1 x2 x3=>k (.exit 0) ⟨[(0,.one (.pv x0)),(2,.one (.own 1)),(3,.one (.own 0)),(4,.one (.pv x1))],[],[(1,⟨.deep,3,1,x2⟩),(0,⟨.deep,3,1,x3⟩)],2,38,[]⟩)⟩]
theorem Qda_s:xaC [⟨[398],Qcz⟩] TT (kk [0,2,3,4,999999]) Qda_l f362 Qda_l:=⟨fun v K k h=>by
 apply xab h;exact fun v0 v1 v2 v3 h=>km h
 ,trivial⟩
theorem Qda_w:EO ⟨[362],Qda⟩:=oN (ec Qcz_w en) (keep:=(kk [0,2,3,4,999999])) (l:=Qda_l) func362 Qda_s fun av k h=>by
 unfold Qda at h;split at h
 ·exact km h
 ·exact h.elim
def Qdb_r0 (v:List PV) (K:List PV→Prop) (x0k:PV→PV→Prop):Prop :=
 un 2 (fun v0 v1 =>
  xaH v1 fun r0 =>
  xac .gtr r0 (I 1) fun r1 =>
  xad r1
   (call Qda [.one v1] fun o2 =>
   K [v0,(atP o2 0)])
   (x0k v0 v1)) v
def Qdb:GM
 | [.one a0],k =>
  xaH a0 fun r0 =>
  xac .eql r0 (I 0) fun r1 =>
  xad r1
   ((1=1)∧(1≤16777216)∧(1=1)∧(0=0)∧(1=1)∧(xae [.pv (I 0)] [.pv (I 229)])∧call Qbu [.one (.list 1 [[(I 229)]])] fun o2 =>
   rt [.sc] [(atP o2 0)] k)
   (lp (fun L w=>Qdb_r0 w L
    (fun q3 q4=>xaj 1 q4 (I 0) fun c5 =>
     rt [.sc] [(atP c5 0)] k)) [(I 0),a0])
 | _,_=>False
def Qdb_l:List LE:=[⟨none,0,⟨[(2,.one zB),(3,.one zB)],[],[],0,18,[]⟩,fun K k v=>Qdb_r0 v K (fun x0 x1=>k (.exit 0) ⟨[(2,.one (.pv x0)),(3,.one (.pv x1))],[],[],0,18,[]⟩)⟩]
theorem Qdb_s:xaC [⟨[234],Qbu⟩,⟨[362],Qda⟩] TT (kk [2,3,999999]) Qdb_l f314 Qdb_l:=⟨fun v K k h=>by
 apply xab h;exact fun v0 v1 h=>km h
 ,trivial⟩
theorem Qdb_w:EO ⟨[314],Qdb⟩:=oN (ec Qbu_w (ec Qda_w en)) (keep:=(kk [2,3,999999])) (l:=Qdb_l) func314 Qdb_s fun av k h=>by
 unfold Qdb at h;split at h
 ·exact km h
 ·exact h.elim
def Qdc:GM
 | [.one a0,.one a1],k =>
  (3=3)∧(3≤16777216)∧(1=1)∧(0=0)∧(1=1)∧(xae [.pv (I 0)] [.pv (I 231)])∧(1=1)∧(1=1)∧(xae [.pv (I 0)] [.pv a0])∧(2=2)∧(1=1)∧(xae [.pv (I 0)] [.pv a1])∧call Qbu [.one (.list 1 [[(I 231)],[a0],[a1]])] fun o0 =>
  rt [.sc] [(atP o0 0)] k
 | _,_=>False
theorem Qdc_w:EO ⟨[313],Qdc⟩:=oNz (ec Qbu_w en) func313 fun av k h=>by
 unfold Qdc at h;split at h
 ·exact km h
 ·exact h.elim
def Qdd:GM
 | [.one a0],k =>
  xaH a0 fun r0 =>
  call Qcy [.one a0] fun o1 =>
  call Qdb [.one (atP o1 0)] fun o2 =>
  call Qdc [.one r0,.one (atP o2 0)] fun o3 =>
  rt [.sc] [(atP o3 0)] k
 | _,_=>False
theorem Qdd_w:EO ⟨[255],Qdd⟩:=oNz (ec Qcy_w (ec Qdb_w (ec Qdc_w en))) func255 fun av k h=>by
 unfold Qdd at h;split at h
 ·exact km h
 ·exact h.elim
def Qde:GM
 | [.one a0,.one a1],k =>
  call Qct [.one a1] fun o0 =>
  xad (atP o0 0)
   (call Qdd [.one a1] fun o1 =>
   xac .eql (atP o1 0) a0 fun r2 =>
   rt [.sc] [r2] k)
   (rt [.sc] [(.bool false)] k)
 | _,_=>False
theorem Qde_w:EO ⟨[190],Qde⟩:=oNz (ec Qct_w (ec Qdd_w en)) func190 fun av k h=>by
 unfold Qde at h;split at h
 ·exact km h
 ·exact h.elim
def Qdf:GM
 | [.agg u0],k=>un 2 (fun a0 a1 =>
  call Qco [.one a0] fun o0 =>
  xad (atP o0 16)
   (xaH a1 fun r1 =>
   xac .eql (atP o0 5) r1 fun r2 =>
   xad r2
    (call Qde [.one (atP o0 6),.one a1] fun o3 =>
    rt [.sc] [(atP o3 0)] k)
    (rt [.sc] [(.bool false)] k))
   (rt [.sc] [(.bool false)] k)) u0
 | _,_=>False
theorem Qdf_w:EO ⟨[109],Qdf⟩:=oNz (ec Qco_w (ec Qde_w en)) func109 fun av k h=>by
 unfold Qdf at h;split at h
 ·apply xab h;clear h;intro a0 a1 h;exact km h
 ·exact h.elim
def Qdg:GM
 | [.agg u0],k=>un 2 (fun a0 a1 =>
  call Qco [.one a0] fun o0 =>
  call Qdf [.agg [a0,a1]] fun o1 =>
  unP .not (atP o1 0) fun r2 =>
  xad r2
   (rt [.sc] [(I (-1))] k)
   (rt [.sc] [(atP o0 0)] k)) u0
 | _,_=>False
theorem Qdg_w:EO ⟨[110],Qdg⟩:=oNz (ec Qco_w (ec Qdf_w en)) func110 fun av k h=>by
 unfold Qdg at h;split at h
 ·apply xab h;clear h;intro a0 a1 h;exact km h
 ·exact h.elim
def Qdh:GM
 | [.one a0],k =>
  xpJ false a0 fun r0 =>
  xad r0
   (rt [.own true 3 1] [(.list 1 [])] k)
   ((0=0)∧(0≤16777216)∧(1=1)∧(xaZ a0)∧xbd 1 (.list 1 []) a0 fun r1 =>
   rt [.own true 3 1] [r1] k)
 | _,_=>False
theorem Qdh_w:EO ⟨[200],Qdh⟩:=oNz en func200 fun av k h=>by
 unfold Qdh at h;split at h
 ·exact km h
 ·exact h.elim
def Qdi:GM
 | [.agg u0],k=>un 2 (fun a0 a1 =>
  call Qdh [.one a0] fun o0 =>
  rt [.own true 3 1,.sc] [(atP o0 0),a1] k) u0
 | _,_=>False
theorem Qdi_w:EO ⟨[391],Qdi⟩:=oFz (ec Qdh_w en) func391 fun av k h=>by
 unfold Qdi at h;split at h
 ·apply xab h;clear h;intro a0 a1 h;exact km h
 ·exact h.elim
def Qdj:GM
 | [.agg u0],k=>un 16 (fun a0 a1 a2 a3 a4 a5 a6 a7 a8 a9 a10 a11 a12 a13 a14 a15 =>
  call Qdi [.agg [a8,a9]] fun o0 =>
  call Qdi [.agg [a10,a11]] fun o1 =>
  call Qdi [.agg [a13,a14]] fun o2 =>
  rt g15 [a0,a1,a2,a3,a4,a5,a6,a7,(atP o0 0),(atP o0 1),(atP o1 0),(atP o1 1),a12,(atP o2 0),(atP o2 1),a15] k) u0
 | _,_=>False
theorem Qdj_w:EO ⟨[340],Qdj⟩:=oFz (ec Qdi_w en) func340 fun av k h=>by
 unfold Qdj at h;split at h
 ·apply xab h;clear h;(repeat intro _);rename_i h;exact km h
 ·exact h.elim
def Qdk:GM
 | [.one a0],k =>
  xpJ false a0 fun r0 =>
  xad r0
   (rt [.own true 317 2] [(.list 2 [])] k)
   ((0=0)∧(0≤16777216)∧(2=2)∧(xaZ a0)∧xbd 2 (.list 2 []) a0 fun r1 =>
   rt [.own true 317 2] [r1] k)
 | _,_=>False
theorem Qdk_w:EO ⟨[356],Qdk⟩:=oNz en func356 fun av k h=>by
 unfold Qdk at h;split at h
 ·exact km h
 ·exact h.elim
def Qdl:GM
 | [.agg u0],k=>un 17 (fun a0 a1 a2 a3 a4 a5 a6 a7 a8 a9 a10 a11 a12 a13 a14 a15 a16 =>
  call Qdj [.agg [a0,a1,a2,a3,a4,a5,a6,a7,a8,a9,a10,a11,a12,a13,a14,a15]] fun o0 =>
  call Qdk [.one a16] fun o1 =>
  rt g16 [(atP o0 0),(atP o0 1),(atP o0 2),(atP o0 3),(atP o0 4),(atP o0 5),(atP o0 6),(atP o0 7),(atP o0 8),(atP o0 9),(atP o0 10),(atP o0 11),(atP o0 12),(atP o0 13),(atP o0 14),(atP o0 15),(atP o1 0)] k) u0
 | _,_=>False
theorem Qdl_w:EO ⟨[305],Qdl⟩:=oFz (ec Qdj_w (ec Qdk_w en)) func305 fun av k h=>by
 unfold Qdl at h;split at h
 ·apply xab h;clear h;(repeat intro _);rename_i h;exact km h
 ·exact h.elim
def Qdm_r0 (v:List PV) (K:List PV→Prop) (x0k:Cur 5):Prop :=
 un 5 (fun v0 v1 v2 v3 v4 =>
  xac .lss v2 v1 fun r0 =>
  xad r0
   (xaj 17 v0 v2 fun c1 =>
   call Qdl [.agg [(atP c1 0),(atP c1 1),(atP c1 2),(atP c1 3),(atP c1 4),(atP c1 5),(atP c1 6),(atP c1 7),(atP c1 8),(atP c1 9),(atP c1 10),(atP c1 11),(atP c1 12),(atP c1 13),(atP c1 14),(atP c1 15),(atP c1 16)]] fun o2 =>
   (1=1)∧(17≤16777216)∧(17=17)∧(0=0)∧(17=17)∧(xae [.pv (I 0),.pv (I 0),.pv (I 0),.pv (I 0),.pv (I 0),.pv (I 0),.pv (I 0),.pv (I 0),.nil 3 1,.pv (I 0),.nil 3 1,.pv (I 0),.pv (I 0),.nil 3 1,.pv (I 0),zB,.nil 317 2] [.pv (atP o2 0),.pv (atP o2 1),.pv (atP o2 2),.pv (atP o2 3),.pv (atP o2 4),.pv (atP o2 5),.pv (atP o2 6),.pv (atP o2 7),.own 11,.pv (atP o2 9),.own 13,.pv (atP o2 11),.pv (atP o2 12),.own 16,.pv (atP o2 14),.pv (atP o2 15),.own 19])∧xbd 17 v4 (.list 17 [[(atP o2 0),(atP o2 1),(atP o2 2),(atP o2 3),(atP o2 4),(atP o2 5),(atP o2 6),(atP o2 7),(atP o2 8),(atP o2 9),(atP o2 10),(atP o2 11),(atP o2 12),(atP o2 13),(atP o2 14),(atP o2 15),(atP o2 16)]]) fun r3 =>
   xac .add v2 (I 1) fun r4 =>
   K [v0,v1,r4,v3,r3])
   (x0k v0 v1 v2 v3 v4)) v
def Qdm:GM
 | [.one a0],k =>
  (0=0)∧(0≤16777216)∧(17=17)∧xaH a0 fun r0 =>
  lp (fun L w=>Qdm_r0 w L
   (fun q5 q6 q7 q8 q9=>rt [.own true 257 17] [q9] k)) [a0,r0,(I 0),(.list 17 []),(.list 17 [])]
 | _,_=>False
def Qdm_l:List LE:=[⟨none,0,⟨[(2,.one (.own 1)),(3,.one (.own 0)),(7,.one zB),(8,.one zB),(9,.one zB)],[],[(1,⟨.deep,257,17,(.bool false)⟩),(0,⟨.deep,257,17,(.bool false)⟩)],2,20,[]⟩,fun K k v=>Qdm_r0 v K (fun x0 x1 x2 x3 x4=>k (.exit 0) ⟨[(2,.one (.own 1)),(3,.one (.own 0)),(7,.one (.pv x0)),(8,.one (.pv x1)),(9,.one (.pv x2))],[],[(1,⟨.deep,257,17,x3⟩),(0,⟨.deep,257,17,x4⟩)],2,20,[]⟩)⟩]
theorem Qdm_s:xaC [⟨[305],Qdl⟩] TT.nofl (kk [2,3,7,8,9,999999]) Qdm_l f245 Qdm_l:=⟨fun v K k h=>by
 apply xab h;exact fun v0 v1 v2 v3 v4 h=>km h
 ,trivial⟩
theorem Qdm_w:EO ⟨[245],Qdm⟩:=oF (ec Qdl_w en) (keep:=(kk [2,3,7,8,9,999999])) (l:=Qdm_l) func245 Qdm_s fun av k h=>by
 unfold Qdm at h;split at h
 ·exact km h
 ·exact h.elim
def Qdn:GM
 | [.one a0],k =>
  xpJ false a0 fun r0 =>
  xad r0
   (rt [.own true 9 1] [(.list 1 [])] k)
   ((0=0)∧(0≤16777216)∧(1=1)∧(xaZ a0)∧xbd 1 (.list 1 []) a0 fun r1 =>
   rt [.own true 9 1] [r1] k)
 | _,_=>False
theorem Qdn_w:EO ⟨[73],Qdn⟩:=oFz en func73 fun av k h=>by
 unfold Qdn at h;split at h
 ·exact km h
 ·exact h.elim
def Qdo:GM
 | [.agg u0],k=>un 4 (fun a0 a1 a2 a3 =>
  call Qdn [.one a3] fun o0 =>
  rt g17 [a0,a1,a2,(atP o0 0)] k) u0
 | _,_=>False
theorem Qdo_w:EO ⟨[229],Qdo⟩:=oFz (ec Qdn_w en) func229 fun av k h=>by
 unfold Qdo at h;split at h
 ·apply xab h;clear h;intro a0 a1 a2 a3 h;exact km h
 ·exact h.elim
def Qdp:GM
 | [.agg u0],k=>un 51 (fun a0 a1 a2 a3 a4 a5 a6 a7 a8 a9 a10 a11 a12 a13 a14 a15 a16 a17 a18 a19 a20 a21 a22 a23 a24 a25 a26 a27 a28 a29 a30 a31 a32 a33 a34 a35 a36 a37 a38 a39 a40 a41 a42 a43 a44 a45 a46 a47 a48 a49 a50 =>
  call Qdl [.agg [a0,a1,a2,a3,a4,a5,a6,a7,a8,a9,a10,a11,a12,a13,a14,a15,a16]] fun o0 =>
  call Qdl [.agg [a17,a18,a19,a20,a21,a22,a23,a24,a25,a26,a27,a28,a29,a30,a31,a32,a33]] fun o1 =>
  call Qdl [.agg [a34,a35,a36,a37,a38,a39,a40,a41,a42,a43,a44,a45,a46,a47,a48,a49,a50]] fun o2 =>
  rt g18 [(atP o0 0),(atP o0 1),(atP o0 2),(atP o0 3),(atP o0 4),(atP o0 5),(atP o0 6),(atP o0 7),(atP o0 8),(atP o0 9),(atP o0 10),(atP o0 11),(atP o0 12),(atP o0 13),(atP o0 14),(atP o0 15),(atP o0 16),(atP o1 0),(atP o1 1),(atP o1 2),(atP o1 3),(atP o1 4),(atP o1 5),(atP o1 6),(atP o1 7),(atP o1 8),(atP o1 9),(atP o1 10),(atP o1 11),(atP o1 12),(atP o1 13),(atP o1 14),(atP o1 15),(atP o1 16),(atP o2 0),(atP o2 1),(atP o2 2),(atP o2 3),(atP o2 4),(atP o2 5),(atP o2 6),(atP o2 7),(atP o2 8),(atP o2 9),(atP o2 10),(atP o2 11),(atP o2 12),(atP o2 13),(atP o2 14),(atP o2 15),(atP o2 16)] k) u0
 | _,_=>False
theorem Qdp_w:EO ⟨[259],Qdp⟩:=oFz (ec Qdl_w en) func259 fun av k h=>by
 unfold Qdp at h;split at h
 ·apply xab h;clear h;(repeat intro _);rename_i h;exact km h
 ·exact h.elim
end Go.Ev
