/- The tables of this load, and for each function the meaning that the evaluator gives it, with its proof, part 1. -/
import Derived.Test.YtmhmcamcenidaaaGreatEv4
import Derived.Lib.ItoaNum
import Derived.Shelf.Small.Strs
import Derived.Test.YtmhmcamcenidaaaGreatProg
namespace Go.Ev
open Go.Proofs
noncomputable def TT:Tab:=⟨[(2,tI),
 (3,tI),
 (4,tB),
 (5,⟨false,1,0,1,[],[.pv (.int .u8 0)],some .u8,0,false⟩),
 (6,⟨false,1,0,1,[],[.pv (.int .u8 0)],some .u8,0,false⟩),
 (7,⟨true,4,0,24,[(0,2),(1,3),(2,4),(3,6)],[zI,zI,zB,.pv (.int .u8 0)],none,0,true⟩),
 (8,⟨true,4,0,24,[(0,2),(1,3),(2,4),(3,6)],[zI,zI,zB,.pv (.int .u8 0)],none,0,true⟩),
 (9,tS),
 (10,tS),
 (11,tS),
 (12,⟨false,1,0,8,[],[.pv (.int .u64 0)],some .u64,0,false⟩),
 (13,⟨true,2,0,24,[(0,9),(1,12)],[zS,.pv (.int .u64 0)],none,0,false⟩),
 (14,⟨true,2,0,24,[(0,9),(1,12)],[zS,.pv (.int .u64 0)],none,0,false⟩),
 (21,⟨false,1,0,4,[],[.pv (.int .i32 0)],some .i32,0,false⟩),
 (22,⟨false,1,9,24,[],[.nil 9 1],none,0,false⟩),
 (23,⟨false,1,219,24,[],[.nil 219 23],none,0,false⟩),
 (24,⟨true,3,0,56,[(0,3),(1,22),(2,23)],[zI,.nil 9 1,.nil 219 23],none,0,false⟩),
 (25,⟨true,3,0,56,[(0,3),(1,22),(2,23)],[zI,.nil 9 1,.nil 219 23],none,0,false⟩),
 (28,⟨false,1,221,24,[],[.nil 221 23],none,0,false⟩),
 (29,⟨true,3,0,56,[(0,3),(1,22),(2,28)],[zI,.nil 9 1,.nil 221 23],none,0,false⟩),
 (30,⟨true,3,0,56,[(0,3),(1,22),(2,28)],[zI,.nil 9 1,.nil 221 23],none,0,false⟩),
 (34,⟨false,1,131,24,[],[.nil 131 2],none,0,false⟩),
 (39,⟨false,1,136,24,[],[.nil 136 2],none,0,false⟩),
 (47,⟨false,1,75,24,[],[.nil 75 1],none,0,false⟩),
 (48,⟨false,1,243,24,[],[.nil 243 51],none,0,false⟩),
 (49,⟨true,2,0,48,[(0,47),(1,48)],[.nil 75 1,.nil 243 51],none,0,false⟩),
 (50,⟨true,2,0,48,[(0,47),(1,48)],[.nil 75 1,.nil 243 51],none,0,false⟩),
 (52,⟨false,1,90,24,[],[.nil 90 1],none,0,false⟩),
 (53,⟨false,1,259,24,[],[.nil 259 51],none,0,false⟩),
 (54,⟨true,2,0,48,[(0,52),(1,53)],[.nil 90 1,.nil 259 51],none,0,false⟩),
 (55,⟨true,2,0,48,[(0,52),(1,53)],[.nil 90 1,.nil 259 51],none,0,false⟩),
 (56,⟨true,4,0,56,[(0,9),(1,3),(2,3),(3,22)],[zS,zI,zI,.nil 9 1],none,0,false⟩),
 (57,⟨true,4,0,56,[(0,9),(1,3),(2,3),(3,22)],[zS,zI,zI,.nil 9 1],none,0,false⟩),
 (58,⟨false,1,3,24,[],[.nil 3 1],none,0,false⟩),
 (59,⟨true,9,0,144,[(0,55),(2,4),(3,57),(7,4),(8,58)],[.nil 90 1,.nil 259 51,zB,zS,zI,zI,.nil 9 1,zB,.nil 3 1],none,0,false⟩),
 (60,⟨true,9,0,144,[(0,55),(2,4),(3,57),(7,4),(8,58)],[.nil 90 1,.nil 259 51,zB,zS,zI,zI,.nil 9 1,zB,.nil 3 1],none,0,false⟩),
 (68,⟨false,1,264,24,[],[.nil 264 1],none,0,false⟩),
 (69,⟨false,1,78,24,[],[.nil 78 2],none,0,false⟩),
 (70,⟨false,1,267,24,[],[.nil 267 3],none,0,false⟩),
 (71,⟨true,1,0,24,[(0,23)],[.nil 219 23],none,0,false⟩),
 (72,⟨true,1,0,24,[(0,23)],[.nil 219 23],none,0,false⟩),
 (73,⟨true,8,0,176,[(0,3),(1,68),(2,69),(3,70),(4,34),(5,50),(7,72)],[zI,.nil 264 1,.nil 78 2,.nil 267 3,.nil 131 2,.nil 75 1,.nil 243 51,.nil 219 23],none,0,false⟩),
 (74,⟨true,8,0,176,[(0,3),(1,68),(2,69),(3,70),(4,34),(5,50),(7,72)],[zI,.nil 264 1,.nil 78 2,.nil 267 3,.nil 131 2,.nil 75 1,.nil 243 51,.nil 219 23],none,0,false⟩),
 (75,⟨false,1,241,24,[],[.nil 241 17],none,0,false⟩),
 (76,⟨false,1,202,24,[],[.nil 202 4],none,0,false⟩),
 (77,⟨true,2,0,48,[(0,75),(1,76)],[.nil 241 17,.nil 202 4],none,0,false⟩),
 (78,⟨true,2,0,48,[(0,75),(1,76)],[.nil 241 17,.nil 202 4],none,0,false⟩),
 (81,⟨false,1,195,24,[],[.nil 195 1],none,0,false⟩),
 (82,⟨false,1,93,24,[],[.nil 93 2],none,0,false⟩),
 (83,⟨false,1,197,24,[],[.nil 197 3],none,0,false⟩),
 (84,⟨true,1,0,24,[(0,28)],[.nil 221 23],none,0,false⟩),
 (85,⟨true,1,0,24,[(0,28)],[.nil 221 23],none,0,false⟩),
 (86,⟨true,8,0,176,[(0,3),(1,81),(2,82),(3,83),(4,39),(5,55),(7,85)],[zI,.nil 195 1,.nil 93 2,.nil 197 3,.nil 136 2,.nil 90 1,.nil 259 51,.nil 221 23],none,0,false⟩),
 (87,⟨true,8,0,176,[(0,3),(1,81),(2,82),(3,83),(4,39),(5,55),(7,85)],[zI,.nil 195 1,.nil 93 2,.nil 197 3,.nil 136 2,.nil 90 1,.nil 259 51,.nil 221 23],none,0,false⟩),
 (90,⟨false,1,257,24,[],[.nil 257 17],none,0,false⟩),
 (91,⟨false,1,57,24,[],[.nil 57 4],none,0,false⟩),
 (92,⟨true,2,0,48,[(0,90),(1,91)],[.nil 257 17,.nil 57 4],none,0,false⟩),
 (93,⟨true,2,0,48,[(0,90),(1,91)],[.nil 257 17,.nil 57 4],none,0,false⟩),
 (103,⟨true,9,0,144,[(0,55),(2,3),(3,57),(7,58),(8,3)],[.nil 90 1,.nil 259 51,zI,zS,zI,zI,.nil 9 1,.nil 3 1,zI],none,0,false⟩),
 (104,⟨true,9,0,144,[(0,55),(2,3),(3,57),(7,58),(8,3)],[.nil 90 1,.nil 259 51,zI,zS,zI,zI,.nil 9 1,.nil 3 1,zI],none,0,false⟩),
 (108,⟨true,2,0,32,[(0,58),(1,3)],[.nil 3 1,zI],none,0,false⟩),
 (109,⟨true,2,0,32,[(0,58),(1,3)],[.nil 3 1,zI],none,0,false⟩),
 (110,⟨true,16,0,176,[(0,3),(1,3),(2,3),(3,3),(4,3),(5,3),(6,3),(7,3),(8,109),(10,109),(12,3),(13,109),(15,4)],[zI,zI,zI,zI,zI,zI,zI,zI,.nil 3 1,zI,.nil 3 1,zI,zI,.nil 3 1,zI,zB],none,0,false⟩),
 (111,⟨true,16,0,176,[(0,3),(1,3),(2,3),(3,3),(4,3),(5,3),(6,3),(7,3),(8,109),(10,109),(12,3),(13,109),(15,4)],[zI,zI,zI,zI,zI,zI,zI,zI,.nil 3 1,zI,.nil 3 1,zI,zI,.nil 3 1,zI,zB],none,0,false⟩),
 (115,⟨true,2,0,32,[(0,58),(1,3)],[.nil 3 1,zI],none,0,false⟩),
 (116,⟨true,16,0,176,[(0,3),(1,3),(2,3),(3,3),(4,3),(5,3),(6,3),(7,3),(8,115),(10,115),(12,3),(13,115),(15,4)],[zI,zI,zI,zI,zI,zI,zI,zI,.nil 3 1,zI,.nil 3 1,zI,zI,.nil 3 1,zI,zB],none,0,false⟩),
 (117,⟨true,16,0,176,[(0,3),(1,3),(2,3),(3,3),(4,3),(5,3),(6,3),(7,3),(8,115),(10,115),(12,3),(13,115),(15,4)],[zI,zI,zI,zI,zI,zI,zI,zI,.nil 3 1,zI,.nil 3 1,zI,zI,.nil 3 1,zI,zB],none,0,false⟩),
 (130,⟨true,2,0,32,[(0,69),(1,3)],[.nil 78 2,zI],none,0,false⟩),
 (131,⟨true,2,0,32,[(0,69),(1,3)],[.nil 78 2,zI],none,0,false⟩),
 (132,⟨true,10,0,168,[(0,104),(9,85)],[.nil 90 1,.nil 259 51,zI,zS,zI,zI,.nil 9 1,.nil 3 1,zI,.nil 221 23],none,0,false⟩),
 (133,⟨true,10,0,168,[(0,104),(9,85)],[.nil 90 1,.nil 259 51,zI,zS,zI,zI,.nil 9 1,.nil 3 1,zI,.nil 221 23],none,0,false⟩),
 (135,⟨true,2,0,32,[(0,82),(1,3)],[.nil 93 2,zI],none,0,false⟩),
 (136,⟨true,2,0,32,[(0,82),(1,3)],[.nil 93 2,zI],none,0,false⟩),
 (144,⟨false,1,150,24,[],[.nil 150 21],none,0,false⟩),
 (145,⟨true,2,0,32,[(0,3),(1,58)],[zI,.nil 3 1],none,0,false⟩),
 (146,⟨true,2,0,32,[(0,3),(1,58)],[zI,.nil 3 1],none,0,false⟩),
 (147,⟨true,13,0,184,[(0,3),(1,57),(5,57),(9,146),(11,146)],[zI,zS,zI,zI,.nil 9 1,zS,zI,zI,.nil 9 1,zI,.nil 3 1,zI,.nil 3 1],none,0,false⟩),
 (148,⟨true,13,0,184,[(0,3),(1,57),(5,57),(9,146),(11,146)],[zI,zS,zI,zI,.nil 9 1,zS,zI,zI,.nil 9 1,zI,.nil 3 1,zI,.nil 3 1],none,0,false⟩),
 (149,⟨true,21,0,304,[(0,90),(1,4),(2,57),(6,146),(8,148)],[.nil 257 17,zB,zS,zI,zI,.nil 9 1,zI,.nil 3 1,zI,zS,zI,zI,.nil 9 1,zS,zI,zI,.nil 9 1,zI,.nil 3 1,zI,.nil 3 1],none,0,false⟩),
 (150,⟨true,21,0,304,[(0,90),(1,4),(2,57),(6,146),(8,148)],[.nil 257 17,zB,zS,zI,zI,.nil 9 1,zI,.nil 3 1,zI,zS,zI,zI,.nil 9 1,zS,zI,zI,.nil 9 1,zI,.nil 3 1,zI,.nil 3 1],none,0,false⟩),
 (154,⟨true,2,0,16,[(0,3),(1,3)],[zI,zI],none,0,true⟩),
 (155,⟨true,2,0,16,[(0,3),(1,3)],[zI,zI],none,0,true⟩),
 (194,⟨true,1,0,24,[(0,58)],[.nil 3 1],none,0,false⟩),
 (195,⟨true,1,0,24,[(0,58)],[.nil 3 1],none,0,false⟩),
 (196,⟨true,3,0,72,[(0,93),(2,58)],[.nil 257 17,.nil 57 4,.nil 3 1],none,0,false⟩),
 (197,⟨true,3,0,72,[(0,93),(2,58)],[.nil 257 17,.nil 57 4,.nil 3 1],none,0,false⟩),
 (202,⟨true,4,0,56,[(0,9),(1,3),(2,3),(3,22)],[zS,zI,zI,.nil 9 1],none,0,false⟩),
 (213,⟨true,2,0,32,[(0,3),(1,58)],[zI,.nil 3 1],none,0,false⟩),
 (214,⟨true,13,0,184,[(0,3),(1,202),(5,202),(9,213),(11,213)],[zI,zS,zI,zI,.nil 9 1,zS,zI,zI,.nil 9 1,zI,.nil 3 1,zI,.nil 3 1],none,0,false⟩),
 (215,⟨true,13,0,184,[(0,3),(1,202),(5,202),(9,213),(11,213)],[zI,zS,zI,zI,.nil 9 1,zS,zI,zI,.nil 9 1,zI,.nil 3 1,zI,.nil 3 1],none,0,false⟩),
 (216,⟨true,21,0,304,[(0,75),(1,4),(2,202),(6,213),(8,215)],[.nil 241 17,zB,zS,zI,zI,.nil 9 1,zI,.nil 3 1,zI,zS,zI,zI,.nil 9 1,zS,zI,zI,.nil 9 1,zI,.nil 3 1,zI,.nil 3 1],none,0,false⟩),
 (217,⟨true,21,0,304,[(0,75),(1,4),(2,202),(6,213),(8,215)],[.nil 241 17,zB,zS,zI,zI,.nil 9 1,zI,.nil 3 1,zI,zS,zI,zI,.nil 9 1,zS,zI,zI,.nil 9 1,zI,.nil 3 1,zI,.nil 3 1],none,0,false⟩),
 (218,⟨true,23,0,328,[(0,3),(1,9),(2,217)],[zI,zS,.nil 241 17,zB,zS,zI,zI,.nil 9 1,zI,.nil 3 1,zI,zS,zI,zI,.nil 9 1,zS,zI,zI,.nil 9 1,zI,.nil 3 1,zI,.nil 3 1],none,0,false⟩),
 (219,⟨true,23,0,328,[(0,3),(1,9),(2,217)],[zI,zS,.nil 241 17,zB,zS,zI,zI,.nil 9 1,zI,.nil 3 1,zI,zS,zI,zI,.nil 9 1,zS,zI,zI,.nil 9 1,zI,.nil 3 1,zI,.nil 3 1],none,0,false⟩),
 (220,⟨true,23,0,328,[(0,3),(1,9),(2,150)],[zI,zS,.nil 257 17,zB,zS,zI,zI,.nil 9 1,zI,.nil 3 1,zI,zS,zI,zI,.nil 9 1,zS,zI,zI,.nil 9 1,zI,.nil 3 1,zI,.nil 3 1],none,0,false⟩),
 (221,⟨true,23,0,328,[(0,3),(1,9),(2,150)],[zI,zS,.nil 257 17,zB,zS,zI,zI,.nil 9 1,zI,.nil 3 1,zI,zS,zI,zI,.nil 9 1,zS,zI,zI,.nil 9 1,zI,.nil 3 1,zI,.nil 3 1],none,0,false⟩),
 (237,⟨false,1,5,24,[],[.nil 5 1],none,2,false⟩),
 (239,⟨false,1,358,24,[],[.nil 358 2],none,0,false⟩),
 (240,⟨true,17,0,200,[(0,111),(16,239)],[zI,zI,zI,zI,zI,zI,zI,zI,.nil 3 1,zI,.nil 3 1,zI,zI,.nil 3 1,zI,zB,.nil 358 2],none,0,false⟩),
 (241,⟨true,17,0,200,[(0,111),(16,239)],[zI,zI,zI,zI,zI,zI,zI,zI,.nil 3 1,zI,.nil 3 1,zI,zI,.nil 3 1,zI,zB,.nil 358 2],none,0,false⟩),
 (242,⟨true,51,0,600,[(0,241),(17,241),(34,241)],[zI,zI,zI,zI,zI,zI,zI,zI,.nil 3 1,zI,.nil 3 1,zI,zI,.nil 3 1,zI,zB,.nil 358 2,zI,zI,zI,zI,zI,zI,zI,zI,.nil 3 1,zI,.nil 3 1,zI,zI,.nil 3 1,zI,zB,.nil 358 2,zI,zI,zI,zI,zI,zI,zI,zI,.nil 3 1,zI,.nil 3 1,zI,zI,.nil 3 1,zI,zB,.nil 358 2],none,0,false⟩),
 (243,⟨true,51,0,600,[(0,241),(17,241),(34,241)],[zI,zI,zI,zI,zI,zI,zI,zI,.nil 3 1,zI,.nil 3 1,zI,zI,.nil 3 1,zI,zB,.nil 358 2,zI,zI,zI,zI,zI,zI,zI,zI,.nil 3 1,zI,.nil 3 1,zI,zI,.nil 3 1,zI,zB,.nil 358 2,zI,zI,zI,zI,zI,zI,zI,zI,.nil 3 1,zI,.nil 3 1,zI,zI,.nil 3 1,zI,zB,.nil 358 2],none,0,false⟩),
 (255,⟨false,1,317,24,[],[.nil 317 2],none,0,false⟩),
 (256,⟨true,17,0,200,[(0,117),(16,255)],[zI,zI,zI,zI,zI,zI,zI,zI,.nil 3 1,zI,.nil 3 1,zI,zI,.nil 3 1,zI,zB,.nil 317 2],none,0,false⟩),
 (257,⟨true,17,0,200,[(0,117),(16,255)],[zI,zI,zI,zI,zI,zI,zI,zI,.nil 3 1,zI,.nil 3 1,zI,zI,.nil 3 1,zI,zB,.nil 317 2],none,0,false⟩),
 (258,⟨true,51,0,600,[(0,257),(17,257),(34,257)],[zI,zI,zI,zI,zI,zI,zI,zI,.nil 3 1,zI,.nil 3 1,zI,zI,.nil 3 1,zI,zB,.nil 317 2,zI,zI,zI,zI,zI,zI,zI,zI,.nil 3 1,zI,.nil 3 1,zI,zI,.nil 3 1,zI,zB,.nil 317 2,zI,zI,zI,zI,zI,zI,zI,zI,.nil 3 1,zI,.nil 3 1,zI,zI,.nil 3 1,zI,zB,.nil 317 2],none,0,false⟩),
 (259,⟨true,51,0,600,[(0,257),(17,257),(34,257)],[zI,zI,zI,zI,zI,zI,zI,zI,.nil 3 1,zI,.nil 3 1,zI,zI,.nil 3 1,zI,zB,.nil 317 2,zI,zI,zI,zI,zI,zI,zI,zI,.nil 3 1,zI,.nil 3 1,zI,zI,.nil 3 1,zI,zB,.nil 317 2,zI,zI,zI,zI,zI,zI,zI,zI,.nil 3 1,zI,.nil 3 1,zI,zI,.nil 3 1,zI,zB,.nil 317 2],none,0,false⟩),
 (264,⟨true,1,0,24,[(0,58)],[.nil 3 1],none,0,false⟩),
 (266,⟨true,3,0,72,[(0,78),(2,58)],[.nil 241 17,.nil 202 4,.nil 3 1],none,0,false⟩),
 (267,⟨true,3,0,72,[(0,78),(2,58)],[.nil 241 17,.nil 202 4,.nil 3 1],none,0,false⟩),
 (316,⟨true,2,0,16,[(0,3),(1,3)],[zI,zI],none,0,true⟩),
 (317,⟨true,2,0,16,[(0,3),(1,3)],[zI,zI],none,0,true⟩),
 (358,⟨true,2,0,16,[(0,3),(1,3)],[zI,zI],none,0,true⟩),
 (390,⟨false,1,58,24,[],[.nil 58 1],none,0,false⟩),
 (401,⟨false,1,0,4,[],[.pv (.int .u32 0)],some .u32,0,false⟩),
 (402,⟨false,1,0,1,[],[.pv (.int .u8 0)],some .u8,0,false⟩),
 (403,⟨false,1,0,1,[],[.pv (.int .u8 0)],some .u8,0,false⟩),
 (406,⟨false,1,0,4,[],[.pv (.int .i32 0)],some .i32,0,false⟩),
 (407,⟨false,1,0,4,[],[.pv (.int .i32 0)],some .i32,0,false⟩)],
 [(0,[]),(1,[]),(2,[]),(3,[.one (.sc)]),(4,[.one (.sc)]),(5,[.one (.sc)]),(6,[.one (.sc)]),(7,[.one (.sc)]),(8,[.one (.sc)]),(9,[.one (.sc)]),(10,[.one (.sc)]),(11,[.one (.sc)]),(12,[.agg [.sc,.own true 9 1,.own true 221 23]]),(13,[.one (.sc)]),(14,[.one (.sc)]),(15,[.one (.sc)]),(16,[.one (.sc)]),(17,[.agg [.sc,.pv,.pv],.one (.sc)]),(18,[.one (.own true 136 2)]),(19,[.one (.own true 9 1)]),(20,[.agg [.sc,.own true 9 1,.own true 221 23],.one (.sc)]),(21,[.one (.sc)]),(22,[.one (.sc)]),(23,[.agg []]),(24,[.agg []]),(25,[.agg []]),(26,[.one (.sc)]),(27,[.one (.sc)]),(28,[.agg [.pv,.pv,.sc,.sc,.sc,.sc,.pv,.sc,.pv]]),(29,[.agg [.own true 90 1,.own true 259 51]]),(30,[.agg [.own true 90 1,.own true 259 51,.sc,.sc,.sc,.sc,.own true 9 1,.sc,.own true 3 1]]),(31,[.one (.sc)]),(32,[.one (.sc)]),(33,[.agg []]),(34,[.agg []]),(35,[.one (.sc)]),(36,[.one (.sc)]),(37,[.one (.sc)]),(38,[.agg [.sc,.pv,.own false 93 2,.own false 197 3,.own false 136 2,.own false 90 1,.own false 259 51,.own false 221 23]]),(39,[.agg [.sc,.own true 195 1,.own true 93 2,.own true 197 3,.own true 136 2,.own true 90 1,.own true 259 51,.own true 221 23]]),(40,[.agg [.own true 257 17,.own true 57 4]]),(41,[.agg [.sc,.own true 195 1,.own true 93 2,.own true 197 3,.own true 136 2,.own true 90 1,.own true 259 51,.own true 221 23]]),(42,[.one (.sc)]),(43,[.one (.sc)]),(44,[.agg []]),(45,[.agg []]),(46,[.one (.sc)]),(47,[.agg [.sc,.own true 195 1,.own true 93 2,.own true 197 3,.own true 136 2,.own true 90 1,.own true 259 51,.own true 221 23],.one (.sc)]),(48,[.agg [.sc,.own true 195 1,.own true 93 2,.own true 197 3,.own true 136 2,.own true 90 1,.own true 259 51,.own true 221 23],.one (.sc)]),(49,[.agg [.pv,.pv,.sc,.sc,.sc,.sc,.pv,.pv,.sc]]),(50,[.agg [.own true 90 1,.own true 259 51,.sc,.sc,.sc,.sc,.own true 9 1,.own true 3 1,.sc]]),(51,[.one (.sc)]),(52,[.agg []]),(53,[.one (.sc)]),(54,[.one (.sc)]),(55,[.one (.sc)]),(56,[.agg [.sc,.own true 195 1,.own true 93 2,.own true 197 3,.own true 136 2,.own true 90 1,.own true 259 51,.own true 221 23],.one (.sc)]),(57,[.agg [.sc,.sc,.sc,.sc,.sc,.sc,.sc,.sc,.own true 3 1,.sc,.own true 3 1,.sc,.sc,.own true 3 1,.sc,.sc]]),(58,[.one (.own true 57 4)]),(59,[.agg [.sc,.own true 195 1,.own true 93 2,.own true 197 3,.own true 136 2,.own true 90 1,.own true 259 51,.own true 221 23],.one (.sc)]),(60,[.one (.sc)]),(61,[.one (.sc)]),(62,[.agg []]),(63,[.agg []]),(64,[.one (.sc)]),(65,[.one (.own true 221 23)]),(66,[.one (.sc)]),(67,[.one (.sc)]),(68,[.one (.sc)]),(69,[.agg [.pv,.pv,.sc,.sc,.sc,.sc,.pv,.pv,.sc,.pv]]),(70,[.one (.own false 9 1)]),(71,[.agg [.own true 93 2,.sc]]),(72,[.agg [.own true 90 1,.own true 259 51,.sc,.sc,.sc,.sc,.own true 9 1,.own true 3 1,.sc,.own true 221 23]]),(73,[.one (.own true 9 1)]),(74,[.one (.sc)]),(75,[.agg []]),(76,[.one (.sc)]),(77,[.agg []]),(78,[.one (.sc)]),(79,[.one (.sc)]),(80,[.one (.sc)]),(81,[.one (.sc)]),(82,[.agg [.pv,.sc,.sc,.sc,.sc,.pv,.sc,.pv,.sc,.sc,.sc,.sc,.pv,.sc,.sc,.sc,.pv,.sc,.pv,.sc,.pv],.one (.sc)]),(83,[.one (.pv)]),(84,[.agg [.sc,.sc]]),(85,[.agg [.pv,.pv,.sc,.sc,.sc,.sc,.pv,.sc,.pv]]),(86,[.one (.own true 90 1)]),(87,[.one (.own true 259 51)]),(88,[.agg [.own true 257 17,.sc,.sc,.sc,.sc,.own true 9 1,.sc,.own true 3 1,.sc,.sc,.sc,.sc,.own true 9 1,.sc,.sc,.sc,.own true 9 1,.sc,.own true 3 1,.sc,.own true 3 1],.one (.sc)]),(89,[.one (.own true 150 21)]),(90,[.agg [.sc,.sc]]),(91,[.agg [.own true 90 1,.own true 259 51,.sc,.sc,.sc,.sc,.own true 9 1,.sc,.own true 3 1]]),(92,[.one (.sc)]),(93,[.one (.sc)]),(94,[.one (.sc)]),(95,[.one (.sc)]),(96,[.agg []]),(97,[.agg []]),(98,[.agg []]),(99,[.agg []]),(100,[.one (.sc)]),(101,[.one (.sc)]),(102,[.one (.sc)]),(103,[.one (.sc)]),(104,[.one (.sc)]),(105,[.one (.sc)]),(106,[.one (.sc)]),(107,[.one (.sc)]),(108,[.agg [.sc,.pv,.own false 93 2,.own false 197 3,.own false 136 2,.own false 90 1,.own false 259 51,.own false 221 23]]),(109,[.one (.sc)]),(110,[.one (.sc)]),(111,[.agg [.pv,.pv]]),(112,[.one (.own true 195 1)]),(113,[.one (.own true 93 2)]),(114,[.one (.own true 197 3)]),(115,[.agg [.own true 221 23]]),(116,[.one (.own true 257 17)]),(117,[.agg [.sc,.own true 195 1,.own true 93 2,.own true 197 3,.own true 136 2,.own true 90 1,.own true 259 51,.own true 221 23]]),(118,[]),(119,[.one (.sc)]),(120,[.one (.sc)]),(121,[.one (.sc)]),(122,[.one (.sc)]),(123,[.one (.sc)]),(124,[.agg []]),(125,[.agg []]),(126,[.agg []]),(127,[.agg []]),(128,[.one (.sc)]),(129,[.one (.sc)]),(130,[.one (.sc)]),(131,[.one (.sc)]),(132,[.one (.sc)]),(133,[.one (.sc)]),(134,[.one (.sc)]),(135,[.one (.sc)]),(136,[.agg [.pv,.pv,.sc,.sc,.sc,.sc,.pv,.pv,.sc]]),(137,[.agg [.own true 90 1,.own true 259 51,.sc,.sc,.sc,.sc,.own true 9 1,.own true 3 1,.sc]]),(138,[.one (.sc)]),(139,[.one (.sc)]),(140,[.agg [.pv,.pv],.one (.sc)]),(141,[.agg [.own true 257 17,.own true 57 4],.one (.sc)]),(142,[.agg [.own true 3 1,.sc]]),(143,[.agg [.sc,.sc,.sc,.own true 9 1]]),(144,[.one (.sc)]),(145,[.one (.sc)]),(146,[.agg []]),(147,[.one (.sc)]),(148,[.agg [.sc,.sc,.own true 257 17,.sc,.sc,.sc,.sc,.own true 9 1,.sc,.own true 3 1,.sc,.sc,.sc,.sc,.own true 9 1,.sc,.sc,.sc,.own true 9 1,.sc,.own true 3 1,.sc,.own true 3 1]]),(149,[.one (.sc)]),(150,[.agg [.own false 90 1,.own false 259 51]]),(151,[.agg [.own false 221 23]]),(152,[.one (.sc)]),(153,[.agg [.pv,.sc,.sc,.sc,.sc,.pv,.sc,.pv,.sc,.sc,.sc,.sc,.pv,.sc,.sc,.sc,.pv,.sc,.pv,.sc,.pv]]),(154,[.one (.pv)]),(155,[.agg [.pv]]),(156,[.agg [.sc,.sc,.sc,.pv],.one (.sc)]),(157,[.one (.sc)]),(158,[.agg [.own true 221 23]]),(159,[.agg [.own true 90 1,.own true 259 51,.sc,.sc,.sc,.sc,.own true 9 1,.own true 3 1,.sc]]),(160,[.agg [.own true 90 1,.own true 259 51,.sc,.sc,.sc,.sc,.own true 9 1,.sc,.own true 3 1]]),(161,[.agg [.own true 257 17,.sc,.sc,.sc,.sc,.own true 9 1,.sc,.own true 3 1,.sc,.sc,.sc,.sc,.own true 9 1,.sc,.sc,.sc,.own true 9 1,.sc,.own true 3 1,.sc,.own true 3 1]]),(162,[.one (.own true 150 21)]),(163,[.agg [.own true 90 1,.own true 259 51,.sc,.sc,.sc,.sc,.own true 9 1,.sc,.own true 3 1],.one (.sc)]),(164,[.agg [.own true 221 23]]),(165,[.one (.sc)]),(166,[.one (.sc)]),(167,[.agg [.pv,.sc,.sc,.sc,.sc,.pv,.sc,.pv,.sc,.sc,.sc,.sc,.pv,.sc,.sc,.sc,.pv,.sc,.pv,.sc,.pv]]),(168,[.one (.sc)]),(169,[.one (.sc)]),(170,[.agg [.pv,.sc,.sc,.sc,.sc,.pv,.sc,.pv,.sc,.sc,.sc,.sc,.pv,.sc,.sc,.sc,.pv,.sc,.pv,.sc,.pv]]),(171,[.agg [.sc,.sc,.sc,.sc,.sc,.sc,.sc,.sc,.pv,.sc,.pv,.sc,.sc,.pv,.sc,.sc],.one (.sc)]),(172,[.agg [.pv,.pv],.one (.sc)]),(173,[.one (.sc)]),(174,[.one (.sc)]),(175,[.agg [.sc,.sc,.sc,.pv]]),(176,[.agg [.sc,.sc,.sc,.sc,.sc,.sc,.sc,.sc,.own true 3 1,.sc,.own true 3 1,.sc,.sc,.own true 3 1,.sc,.sc,.own true 317 2,.sc,.sc,.sc,.sc,.sc,.sc,.sc,.sc,.own true 3 1,.sc,.own true 3 1,.sc,.sc,.own true 3 1,.sc,.sc,.own true 317 2,.sc,.sc,.sc,.sc,.sc,.sc,.sc,.sc,.own true 3 1,.sc,.own true 3 1,.sc,.sc,.own true 3 1,.sc,.sc,.own true 317 2]]),(177,[.agg [.own true 257 17,.sc,.sc,.sc,.sc,.own true 9 1,.sc,.own true 3 1,.sc,.sc,.sc,.sc,.own true 9 1,.sc,.sc,.sc,.own true 9 1,.sc,.own true 3 1,.sc,.own true 3 1]]),(178,[.one (.sc)]),(179,[.one (.sc)]),(180,[.agg [.own true 257 17,.sc,.sc,.sc,.sc,.own true 9 1,.sc,.own true 3 1,.sc,.sc,.sc,.sc,.own true 9 1,.sc,.sc,.sc,.own true 9 1,.sc,.own true 3 1,.sc,.own true 3 1]]),(181,[.one (.sc)]),(182,[.agg []]),(183,[.one (.sc)]),(184,[.one (.sc)]),(185,[.one (.sc)]),(186,[.one (.sc)]),(187,[.one (.sc)]),(188,[.one (.pv)]),(189,[.agg [.own false 93 2,.sc]]),(190,[.one (.sc)]),(191,[.one (.pv)]),(192,[.one (.pv)]),(193,[.agg [.own true 3 1]]),(194,[.agg [.own true 257 17,.own true 57 4,.own true 3 1]]),(195,[.agg [.sc,.sc,.sc,.sc,.sc,.sc,.sc,.sc,.own true 3 1,.sc,.own true 3 1,.sc,.sc,.own true 3 1,.sc,.sc,.own true 317 2]]),(196,[.one (.own true 195 1)]),(197,[.one (.own true 136 2)]),(198,[.agg [.own true 90 1,.own true 259 51]]),(199,[.agg [.own true 257 17,.own true 57 4]]),(200,[.one (.own true 3 1)]),(201,[.one (.sc)]),(202,[.one (.sc)]),(203,[.one (.sc)]),(204,[.one (.sc)]),(205,[.one (.sc)]),(206,[.one (.sc)]),(207,[.one (.sc)]),(208,[.one (.sc)]),(209,[.one (.sc)]),(210,[.one (.sc)]),(211,[.one (.sc)]),(212,[.one (.sc)]),(213,[.one (.own true 257 17),.one (.sc)]),(214,[.agg [.sc,.sc,.sc,.sc,.sc,.sc,.sc,.sc,.own true 3 1,.sc,.own true 3 1,.sc,.sc,.own true 3 1,.sc,.sc,.own true 317 2]]),(215,[.one (.own true 3 1)]),(216,[.one (.sc)]),(217,[.agg [.own true 257 17,.own true 57 4],.one (.sc)]),(218,[.one (.sc)]),(219,[.agg [.own true 257 17,.sc,.sc,.sc,.sc,.own true 9 1,.sc,.own true 3 1,.sc,.sc,.sc,.sc,.own true 9 1,.sc,.sc,.sc,.own true 9 1,.sc,.own true 3 1,.sc,.own true 3 1]]),(220,[.one (.sc)]),(221,[.agg [.sc,.sc,.sc,.sc,.sc,.sc,.sc,.sc,.pv,.sc,.pv,.sc,.sc,.pv,.sc,.sc,.pv,.sc,.sc,.sc,.sc,.sc,.sc,.sc,.sc,.pv,.sc,.pv,.sc,.sc,.pv,.sc,.sc,.pv,.sc,.sc,.sc,.sc,.sc,.sc,.sc,.sc,.pv,.sc,.pv,.sc,.sc,.pv,.sc,.sc,.pv]]),(222,[.one (.sc)]),(223,[.one (.sc)]),(224,[.agg [.sc,.sc,.own true 257 17,.sc,.sc,.sc,.sc,.own true 9 1,.sc,.own true 3 1,.sc,.sc,.sc,.sc,.own true 9 1,.sc,.sc,.sc,.own true 9 1,.sc,.own true 3 1,.sc,.own true 3 1]]),(225,[.one (.sc)]),(226,[.one (.sc),.one (.own true 9 1)]),(227,[.one (.sc)]),(228,[.one (.sc)]),(229,[.agg [.sc,.sc,.sc,.own true 9 1]]),(230,[.one (.sc)]),(231,[.one (.sc)]),(232,[.agg [.sc,.pv]]),(233,[.agg [.sc,.sc,.sc,.sc,.pv,.sc,.sc,.sc,.pv,.sc,.pv,.sc,.pv]]),(234,[.one (.sc)]),(235,[.one (.own true 3 1)]),(236,[.agg [.pv,.sc,.sc,.sc,.sc,.pv,.sc,.pv,.sc,.sc,.sc,.sc,.pv,.sc,.sc,.sc,.pv,.sc,.pv,.sc,.pv]]),(237,[.one (.sc)]),(238,[.agg [.sc,.sc,.sc,.sc,.sc,.sc,.sc,.sc,.pv,.sc,.pv,.sc,.sc,.pv,.sc,.sc]]),(239,[.one (.sc)]),(240,[.one (.sc)]),(241,[.agg [.sc,.sc,.sc,.sc,.sc,.sc,.sc,.sc,.pv,.sc,.pv,.sc,.sc,.pv,.sc,.sc,.pv,.sc,.sc,.sc,.sc,.sc,.sc,.sc,.sc,.pv,.sc,.pv,.sc,.sc,.pv,.sc,.sc,.pv,.sc,.sc,.sc,.sc,.sc,.sc,.sc,.sc,.pv,.sc,.pv,.sc,.sc,.pv,.sc,.sc,.pv],.one (.sc)]),(242,[.one (.sc)]),(243,[.one (.sc)]),(244,[.one (.sc)]),(245,[.one (.own true 257 17)]),(246,[.agg [.sc,.own true 3 1]]),(247,[.agg [.sc,.sc,.sc,.sc,.own true 9 1,.sc,.sc,.sc,.own true 9 1,.sc,.own true 3 1,.sc,.own true 3 1]]),(248,[.one (.sc)]),(249,[.one (.sc)]),(250,[.one (.sc)]),(251,[.one (.own true 3 1)]),(252,[.agg [.own true 257 17,.sc,.sc,.sc,.sc,.own true 9 1,.sc,.own true 3 1,.sc,.sc,.sc,.sc,.own true 9 1,.sc,.sc,.sc,.own true 9 1,.sc,.own true 3 1,.sc,.own true 3 1]]),(253,[.one (.sc)]),(254,[.one (.sc)]),(255,[.one (.sc)]),(256,[.agg [.sc,.sc,.sc,.sc,.sc,.sc,.sc,.sc,.pv,.sc,.pv,.sc,.sc,.pv,.sc,.sc,.pv]]),(257,[.one (.own true 317 2)]),(258,[.agg [.own true 93 2,.sc]]),(259,[.agg [.sc,.sc,.sc,.sc,.sc,.sc,.sc,.sc,.own true 3 1,.sc,.own true 3 1,.sc,.sc,.own true 3 1,.sc,.sc,.own true 317 2,.sc,.sc,.sc,.sc,.sc,.sc,.sc,.sc,.own true 3 1,.sc,.own true 3 1,.sc,.sc,.own true 3 1,.sc,.sc,.own true 317 2,.sc,.sc,.sc,.sc,.sc,.sc,.sc,.sc,.own true 3 1,.sc,.own true 3 1,.sc,.sc,.own true 3 1,.sc,.sc,.own true 317 2]]),(260,[.one (.own true 57 4)]),(261,[.agg [.sc,.sc,.sc,.sc,.sc,.sc,.sc,.sc,.pv,.sc,.pv,.sc,.sc,.pv,.sc,.sc]]),(262,[.one (.sc)]),(263,[.one (.sc)]),(264,[.one (.sc)]),(265,[.one (.sc)]),(266,[.one (.sc)]),(267,[.one (.sc)]),(268,[.one (.sc)]),(269,[.one (.sc)]),(270,[.agg [.pv,.sc]]),(271,[.one (.sc)]),(272,[.agg [.sc,.sc,.sc,.sc,.sc,.sc,.sc,.sc,.own true 3 1,.sc,.own true 3 1,.sc,.sc,.own true 3 1,.sc,.sc,.own true 317 2]]),(273,[.one (.own true 257 17),.one (.sc)]),(274,[.agg [.sc,.sc,.sc,.sc,.sc,.sc,.sc,.sc,.own true 3 1,.sc,.own true 3 1,.sc,.sc,.own true 3 1,.sc,.sc,.own true 317 2]]),(275,[.one (.sc)]),(276,[.one (.sc)]),(277,[.agg [.sc,.own true 3 1]]),(278,[.agg [.sc,.sc,.sc,.sc,.own true 9 1,.sc,.sc,.sc,.own true 9 1,.sc,.own true 3 1,.sc,.own true 3 1]]),(279,[.one (.sc)]),(280,[.one (.sc)]),(281,[.one (.sc)]),(282,[.one (.sc)]),(283,[.one (.sc)]),(284,[.one (.sc)]),(285,[.one (.sc)]),(286,[.agg [.own true 90 1,.own true 259 51],.one (.sc)]),(287,[.one (.sc)]),(288,[.agg [.sc,.sc,.sc,.sc,.sc,.sc,.sc,.sc,.own true 3 1,.sc,.own true 3 1,.sc,.sc,.own true 3 1,.sc,.sc],.one (.sc)]),(289,[.one (.sc)]),(290,[.one (.sc)]),(291,[.one (.sc)]),(292,[.one (.own true 3 1)]),(293,[.one (.sc)]),(294,[.agg [.sc,.pv],.one (.sc)]),(295,[.agg [.sc,.sc,.sc,.sc,.pv,.sc,.sc,.sc,.pv,.sc,.pv,.sc,.pv],.one (.sc)]),(296,[.one (.sc)]),(297,[.agg [.pv,.sc]]),(298,[.one (.sc)]),(299,[.one (.sc)]),(300,[.one (.sc)]),(301,[.one (.sc)]),(302,[.one (.sc)]),(303,[.one (.sc)]),(304,[.one (.sc)]),(305,[.agg [.sc,.sc,.sc,.sc,.sc,.sc,.sc,.sc,.own true 3 1,.sc,.own true 3 1,.sc,.sc,.own true 3 1,.sc,.sc,.own true 317 2]]),(306,[.one (.sc)]),(307,[.one (.own true 3 1)]),(308,[.one (.sc)]),(309,[.agg [.sc,.own true 3 1],.one (.sc)]),(310,[.agg [.sc,.sc,.sc,.sc,.own true 9 1,.sc,.sc,.sc,.own true 9 1,.sc,.own true 3 1,.sc,.own true 3 1],.one (.sc)]),(311,[.one (.sc)]),(312,[.one (.sc)]),(313,[.one (.sc)]),(314,[.one (.sc)]),(315,[.one (.own true 3 1)]),(316,[.agg [.sc,.sc]]),(317,[.one (.sc)]),(318,[.one (.sc)]),(319,[.one (.sc)]),(320,[.one (.sc)]),(321,[.one (.sc)]),(322,[.one (.sc)]),(323,[.one (.sc)]),(324,[.one (.sc)]),(325,[.one (.sc)]),(326,[.one (.sc)]),(327,[.one (.sc)]),(328,[.one (.sc)]),(329,[.one (.own true 3 1)]),(330,[.one (.own true 317 2)]),(331,[.one (.sc)]),(332,[.agg [.sc,.sc,.sc,.sc,.sc,.sc,.sc,.sc,.own true 3 1,.sc,.own true 3 1,.sc,.sc,.own true 3 1,.sc,.sc,.own true 317 2]]),(333,[.one (.sc)]),(334,[.one (.sc)]),(335,[.one (.sc)]),(336,[.agg [.sc,.sc,.sc,.sc,.sc,.sc,.sc,.sc,.own true 3 1,.sc,.own true 3 1,.sc,.sc,.own true 3 1,.sc,.sc,.own true 317 2,.sc,.sc,.sc,.sc,.sc,.sc,.sc,.sc,.own true 3 1,.sc,.own true 3 1,.sc,.sc,.own true 3 1,.sc,.sc,.own true 317 2,.sc,.sc,.sc,.sc,.sc,.sc,.sc,.sc,.own true 3 1,.sc,.own true 3 1,.sc,.sc,.own true 3 1,.sc,.sc,.own true 317 2],.one (.sc)]),(337,[.one (.sc)]),(338,[.one (.sc)]),(339,[.one (.sc)]),(340,[.agg [.sc,.sc,.sc,.sc,.sc,.sc,.sc,.sc,.own true 3 1,.sc,.own true 3 1,.sc,.sc,.own true 3 1,.sc,.sc]]),(341,[.one (.sc)]),(342,[.one (.sc)]),(343,[.one (.sc)]),(344,[.one (.sc)]),(345,[.one (.sc)]),(346,[.one (.own true 3 1)]),(347,[.one (.sc)]),(348,[.one (.sc)]),(349,[.one (.sc)]),(350,[.one (.sc)]),(351,[.one (.sc),.one (.sc)]),(352,[.one (.sc)]),(353,[.one (.sc)]),(354,[.one (.sc)]),(355,[.one (.sc)]),(356,[.one (.own true 317 2)]),(357,[.one (.sc)]),(358,[.one (.sc)]),(359,[.one (.own true 3 1)]),(360,[.one (.own true 3 1)]),(361,[.one (.sc)]),(362,[.one (.own true 3 1)]),(363,[.one (.sc)]),(364,[.one (.sc)]),(365,[.one (.sc)]),(366,[.one (.sc)]),(367,[.one (.sc)]),(368,[.one (.sc)]),(369,[.one (.sc)]),(370,[.one (.sc)]),(371,[.one (.sc)]),(372,[.one (.sc)]),(373,[.one (.sc)]),(374,[.one (.sc)]),(375,[.one (.sc)]),(376,[.one (.own true 3 1)]),(377,[.one (.sc)]),(378,[.one (.sc)]),(379,[.one (.sc)]),(380,[.one (.sc)]),(381,[.one (.sc)]),(382,[.one (.sc)]),(383,[.one (.own true 317 2)]),(384,[.one (.own true 3 1)]),(385,[.one (.sc)]),(386,[.one (.sc)]),(387,[.one (.sc)]),(388,[.one (.sc)]),(389,[.one (.sc)]),(390,[.one (.sc)]),(391,[.agg [.own true 3 1,.sc]]),(392,[.one (.sc),.one (.sc)]),(393,[.one (.sc)]),(394,[.one (.sc)]),(395,[.one (.sc)]),(396,[.one (.sc)]),(397,[.one (.sc)]),(398,[.one (.sc)]),(399,[.one (.own true 3 1)]),(400,[.one (.sc)]),(401,[.one (.own true 3 1)]),(402,[.one (.sc)]),(403,[.one (.sc)]),(404,[.one (.sc)]),(405,[.one (.sc)]),(406,[.one (.sc)]),(407,[.one (.sc)]),(408,[.one (.sc)]),(409,[.one (.sc)]),(410,[.one (.sc)]),(411,[.one (.sc)]),(412,[.one (.sc)]),(413,[.one (.sc)]),(414,[.one (.sc)]),(415,[.one (.sc)]),(416,[.one (.sc)]),(417,[.one (.own true 3 1)]),(418,[.one (.own true 3 1)]),(419,[.one (.sc)]),(420,[.one (.sc)]),(421,[.one (.sc)]),(422,[.one (.sc)]),(423,[.one (.own true 3 1)]),(424,[.one (.sc)]),(425,[.one (.sc)]),(426,[.one (.sc)]),(427,[.one (.sc)]),(428,[.one (.own true 3 1)]),(429,[.one (.sc)]),(430,[.one (.sc)]),(431,[.one (.sc)]),(432,[.one (.sc)]),(433,[.one (.sc)]),(434,[.one (.sc)]),(435,[.one (.sc)]),(436,[.one (.sc)]),(437,[]),(438,[.one (.sc)]),(439,[]),(440,[.one (.sc)]),(441,[]),(442,[.one (.sc)]),(443,[]),(444,[.one (.sc)]),(445,[]),(446,[.one (.sc)]),(447,[]),(448,[.one (.sc)]),(449,[.one (.sc)]),(450,[]),(451,[.one (.sc)]),(452,[.one (.sc)]),(453,[.one (.sc)])],false,[428],[174],[257,57,93,90,259,221,197,195,136,150,9],[(118,(Tryz.f118,[])),(228,(Tryz.f228,[])),(135,(Tryz.f135,[])),(144,(Tryz.f144,[])),(159,(Tryz.f159,[(2,false),(3,false),(8,false),(9,false),(10,false)])),(160,(Tryz.f160,[])),(226,(Tryz.f226,[]))],0,false⟩
theorem tabok:TabOK Tryz.prog TT:=tabB_ok (by kernel_rfl) (by kernel_rfl) ⟨⟨by kernel_rfl,by kernel_rfl⟩,⟨by kernel_rfl,by kernel_rfl⟩,⟨by kernel_rfl,by kernel_rfl⟩,⟨by kernel_rfl,by kernel_rfl⟩,⟨by kernel_rfl,by kernel_rfl⟩,⟨by kernel_rfl,by kernel_rfl⟩,⟨by kernel_rfl,by kernel_rfl⟩,True.intro⟩
end Go.Ev
set_option maxRecDepth 100000
set_option linter.unusedVariables false
namespace Go.Ev
open Go.Proofs
def laws_markText_r0 (v:List PV) (K:List PV→Prop) (x0k:PV→PV→PV→Prop):Prop :=
 un 3 (fun v0 v1 v2 =>
  binP .gtr v0 (I 0) fun r0 =>
  iteP r0
   (binP .rem v0 (I 10) fun r1 =>
   binP .add (I 48) r1 fun r2 =>
   convP .u8 r2 fun r3 =>
   (1=1)∧(1≤16777216)∧(1=1)∧(0=0)∧(1=1)∧(flatCond [.pv (.int .u8 0)] [.pv r3])∧textP (.list 1 [[r3]]) fun r4 =>
   binP .add r4 v2 fun r5 =>
   binP .quo v0 (I 10) fun r6 =>
   K [r6,v1,r5])
   (x0k v0 v1 v2)) v
def laws_markText:GM
 | [.one a0],k =>
  binP .leq a0 (I 0) fun r0 =>
  iteP r0
   (rt [.sc] [(.str ⟨#[109,48]⟩)] k)
   (lp (fun L w=>laws_markText_r0 w L
    (fun q7 q8 q9=>binP .add (.str ⟨#[109]⟩) q9 fun r10 =>
     rt [.sc] [r10] k)) [a0,(.str ⟨#[]⟩),(.str ⟨#[]⟩)])
 | _,_=>False
abbrev laws_markText_e:Ent:=⟨[76],laws_markText⟩
def laws_markText_l:List LE:=[⟨none,0,⟨[(0,.one zB),(2,.one zB),(3,.one zB)],[],[],0,20,[]⟩,fun K k v=>laws_markText_r0 v K (fun x0 x1 x2=>k (.exit 0) ⟨[(0,.one (.pv x0)),(2,.one (.pv x1)),(3,.one (.pv x2))],[],[],0,20,[]⟩)⟩]
theorem laws_markText_s:LEsOK [] TT.nofl (kk [0,2,3]) laws_markText_l Tryz.f76 laws_markText_l:=⟨fun v K k h=>by
 apply un_all h;exact fun v0 v1 v2 h=>km h
 ,trivial⟩
theorem laws_markText_w:EntOK Tryz.prog TT laws_markText_e:=okF_ tabok (L:=[]) trivial (keep:=(kk [0,2,3])) (l:=laws_markText_l) Tryz.func76 laws_markText_s fun av k h=>by
 unfold laws_markText at h;split at h
 ·exact km h
 ·exact h.elim
end Go.Ev
/- The texts of counts; the functions that mark what they are handed. -/
set_option maxRecDepth 100000
set_option linter.unusedVariables false
set_option linter.unusedSimpArgs false
namespace Go.Ev
open Go.Proofs
def mdigs (u:Nat):List UInt8:=if u=0 then [] else Go.Lib.decDigits u
theorem mdigs_step {u:Nat} (h:u≠0):mdigs u=mdigs (u / 10)++[UInt8.ofNat (48+u % 10)]:=by
 unfold mdigs
 rw [if_neg h]
 by_cases h1:u<10
 ·rw [Go.Lib.decDigits_one h1,if_pos (by omega),show u % 10=u by omega];rfl
 ·rw [if_neg (by omega),Go.Lib.decDigits,dif_neg h1]
theorem mdigs_len:∀(m u:Nat),u<10 ^ m→(mdigs u).length≤m
 | 0,u,h=>by
  have:u=0:=by simpa using h
  subst this;simp [mdigs]
 | m+1,u,h=>by
  by_cases h0:u=0
  ·subst h0;simp [mdigs]
  ·rw [mdigs_step h0,List.length_append]
   have h2:u / 10<10 ^ m:=by rw [Nat.pow_succ] at h;omega
   have:=mdigs_len m (u / 10) h2
   simp only [List.length_singleton];omega
abbrev Sx (l:List UInt8):PV:=.str ⟨l.toArray⟩
theorem bin_strM (a b:List UInt8) (k:PV→Prop):binP .add (Sx a) (Sx b) k=(a.length+b.length≤9223372036854775807∧k (Sx (a++b))):=by
 have e:(⟨a.toArray⟩:ByteArray)++⟨b.toArray⟩=⟨(a++b).toArray⟩:=by
  apply ByteArray.ext
  rw [ByteArray.data_append]
  simp
 have h1:(⟨a.toArray⟩:ByteArray).size=a.length:=by simp [ByteArray.size]
 have h2:(⟨b.toArray⟩:ByteArray).size=b.length:=by simp [ByteArray.size]
 show (_∧k _)=_
 rw [h1,h2,e]
theorem text_oneM (n:Int) (k:PV→Prop):textP (.list 1 [[.int .u8 n]]) k=k (Sx [UInt8.ofNat n.toNat]):=rfl
theorem u8_digitM {d:Nat} (h:d<10):IntKind.u8.wrap (48+(d:Int))=((48+d:Nat):Int):=by
 have:∀d:Fin 10,IntKind.u8.wrap (48+((d:Nat):Int))=((48+(d:Nat):Nat):Int):=by decide
 exact this ⟨d,h⟩
theorem fc_u8M (n:Int):flatCond [.pv (.int .u8 0)] [.pv (.int .u8 n)]:=by intro x hx;simp at hx;subst hx;rfl
def mtx (n:Int):ByteArray:=if n≤0 then ⟨#[109,48]⟩ else ⟨([109]++mdigs n.toNat).toArray⟩
theorem mtx_lp (z:PV) (A:PV→Prop):∀(m:Nat) (x:Nat) (s:List UInt8),x<10 ^ m→x<9223372036854775808→s.length+m≤1000 →
 (lp (fun L w=>laws_markText_r0 w L (fun q7 q8 q9=>A q9)) [I x,z,Sx s]↔A (Sx (mdigs x++s)))
 | 0,x,s,h,hx,hs=>by
  have h0:x=0:=by simpa using h
  subst h0
  refine itP_mono_end fun K=>?_
  simp [laws_markText_r0,mdigs]
 | m+1,x,s,h,hx,hs=>by
  by_cases h0:x=0
  ·subst h0
   refine itP_mono_end fun K=>?_
   simp [laws_markText_r0,mdigs]
  ·have hd:x % 10<10:=Nat.mod_lt _ (by omega)
   have hq:x / 10<10 ^ m:=by rw [Nat.pow_succ] at h;omega
   have ih:=mtx_lp z A m (x / 10) (UInt8.ofNat (48+x % 10)::s) hq (by omega) (by simp only [List.length_cons];omega)
   have he:mdigs (x / 10)++(UInt8.ofNat (48+x % 10)::s)=mdigs x++s:=by
    rw [mdigs_step (u:=x) h0,List.append_assoc];rfl
   rw [he] at ih
   refine (lp_step fun K=>?_).trans ih
   have hb:1+s.length≤9223372036854775807:=by omega
   have e1:(x:Int).tmod 10=((x % 10:Nat):Int):=by rw [Int.tmod_eq_emod_of_nonneg (by omega)];rfl
   have e4:(x:Int).tdiv 10=((x / 10:Nat):Int):=by rw [Int.tdiv_eq_ediv_of_nonneg (by omega)];rfl
   have e2:IntKind.i64.wrap (48+((x % 10:Nat):Int))=48+((x % 10:Nat):Int):=wr_eq (by omega) (by omega)
   have e3:=u8_digitM hd
   have e5:IntKind.i64.wrap (((x / 10:Nat):Int))=((x / 10:Nat):Int):=wr_eq (by omega) (by omega)
   simp only [laws_markText_r0,un,cur0,binP_gtr,show (0:Int)<(x:Int) by omega,decide_true,iteP_eq,if_true,binP_rem,e1,binP_add,e2,convP,e3,fc_u8M,text_oneM,bin_strM,binP_quo,e4,e5,List.length_singleton,List.singleton_append,true_and,hb,Int.toNat_natCast]
   simp
theorem laws_markText_n (n:Int) (h:rg64 n=true) (k):call laws_markText [.one (I n)] k=k [.str (mtx n)]:=call_of (fun k=>by
 simp only [rg64,Bool.and_eq_true,decide_eq_true_eq] at h
 unfold mtx
 by_cases h0:n≤0
 ·simp [laws_markText,h0]
 ·obtain ⟨x,rfl⟩:∃x:Nat,n=x:=⟨n.toNat,by omega⟩
  simp only [laws_markText,binP_leq,h0,decide_false,iteP_eq,Bool.false_eq_true,if_false]
  have hs:x<10 ^ 19:=by
   have:(10:Nat) ^ 19=10000000000000000000:=rfl
   omega
  refine (mtx_lp (Sx []) (fun q=>binP .add (Sx [109]) q fun r=>rt [.sc] [r] k) 19 x [] hs (by omega) (by simp)).trans ?_
  have hd:=mdigs_len 19 _ hs
  rw [List.append_nil,bin_strM]
  have hl:[109].length+(mdigs x).length≤9223372036854775807:=by simp only [List.length_singleton];omega
  simp only [true_and,rt_eq,scs_sc,scs_nil,flat_str,Int.toNat_natCast]
  exact ⟨fun q=>q.2,fun q=>⟨hl,q⟩⟩) k
theorem laws_markText_n' (n:Int) (h:rg64 n=true):(laws_markText [.one (I n)] (fun o=>o=[.str (mtx n)]))=True:=by
 have:=laws_markText_n n h (fun o=>o=[.str (mtx n)])
 simp only [call] at this
 obtain ⟨out,h1,h2⟩:=of_eq_true this
 subst h2
 exact eq_true h1
theorem mtx_ok:TextOK Tryz.prog 76 mtx:=text_ok (fun _=>trivial) ⟨Tryz.f76,Tryz.func76,by kernel_rfl,by kernel_rfl⟩ fun k hk=>(laws_markText_w 76 _ _ rfl (of_eq_true (laws_markText_n' k hk)) _ (by kernel_rfl)).1 rfl
abbrev mk_IntS_r:List (Nat×MM):=[]
abbrev mk_IntS_s:List (Option Eff×SV):=[(some (.store 0 0),.kk),(none,.kinc)]
def mk_IntS:PV→Int→Option (PV×Int):=mkS mk_IntS_r mtx 1 mk_IntS_s
theorem mk_IntS_ok:MMOK Tryz.prog 99 (.sl mk_IntS):=slice_ok (T:=TT) (st:=58) (ss:=mk_IntS_s) tabok (ρ:=[]) trivial mtx_ok Tryz.func99 (by kernel_rfl) (by kernel_rfl)
def laws_markIntS:GM:=gS mk_IntS
abbrev laws_markIntS_e:Ent:=⟨[99],laws_markIntS⟩
theorem laws_markIntS_w:EntOK Tryz.prog TT laws_markIntS_e:=entS mk_IntS_ok (by kernel_rfl)
abbrev mk_ActorS_r:List (Nat×MM):=[(99,.sl mk_IntS)]
abbrev mk_ActorS_s:List (Option Eff×SV):=[(some (.call 0 none 99),.res)]
def mk_ActorS:PV→Int→Option (PV×Int):=mkS mk_ActorS_r mtx 1 mk_ActorS_s
theorem mk_ActorS_ok:MMOK Tryz.prog 124 (.sl mk_ActorS):=slice_ok (T:=TT) (st:=81) (ss:=mk_ActorS_s) tabok (ρ:=[(99,.sl mk_IntS)]) ⟨mk_IntS_ok,trivial⟩ mtx_ok Tryz.func124 (by kernel_rfl) (by kernel_rfl)
def laws_markActorS:GM:=gS mk_ActorS
abbrev laws_markActorS_e:Ent:=⟨[124],laws_markActorS⟩
theorem laws_markActorS_w:EntOK Tryz.prog TT laws_markActorS_e:=entS mk_ActorS_ok (by kernel_rfl)
abbrev mk_SigS_r:List (Nat×MM):=[]
abbrev mk_SigS_s:List (Option Eff×SV):=[(some (.store 0 0),.kk),(none,.kinc),(some (.store 1 0),.kk),(none,.kinc)]
def mk_SigS:PV→Int→Option (PV×Int):=mkS mk_SigS_r mtx 2 mk_SigS_s
theorem mk_SigS_ok:MMOK Tryz.prog 182 (.sl mk_SigS):=slice_ok (T:=TT) (st:=255) (ss:=mk_SigS_s) tabok (ρ:=[]) trivial mtx_ok Tryz.func182 (by kernel_rfl) (by kernel_rfl)
def laws_markSigS:GM:=gS mk_SigS
abbrev laws_markSigS_e:Ent:=⟨[182],laws_markSigS⟩
theorem laws_markSigS_w:EntOK Tryz.prog TT laws_markSigS_e:=entS mk_SigS_ok (by kernel_rfl)
abbrev mk_SignedS_r:List (Nat×MM):=[(99,.sl mk_IntS),(182,.sl mk_SigS)]
abbrev mk_SignedS_s:List (Option Eff×SV):=[(some (.store 0 0),.kk),(none,.kinc),(some (.store 1 0),.kk),(none,.kinc),(some (.store 2 0),.kk),(none,.kinc),(some (.store 3 0),.kk),(none,.kinc),(some (.store 4 0),.kk),(none,.kinc),(some (.store 5 0),.kk),(none,.kinc),(some (.store 6 0),.kk),(none,.kinc),(some (.store 7 0),.kk),(none,.kinc),(some (.call 8 none 99),.res),(some (.store 9 0),.kk),(none,.kinc),(some (.call 10 none 99),.res),(some (.store 11 0),.kk),(none,.kinc),(some (.store 12 0),.kk),(none,.kinc),(some (.call 13 none 99),.res),(some (.store 14 0),.kk),(none,.kinc),(some (.store 15 2),.kk),(none,.kinc),(some (.call 16 none 182),.res)]
def mk_SignedS:PV→Int→Option (PV×Int):=mkS mk_SignedS_r mtx 17 mk_SignedS_s
theorem mk_SignedS_ok:MMOK Tryz.prog 127 (.sl mk_SignedS):=slice_ok (T:=TT) (st:=90) (ss:=mk_SignedS_s) tabok (ρ:=[(99,.sl mk_IntS),(182,.sl mk_SigS)]) ⟨mk_IntS_ok,mk_SigS_ok,trivial⟩ mtx_ok Tryz.func127 (by kernel_rfl) (by kernel_rfl)
def laws_markSignedS:GM:=gS mk_SignedS
abbrev laws_markSignedS_e:Ent:=⟨[127],laws_markSignedS⟩
theorem laws_markSignedS_w:EntOK Tryz.prog TT laws_markSignedS_e:=entS mk_SignedS_ok (by kernel_rfl)
abbrev mk_StringS_r:List (Nat×MM):=[]
abbrev mk_StringS_s:List (Option Eff×SV):=[(some (.store 0 1),.kk),(none,.kinc)]
def mk_StringS:PV→Int→Option (PV×Int):=mkS mk_StringS_r mtx 1 mk_StringS_s
theorem mk_StringS_ok:MMOK Tryz.prog 24 (.sl mk_StringS):=slice_ok (T:=TT) (st:=22) (ss:=mk_StringS_s) tabok (ρ:=[]) trivial mtx_ok Tryz.func24 (by kernel_rfl) (by kernel_rfl)
def laws_markStringS:GM:=gS mk_StringS
abbrev laws_markStringS_e:Ent:=⟨[24],laws_markStringS⟩
theorem laws_markStringS_w:EntOK Tryz.prog TT laws_markStringS_e:=entS mk_StringS_ok (by kernel_rfl)
abbrev mk_EntryS_r:List (Nat×MM):=[(24,.sl mk_StringS)]
abbrev mk_EntryS_s:List (Option Eff×SV):=[(some (.store 0 1),.kk),(none,.kinc),(some (.store 1 0),.kk),(none,.kinc),(some (.store 2 0),.kk),(none,.kinc),(some (.call 3 none 24),.res)]
def mk_EntryS:PV→Int→Option (PV×Int):=mkS mk_EntryS_r mtx 4 mk_EntryS_s
theorem mk_EntryS_ok:MMOK Tryz.prog 63 (.sl mk_EntryS):=slice_ok (T:=TT) (st:=91) (ss:=mk_EntryS_s) tabok (ρ:=[(24,.sl mk_StringS)]) ⟨mk_StringS_ok,trivial⟩ mtx_ok Tryz.func63 (by kernel_rfl) (by kernel_rfl)
def laws_markEntryS:GM:=gS mk_EntryS
abbrev laws_markEntryS_e:Ent:=⟨[63],laws_markEntryS⟩
theorem laws_markEntryS_w:EntOK Tryz.prog TT laws_markEntryS_e:=entS mk_EntryS_ok (by kernel_rfl)
abbrev mk_ZoneS_r:List (Nat×MM):=[(127,.sl mk_SignedS),(63,.sl mk_EntryS)]
abbrev mk_ZoneS_s:List (Option Eff×SV):=[(some (.call 0 none 127),.res),(some (.call 1 none 63),.res)]
def mk_ZoneS:PV→Int→Option (PV×Int):=mkS mk_ZoneS_r mtx 2 mk_ZoneS_s
theorem mk_ZoneS_ok:MMOK Tryz.prog 75 (.sl mk_ZoneS):=slice_ok (T:=TT) (st:=82) (ss:=mk_ZoneS_s) tabok (ρ:=[(127,.sl mk_SignedS),(63,.sl mk_EntryS)]) ⟨mk_SignedS_ok,mk_EntryS_ok,trivial⟩ mtx_ok Tryz.func75 (by kernel_rfl) (by kernel_rfl)
def laws_markZoneS:GM:=gS mk_ZoneS
abbrev laws_markZoneS_e:Ent:=⟨[75],laws_markZoneS⟩
theorem laws_markZoneS_w:EntOK Tryz.prog TT laws_markZoneS_e:=entS mk_ZoneS_ok (by kernel_rfl)
abbrev mk_SaidS_r:List (Nat×MM):=[(127,.sl mk_SignedS),(63,.sl mk_EntryS),(99,.sl mk_IntS)]
abbrev mk_SaidS_s:List (Option Eff×SV):=[(some (.call 0 none 127),.res),(some (.call 1 none 63),.res),(some (.call 2 none 99),.res)]
def mk_SaidS:PV→Int→Option (PV×Int):=mkS mk_SaidS_r mtx 3 mk_SaidS_s
theorem mk_SaidS_ok:MMOK Tryz.prog 125 (.sl mk_SaidS):=slice_ok (T:=TT) (st:=83) (ss:=mk_SaidS_s) tabok (ρ:=[(127,.sl mk_SignedS),(63,.sl mk_EntryS),(99,.sl mk_IntS)]) ⟨mk_SignedS_ok,mk_EntryS_ok,mk_IntS_ok,trivial⟩ mtx_ok Tryz.func125 (by kernel_rfl) (by kernel_rfl)
def laws_markSaidS:GM:=gS mk_SaidS
abbrev laws_markSaidS_e:Ent:=⟨[125],laws_markSaidS⟩
theorem laws_markSaidS_w:EntOK Tryz.prog TT laws_markSaidS_e:=entS mk_SaidS_ok (by kernel_rfl)
abbrev mk_ServerS_r:List (Nat×MM):=[(75,.sl mk_ZoneS)]
abbrev mk_ServerS_s:List (Option Eff×SV):=[(some (.call 0 none 75),.res),(some (.store 1 0),.kk),(none,.kinc)]
def mk_ServerS:PV→Int→Option (PV×Int):=mkS mk_ServerS_r mtx 2 mk_ServerS_s
theorem mk_ServerS_ok:MMOK Tryz.prog 23 (.sl mk_ServerS):=slice_ok (T:=TT) (st:=39) (ss:=mk_ServerS_s) tabok (ρ:=[(75,.sl mk_ZoneS)]) ⟨mk_ZoneS_ok,trivial⟩ mtx_ok Tryz.func23 (by kernel_rfl) (by kernel_rfl)
def laws_markServerS:GM:=gS mk_ServerS
abbrev laws_markServerS_e:Ent:=⟨[23],laws_markServerS⟩
theorem laws_markServerS_w:EntOK Tryz.prog TT laws_markServerS_e:=entS mk_ServerS_ok (by kernel_rfl)
abbrev mk_SignedSS_r:List (Nat×MM):=[(127,.sl mk_SignedS)]
abbrev mk_SignedSS_s:List (Option Eff×SV):=[(some (.call 0 none 127),.res)]
def mk_SignedSS:PV→Int→Option (PV×Int):=mkS mk_SignedSS_r mtx 1 mk_SignedSS_s
theorem mk_SignedSS_ok:MMOK Tryz.prog 96 (.sl mk_SignedSS):=slice_ok (T:=TT) (st:=52) (ss:=mk_SignedSS_s) tabok (ρ:=[(127,.sl mk_SignedS)]) ⟨mk_SignedS_ok,trivial⟩ mtx_ok Tryz.func96 (by kernel_rfl) (by kernel_rfl)
def laws_markSignedSS:GM:=gS mk_SignedSS
abbrev laws_markSignedSS_e:Ent:=⟨[96],laws_markSignedSS⟩
theorem laws_markSignedSS_w:EntOK Tryz.prog TT laws_markSignedSS_e:=entS mk_SignedSS_ok (by kernel_rfl)
abbrev mk_ForkS_r:List (Nat×MM):=[(99,.sl mk_IntS),(182,.sl mk_SigS)]
abbrev mk_ForkS_s:List (Option Eff×SV):=[(some (.store 0 0),.kk),(none,.kinc),(some (.store 1 0),.kk),(none,.kinc),(some (.store 2 0),.kk),(none,.kinc),(some (.store 3 0),.kk),(none,.kinc),(some (.store 4 0),.kk),(none,.kinc),(some (.store 5 0),.kk),(none,.kinc),(some (.store 6 0),.kk),(none,.kinc),(some (.store 7 0),.kk),(none,.kinc),(some (.call 8 none 99),.res),(some (.store 9 0),.kk),(none,.kinc),(some (.call 10 none 99),.res),(some (.store 11 0),.kk),(none,.kinc),(some (.store 12 0),.kk),(none,.kinc),(some (.call 13 none 99),.res),(some (.store 14 0),.kk),(none,.kinc),(some (.store 15 2),.kk),(none,.kinc),(some (.call 16 none 182),.res),(some (.store 17 0),.kk),(none,.kinc),(some (.store 18 0),.kk),(none,.kinc),(some (.store 19 0),.kk),(none,.kinc),(some (.store 20 0),.kk),(none,.kinc),(some (.store 21 0),.kk),(none,.kinc),(some (.store 22 0),.kk),(none,.kinc),(some (.store 23 0),.kk),(none,.kinc),(some (.store 24 0),.kk),(none,.kinc),(some (.call 25 none 99),.res),(some (.store 26 0),.kk),(none,.kinc),(some (.call 27 none 99),.res),(some (.store 28 0),.kk),(none,.kinc),(some (.store 29 0),.kk),(none,.kinc),(some (.call 30 none 99),.res),(some (.store 31 0),.kk),(none,.kinc),(some (.store 32 2),.kk),(none,.kinc),(some (.call 33 none 182),.res),(some (.store 34 0),.kk),(none,.kinc),(some (.store 35 0),.kk),(none,.kinc),(some (.store 36 0),.kk),(none,.kinc),(some (.store 37 0),.kk),(none,.kinc),(some (.store 38 0),.kk),(none,.kinc),(some (.store 39 0),.kk),(none,.kinc),(some (.store 40 0),.kk),(none,.kinc),(some (.store 41 0),.kk),(none,.kinc),(some (.call 42 none 99),.res),(some (.store 43 0),.kk),(none,.kinc),(some (.call 44 none 99),.res),(some (.store 45 0),.kk),(none,.kinc),(some (.store 46 0),.kk),(none,.kinc),(some (.call 47 none 99),.res),(some (.store 48 0),.kk),(none,.kinc),(some (.store 49 2),.kk),(none,.kinc),(some (.call 50 none 182),.res)]
def mk_ForkS:PV→Int→Option (PV×Int):=mkS mk_ForkS_r mtx 51 mk_ForkS_s
theorem mk_ForkS_ok:MMOK Tryz.prog 97 (.sl mk_ForkS):=slice_ok (T:=TT) (st:=53) (ss:=mk_ForkS_s) tabok (ρ:=[(99,.sl mk_IntS),(182,.sl mk_SigS)]) ⟨mk_IntS_ok,mk_SigS_ok,trivial⟩ mtx_ok Tryz.func97 (by kernel_rfl) (by kernel_rfl)
def laws_markForkS:GM:=gS mk_ForkS
abbrev laws_markForkS_e:Ent:=⟨[97],laws_markForkS⟩
theorem laws_markForkS_w:EntOK Tryz.prog TT laws_markForkS_e:=entS mk_ForkS_ok (by kernel_rfl)
abbrev mk_Known_r:List (Nat×MM):=[(96,.sl mk_SignedSS),(97,.sl mk_ForkS)]
abbrev mk_Known_s:List (Option Eff×SV):=[(some (.call 0 none 96),.res),(some (.call 1 none 97),.res)]
def mk_Known:List PV→Int→Option (List PV×Int):=mkT mk_Known_r mtx 2 mk_Known_s
theorem mk_Known_ok:MMOK Tryz.prog 33 (.st mk_Known):=struct_ok (T:=TT) (esz:=2) (ss:=mk_Known_s) tabok (ρ:=[(96,.sl mk_SignedSS),(97,.sl mk_ForkS)]) ⟨mk_SignedSS_ok,mk_ForkS_ok,trivial⟩ mtx_ok Tryz.func33 (by kernel_rfl) (by kernel_rfl)
def laws_markKnown:GM:=gT mk_Known
abbrev laws_markKnown_e:Ent:=⟨[33],laws_markKnown⟩
theorem laws_markKnown_w:EntOK Tryz.prog TT laws_markKnown_e:=entT mk_Known_ok (by kernel_rfl)
abbrev mk_StoredS_r:List (Nat×MM):=[(127,.sl mk_SignedS),(24,.sl mk_StringS),(99,.sl mk_IntS)]
abbrev mk_StoredS_s:List (Option Eff×SV):=[(some (.store 0 0),.kk),(none,.kinc),(some (.store 1 1),.kk),(none,.kinc),(some (.call 2 none 127),.res),(some (.store 3 2),.kk),(none,.kinc),(some (.store 4 1),.kk),(none,.kinc),(some (.store 5 0),.kk),(none,.kinc),(some (.store 6 0),.kk),(none,.kinc),(some (.call 7 none 24),.res),(some (.store 8 0),.kk),(none,.kinc),(some (.call 9 none 99),.res),(some (.store 10 0),.kk),(none,.kinc),(some (.store 11 1),.kk),(none,.kinc),(some (.store 12 0),.kk),(none,.kinc),(some (.store 13 0),.kk),(none,.kinc),(some (.call 14 none 24),.res),(some (.store 15 1),.kk),(none,.kinc),(some (.store 16 0),.kk),(none,.kinc),(some (.store 17 0),.kk),(none,.kinc),(some (.call 18 none 24),.res),(some (.store 19 0),.kk),(none,.kinc),(some (.call 20 none 99),.res),(some (.store 21 0),.kk),(none,.kinc),(some (.call 22 none 99),.res)]
def mk_StoredS:PV→Int→Option (PV×Int):=mkS mk_StoredS_r mtx 23 mk_StoredS_s
theorem mk_StoredS_ok:MMOK Tryz.prog 77 (.sl mk_StoredS):=slice_ok (T:=TT) (st:=28) (ss:=mk_StoredS_s) tabok (ρ:=[(127,.sl mk_SignedS),(24,.sl mk_StringS),(99,.sl mk_IntS)]) ⟨mk_SignedS_ok,mk_StringS_ok,mk_IntS_ok,trivial⟩ mtx_ok Tryz.func77 (by kernel_rfl) (by kernel_rfl)
def laws_markStoredS:GM:=gS mk_StoredS
abbrev laws_markStoredS_e:Ent:=⟨[77],laws_markStoredS⟩
theorem laws_markStoredS_w:EntOK Tryz.prog TT laws_markStoredS_e:=entS mk_StoredS_ok (by kernel_rfl)
abbrev mk_Cache_r:List (Nat×MM):=[(77,.sl mk_StoredS)]
abbrev mk_Cache_s:List (Option Eff×SV):=[(some (.call 0 none 77),.res)]
def mk_Cache:List PV→Int→Option (List PV×Int):=mkT mk_Cache_r mtx 1 mk_Cache_s
theorem mk_Cache_ok:MMOK Tryz.prog 126 (.st mk_Cache):=struct_ok (T:=TT) (esz:=1) (ss:=mk_Cache_s) tabok (ρ:=[(77,.sl mk_StoredS)]) ⟨mk_StoredS_ok,trivial⟩ mtx_ok Tryz.func126 (by kernel_rfl) (by kernel_rfl)
def laws_markCache:GM:=gT mk_Cache
abbrev laws_markCache_e:Ent:=⟨[126],laws_markCache⟩
theorem laws_markCache_w:EntOK Tryz.prog TT laws_markCache_e:=entT mk_Cache_ok (by kernel_rfl)
abbrev mk_World_r:List (Nat×MM):=[(124,.sl mk_ActorS),(75,.sl mk_ZoneS),(125,.sl mk_SaidS),(23,.sl mk_ServerS),(33,.st mk_Known),(126,.st mk_Cache)]
abbrev mk_World_s:List (Option Eff×SV):=[(some (.call 1 none 124),.res),(some (.call 2 none 75),.res),(some (.call 3 none 125),.res),(some (.call 4 none 23),.res),(some (.call 5 (some 2) 33),.res),(some (.call 7 (some 1) 126),.res)]
def mk_World:List PV→Int→Option (List PV×Int):=mkT mk_World_r mtx 8 mk_World_s
theorem mk_World_ok:MMOK Tryz.prog 44 (.st mk_World):=struct_ok (T:=TT) (esz:=8) (ss:=mk_World_s) tabok (ρ:=[(124,.sl mk_ActorS),(75,.sl mk_ZoneS),(125,.sl mk_SaidS),(23,.sl mk_ServerS),(33,.st mk_Known),(126,.st mk_Cache)]) ⟨mk_ActorS_ok,mk_ZoneS_ok,mk_SaidS_ok,mk_ServerS_ok,mk_Known_ok,mk_Cache_ok,trivial⟩ mtx_ok Tryz.func44 (by kernel_rfl) (by kernel_rfl)
def laws_markWorld:GM:=gT mk_World
abbrev laws_markWorld_e:Ent:=⟨[44],laws_markWorld⟩
theorem laws_markWorld_w:EntOK Tryz.prog TT laws_markWorld_e:=entT mk_World_ok (by kernel_rfl)
abbrev mk_Zone_r:List (Nat×MM):=[(127,.sl mk_SignedS),(63,.sl mk_EntryS)]
abbrev mk_Zone_s:List (Option Eff×SV):=[(some (.call 0 none 127),.res),(some (.call 1 none 63),.res)]
def mk_Zone:List PV→Int→Option (List PV×Int):=mkT mk_Zone_r mtx 2 mk_Zone_s
theorem mk_Zone_ok:MMOK Tryz.prog 45 (.st mk_Zone):=struct_ok (T:=TT) (esz:=2) (ss:=mk_Zone_s) tabok (ρ:=[(127,.sl mk_SignedS),(63,.sl mk_EntryS)]) ⟨mk_SignedS_ok,mk_EntryS_ok,trivial⟩ mtx_ok Tryz.func45 (by kernel_rfl) (by kernel_rfl)
def laws_markZone:GM:=gT mk_Zone
abbrev laws_markZone_e:Ent:=⟨[45],laws_markZone⟩
theorem laws_markZone_w:EntOK Tryz.prog TT laws_markZone_e:=entT mk_Zone_ok (by kernel_rfl)
end Go.Ev
/- The library's comparison of strings, by the shelf's contract. -/
set_option maxRecDepth 100000
namespace Go.Ev
open Go.Proofs
def rhoC:Go.Shelf.Ren:=⟨fun n=>match n with | 106=>405 | 213=>426 | 265=>431 | _=>0,fun t=>t,fun g=>g⟩
theorem laysC:Go.Proofs.Lays.n213 Tryz.prog rhoC where
 mixed:=by kernel_rfl
 f213:=by kernel_rfl
 f265:=by kernel_rfl
 t3:=by kernel_rfl
 a3:=fun w=>by kernel_rfl
 z3:=fun w=>by kernel_rfl
 v3:=fun w=>by kernel_rfl
 t9:=by kernel_rfl
 a9:=fun w=>by kernel_rfl
 z9:=fun w=>by kernel_rfl
 v9:=fun w=>by kernel_rfl
def Qju:GM
 | [.one (.str s),.one (.str t)],k=>k [I (Go.Lib.compareBytes s.data.toList t.data.toList)]
 | _,_=>False
abbrev Qju_e:Ent:=⟨[426],Qju⟩
theorem Qju_w:EntOK Tryz.prog TT Qju_e:=by
 intro f av out hk hg sg hsg
 injection hk with hk hn
 subst hk
 have hs:lk TT.sig 426=some [.one .sc]:=by kernel_rfl
 rw [hs] at hsg
 injection hsg with hsg
 subst hsg
 change Qju av _ at hg
 unfold Qju at hg
 split at hg
 ·rename_i s t
  subst hg
  refine ⟨fun _=>⟨⟨Tryz.f426,Tryz.func426,by kernel_rfl,by kernel_rfl⟩,fun w S vals _ hS hv=>?_⟩,fun h=>nomatch h⟩
  obtain ⟨v1,r,rfl,h1,v2,r2,rfl,h2,h3⟩:=hv
  have h3:r2=[]:=h3
  subst h3
  have e1:v1=.string s:=RepS.str_inv h1
  have e2:v2=.string t:=RepS.str_inv h2
  subst e1;subst e2
  refine (Any.bytealg_CompareString laysC s t w).mono ?_
  rintro e w' ⟨rfl,rfl⟩
  refine ⟨_,S,fun _=>none,[.int .i64 (Go.Lib.compareBytes s.data.toList t.data.toList)],rfl,rfl,.refl _ _,fun _ h=>h,fun x hx=>⟨rfl,hS x hx,.inl hx⟩,fun x i h=>(nomatch h),rfl,rfl,fun i ck v h4 h5=>?_,fun x i h=>nomatch h⟩
  cases i with
  | zero =>
   simp [allCks,RS.cks] at h4 h5
   subst h4;subst h5
   exact RepS.int
  | succ i=>simp [allCks,RS.cks] at h4
 ·exact hg.elim
end Go.Ev
set_option maxRecDepth 100000
set_option linter.unusedVariables false
namespace Go.Ev
open Go.Proofs
def Qaa:GM
 | [.one a0,.one a1],k =>
  lenP a0 fun r0 =>
  binP .sub a1 r0 fun r1 =>
  binP .lss r1 (I 0) fun r2 =>
  iteP r2
   (rt [.sc] [(I (-1))] k)
   (rt [.sc] [r1] k)
 | _,_=>False
abbrev Qaa_e:Ent:=⟨[212],Qaa⟩
theorem Qaa_w:EntOK Tryz.prog TT Qaa_e:=okF_ tabok (L:=[]) trivial (keep:=[]) (l:=[]) Tryz.func212 trivial fun av k h=>by
 unfold Qaa at h;split at h
 ·exact km h
 ·exact h.elim
def Qab:GM
 | [.agg u0,.one a1],k=>un 1 (fun a0 =>
  call Qaa [.one a0,.one a1] fun o0 =>
  binP .lss (atP o0 0) (I 0) fun r1 =>
  iteP r1
   (rt [.sc] [(I (-1))] k)
   (rt [.sc] [(atP o0 0)] k)) u0
 | _,_=>False
abbrev Qab_e:Ent:=⟨[185],Qab⟩
theorem Qab_w:EntOK Tryz.prog TT Qab_e:=okF_ tabok (L:=[Qaa_e]) ⟨Qaa_w,trivial⟩ (keep:=[]) (l:=[]) Tryz.func185 trivial fun av k h=>by
 unfold Qab at h;split at h
 ·apply un_all h;clear h;intro a0 h;exact km h
 ·exact h.elim
def Qac_r0 (v:List PV) (K:List PV→Prop) (x0k:Prop) (x1k:PV→PV→PV→PV→Prop):Prop :=
 un 4 (fun v0 v1 v2 v3 =>
  lenP v0 fun r0 =>
  binP .lss v3 r0 fun r1 =>
  iteP r1
   (elemP 1 v0 v3 fun c2 =>
   call Qab [.agg [(atP c2 0)],.one v1] fun o3 =>
   binP .lss (atP o3 0) (I 0) fun r4 =>
   iteP r4
    (x0k)
    (binP .add v3 (I 1) fun r5 =>
    K [v0,(atP o3 0),v2,r5]))
   (x1k v0 v1 v2 v3)) v
def Qac:GM
 | [.one a0,.one a1],k =>
  lenP a0 fun r0 =>
  binP .sub a1 r0 fun r1 =>
  binP .lss r1 (I 0) fun r2 =>
  iteP r2
   (rt [.sc] [(I (-1))] k)
   (lp (fun L w=>Qac_r0 w L
    (rt [.sc] [(I (-1))] k)
    (fun q6 q7 q8 q9=>rt [.sc] [q7] k)) [a0,r1,(I 0),(I 0)])
 | _,_=>False
abbrev Qac_e:Ent:=⟨[103],Qac⟩
def Qac_l:List LE:=[⟨none,0,⟨[(0,.one zB),(1,.one zB),(4,.one zB),(5,.one zB)],[],[],0,27,[]⟩,fun K k v=>Qac_r0 v K (k .ret ⟨[(4,.one (.pv (I (-1))))],[],[],1,27,[]⟩) (fun x0 x1 x2 x3=>k (.exit 0) ⟨[(0,.one (.pv x0)),(1,.one (.pv x1)),(4,.one (.pv x2)),(5,.one (.pv x3))],[],[],0,27,[]⟩)⟩]
theorem Qac_s:LEsOK [Qab_e] TT.nofl (kk [0,1,4,5]) Qac_l Tryz.f103 Qac_l:=⟨fun v K k h=>by
 apply un_all h;exact fun v0 v1 v2 v3 h=>km h
 ,trivial⟩
theorem Qac_w:EntOK Tryz.prog TT Qac_e:=okF_ tabok (L:=[Qab_e]) ⟨Qab_w,trivial⟩ (keep:=(kk [0,1,4,5])) (l:=Qac_l) Tryz.func103 Qac_s fun av k h=>by
 unfold Qac at h;split at h
 ·exact km h
 ·exact h.elim
def Qad:GM
 | [.agg u0,.one a2],k=>un 2 (fun a0 a1 =>
  call Qaa [.one a0,.one a2] fun o0 =>
  binP .lss (atP o0 0) (I 0) fun r1 =>
  iteP r1
   (rt [.sc] [(I (-1))] k)
   (rt [.sc] [(atP o0 0)] k)) u0
 | _,_=>False
abbrev Qad_e:Ent:=⟨[138],Qad⟩
theorem Qad_w:EntOK Tryz.prog TT Qad_e:=okF_ tabok (L:=[Qaa_e]) ⟨Qaa_w,trivial⟩ (keep:=[]) (l:=[]) Tryz.func138 trivial fun av k h=>by
 unfold Qad at h;split at h
 ·apply un_all h;clear h;intro a0 a1 h;exact km h
 ·exact h.elim
def Qae:GM
 | [.agg u0,.one a16],k=>un 16 (fun a0 a1 a2 a3 a4 a5 a6 a7 a8 a9 a10 a11 a12 a13 a14 a15 =>
  call Qad [.agg [a8,a9],.one a16] fun o0 =>
  binP .lss (atP o0 0) (I 0) fun r1 =>
  iteP r1
   (rt [.sc] [(I (-1))] k)
   (call Qad [.agg [a10,a11],.one (atP o0 0)] fun o2 =>
   binP .lss (atP o2 0) (I 0) fun r3 =>
   iteP r3
    (rt [.sc] [(I (-1))] k)
    (call Qad [.agg [a13,a14],.one (atP o2 0)] fun o4 =>
    binP .lss (atP o4 0) (I 0) fun r5 =>
    iteP r5
     (rt [.sc] [(I (-1))] k)
     (rt [.sc] [(atP o4 0)] k)))) u0
 | _,_=>False
abbrev Qae_e:Ent:=⟨[54],Qae⟩
theorem Qae_w:EntOK Tryz.prog TT Qae_e:=okF_ tabok (L:=[Qad_e]) ⟨Qad_w,trivial⟩ (keep:=[]) (l:=[]) Tryz.func54 trivial fun av k h=>by
 unfold Qae at h;split at h
 ·apply un_all h;clear h;intro a0 a1 a2 a3 a4 a5 a6 a7 a8 a9 a10 a11 a12 a13 a14 a15 h;exact km h
 ·exact h.elim
def Qaf:GM
 | [.one a0,.one a1],k =>
  lenP a0 fun r0 =>
  binP .sub a1 r0 fun r1 =>
  binP .lss r1 (I 0) fun r2 =>
  iteP r2
   (rt [.sc] [(I (-1))] k)
   (rt [.sc] [r1] k)
 | _,_=>False
abbrev Qaf_e:Ent:=⟨[253],Qaf⟩
theorem Qaf_w:EntOK Tryz.prog TT Qaf_e:=okF_ tabok (L:=[]) trivial (keep:=[]) (l:=[]) Tryz.func253 trivial fun av k h=>by
 unfold Qaf at h;split at h
 ·exact km h
 ·exact h.elim
def Qag:GM
 | [.agg u0,.one a17],k=>un 17 (fun a0 a1 a2 a3 a4 a5 a6 a7 a8 a9 a10 a11 a12 a13 a14 a15 a16 =>
  call Qae [.agg [a0,a1,a2,a3,a4,a5,a6,a7,a8,a9,a10,a11,a12,a13,a14,a15],.one a17] fun o0 =>
  binP .lss (atP o0 0) (I 0) fun r1 =>
  iteP r1
   (rt [.sc] [(I (-1))] k)
   (call Qaf [.one a16,.one (atP o0 0)] fun o2 =>
   binP .lss (atP o2 0) (I 0) fun r3 =>
   iteP r3
    (rt [.sc] [(I (-1))] k)
    (rt [.sc] [(atP o2 0)] k))) u0
 | _,_=>False
abbrev Qag_e:Ent:=⟨[187],Qag⟩
theorem Qag_w:EntOK Tryz.prog TT Qag_e:=okF_ tabok (L:=[Qae_e,Qaf_e]) ⟨Qae_w,Qaf_w,trivial⟩ (keep:=[]) (l:=[]) Tryz.func187 trivial fun av k h=>by
 unfold Qag at h;split at h
 ·apply un_all h;clear h;intro a0 a1 a2 a3 a4 a5 a6 a7 a8 a9 a10 a11 a12 a13 a14 a15 a16 h;exact km h
 ·exact h.elim
def Qah_r0 (v:List PV) (K:List PV→Prop) (x0k:Prop) (x1k:PV→PV→PV→PV→Prop):Prop :=
 un 4 (fun v0 v1 v2 v3 =>
  lenP v0 fun r0 =>
  binP .lss v3 r0 fun r1 =>
  iteP r1
   (elemP 17 v0 v3 fun c2 =>
   call Qag [.agg [(atP c2 0),(atP c2 1),(atP c2 2),(atP c2 3),(atP c2 4),(atP c2 5),(atP c2 6),(atP c2 7),(atP c2 8),(atP c2 9),(atP c2 10),(atP c2 11),(atP c2 12),(atP c2 13),(atP c2 14),(atP c2 15),(atP c2 16)],.one v1] fun o3 =>
   binP .lss (atP o3 0) (I 0) fun r4 =>
   iteP r4
    (x0k)
    (binP .add v3 (I 1) fun r5 =>
    K [v0,(atP o3 0),v2,r5]))
   (x1k v0 v1 v2 v3)) v
def Qah:GM
 | [.one a0,.one a1],k =>
  lenP a0 fun r0 =>
  binP .sub a1 r0 fun r1 =>
  binP .lss r1 (I 0) fun r2 =>
  iteP r2
   (rt [.sc] [(I (-1))] k)
   (lp (fun L w=>Qah_r0 w L
    (rt [.sc] [(I (-1))] k)
    (fun q6 q7 q8 q9=>rt [.sc] [q7] k)) [a0,r1,(I 0),(I 0)])
 | _,_=>False
abbrev Qah_e:Ent:=⟨[107],Qah⟩
def Qah_l:List LE:=[⟨none,0,⟨[(0,.one zB),(1,.one zB),(4,.one zB),(5,.one zB)],[],[],0,27,[]⟩,fun K k v=>Qah_r0 v K (k .ret ⟨[(4,.one (.pv (I (-1))))],[],[],1,27,[]⟩) (fun x0 x1 x2 x3=>k (.exit 0) ⟨[(0,.one (.pv x0)),(1,.one (.pv x1)),(4,.one (.pv x2)),(5,.one (.pv x3))],[],[],0,27,[]⟩)⟩]
theorem Qah_s:LEsOK [Qag_e] TT.nofl (kk [0,1,4,5]) Qah_l Tryz.f107 Qah_l:=⟨fun v K k h=>by
 apply un_all h;exact fun v0 v1 v2 v3 h=>km h
 ,trivial⟩
theorem Qah_w:EntOK Tryz.prog TT Qah_e:=okF_ tabok (L:=[Qag_e]) ⟨Qag_w,trivial⟩ (keep:=(kk [0,1,4,5])) (l:=Qah_l) Tryz.func107 Qah_s fun av k h=>by
 unfold Qah at h;split at h
 ·exact km h
 ·exact h.elim
def Qai_r0 (v:List PV) (K:List PV→Prop) (x0k:Prop) (x1k:PV→PV→PV→PV→Prop):Prop :=
 un 4 (fun v0 v1 v2 v3 =>
  lenP v0 fun r0 =>
  binP .lss v3 r0 fun r1 =>
  iteP r1
   (elemP 1 v0 v3 fun c2 =>
   lenS (atP c2 0) fun r3 =>
   binP .sub v1 r3 fun r4 =>
   binP .lss r4 (I 0) fun r5 =>
   iteP r5
    (x0k)
    (binP .add v3 (I 1) fun r6 =>
    K [v0,r4,v2,r6]))
   (x1k v0 v1 v2 v3)) v
def Qai:GM
 | [.one a0,.one a1],k =>
  lenP a0 fun r0 =>
  binP .sub a1 r0 fun r1 =>
  binP .lss r1 (I 0) fun r2 =>
  iteP r2
   (rt [.sc] [(I (-1))] k)
   (lp (fun L w=>Qai_r0 w L
    (rt [.sc] [(I (-1))] k)
    (fun q7 q8 q9 q10=>rt [.sc] [q8] k)) [a0,r1,(I 0),(I 0)])
 | _,_=>False
abbrev Qai_e:Ent:=⟨[16],Qai⟩
def Qai_l:List LE:=[⟨none,0,⟨[(0,.one zB),(1,.one zB),(4,.one zB),(5,.one zB)],[],[],0,28,[]⟩,fun K k v=>Qai_r0 v K (k .ret ⟨[(4,.one (.pv (I (-1))))],[],[],0,28,[]⟩) (fun x0 x1 x2 x3=>k (.exit 0) ⟨[(0,.one (.pv x0)),(1,.one (.pv x1)),(4,.one (.pv x2)),(5,.one (.pv x3))],[],[],0,28,[]⟩)⟩]
theorem Qai_s:LEsOK [] TT.nofl (kk [0,1,4,5]) Qai_l Tryz.f16 Qai_l:=⟨fun v K k h=>by
 apply un_all h;exact fun v0 v1 v2 v3 h=>km h
 ,trivial⟩
theorem Qai_w:EntOK Tryz.prog TT Qai_e:=okF_ tabok (L:=[]) trivial (keep:=(kk [0,1,4,5])) (l:=Qai_l) Tryz.func16 Qai_s fun av k h=>by
 unfold Qai at h;split at h
 ·exact km h
 ·exact h.elim
def Qaj:GM
 | [.agg u0,.one a4],k=>un 4 (fun a0 a1 a2 a3 =>
  lenS a0 fun r0 =>
  binP .sub a4 r0 fun r1 =>
  binP .lss r1 (I 0) fun r2 =>
  iteP r2
   (rt [.sc] [(I (-1))] k)
   (call Qai [.one a3,.one r1] fun o3 =>
   binP .lss (atP o3 0) (I 0) fun r4 =>
   iteP r4
    (rt [.sc] [(I (-1))] k)
    (rt [.sc] [(atP o3 0)] k))) u0
 | _,_=>False
abbrev Qaj_e:Ent:=⟨[139],Qaj⟩
theorem Qaj_w:EntOK Tryz.prog TT Qaj_e:=okF_ tabok (L:=[Qai_e]) ⟨Qai_w,trivial⟩ (keep:=[]) (l:=[]) Tryz.func139 trivial fun av k h=>by
 unfold Qaj at h;split at h
 ·apply un_all h;clear h;intro a0 a1 a2 a3 h;exact km h
 ·exact h.elim
def Qak_r0 (v:List PV) (K:List PV→Prop) (x0k:Prop) (x1k:PV→PV→PV→PV→Prop):Prop :=
 un 4 (fun v0 v1 v2 v3 =>
  lenP v0 fun r0 =>
  binP .lss v3 r0 fun r1 =>
  iteP r1
   (elemP 4 v0 v3 fun c2 =>
   call Qaj [.agg [(atP c2 0),(atP c2 1),(atP c2 2),(atP c2 3)],.one v1] fun o3 =>
   binP .lss (atP o3 0) (I 0) fun r4 =>
   iteP r4
    (x0k)
    (binP .add v3 (I 1) fun r5 =>
    K [v0,(atP o3 0),v2,r5]))
   (x1k v0 v1 v2 v3)) v
def Qak:GM
 | [.one a0,.one a1],k =>
  lenP a0 fun r0 =>
  binP .sub a1 r0 fun r1 =>
  binP .lss r1 (I 0) fun r2 =>
  iteP r2
   (rt [.sc] [(I (-1))] k)
   (lp (fun L w=>Qak_r0 w L
    (rt [.sc] [(I (-1))] k)
    (fun q6 q7 q8 q9=>rt [.sc] [q7] k)) [a0,r1,(I 0),(I 0)])
 | _,_=>False
abbrev Qak_e:Ent:=⟨[55],Qak⟩
def Qak_l:List LE:=[⟨none,0,⟨[(0,.one zB),(1,.one zB),(4,.one zB),(5,.one zB)],[],[],0,27,[]⟩,fun K k v=>Qak_r0 v K (k .ret ⟨[(4,.one (.pv (I (-1))))],[],[],1,27,[]⟩) (fun x0 x1 x2 x3=>k (.exit 0) ⟨[(0,.one (.pv x0)),(1,.one (.pv x1)),(4,.one (.pv x2)),(5,.one (.pv x3))],[],[],0,27,[]⟩)⟩]
theorem Qak_s:LEsOK [Qaj_e] TT.nofl (kk [0,1,4,5]) Qak_l Tryz.f55 Qak_l:=⟨fun v K k h=>by
 apply un_all h;exact fun v0 v1 v2 v3 h=>km h
 ,trivial⟩
theorem Qak_w:EntOK Tryz.prog TT Qak_e:=okF_ tabok (L:=[Qaj_e]) ⟨Qaj_w,trivial⟩ (keep:=(kk [0,1,4,5])) (l:=Qak_l) Tryz.func55 Qak_s fun av k h=>by
 unfold Qak at h;split at h
 ·exact km h
 ·exact h.elim
def Qal:GM
 | [.agg u0,.one a2],k=>un 2 (fun a0 a1 =>
  call Qah [.one a0,.one a2] fun o0 =>
  binP .lss (atP o0 0) (I 0) fun r1 =>
  iteP r1
   (rt [.sc] [(I (-1))] k)
   (call Qak [.one a1,.one (atP o0 0)] fun o2 =>
   binP .lss (atP o2 0) (I 0) fun r3 =>
   iteP r3
    (rt [.sc] [(I (-1))] k)
    (rt [.sc] [(atP o2 0)] k))) u0
 | _,_=>False
abbrev Qal_e:Ent:=⟨[37],Qal⟩
theorem Qal_w:EntOK Tryz.prog TT Qal_e:=okF_ tabok (L:=[Qah_e,Qak_e]) ⟨Qah_w,Qak_w,trivial⟩ (keep:=[]) (l:=[]) Tryz.func37 trivial fun av k h=>by
 unfold Qal at h;split at h
 ·apply un_all h;clear h;intro a0 a1 h;exact km h
 ·exact h.elim
def Qam_r0 (v:List PV) (K:List PV→Prop) (x0k:Prop) (x1k:PV→PV→PV→PV→Prop):Prop :=
 un 4 (fun v0 v1 v2 v3 =>
  lenP v0 fun r0 =>
  binP .lss v3 r0 fun r1 =>
  iteP r1
   (elemP 2 v0 v3 fun c2 =>
   call Qal [.agg [(atP c2 0),(atP c2 1)],.one v1] fun o3 =>
   binP .lss (atP o3 0) (I 0) fun r4 =>
   iteP r4
    (x0k)
    (binP .add v3 (I 1) fun r5 =>
    K [v0,(atP o3 0),v2,r5]))
   (x1k v0 v1 v2 v3)) v
def Qam:GM
 | [.one a0,.one a1],k =>
  lenP a0 fun r0 =>
  binP .sub a1 r0 fun r1 =>
  binP .lss r1 (I 0) fun r2 =>
  iteP r2
   (rt [.sc] [(I (-1))] k)
   (lp (fun L w=>Qam_r0 w L
    (rt [.sc] [(I (-1))] k)
    (fun q6 q7 q8 q9=>rt [.sc] [q7] k)) [a0,r1,(I 0),(I 0)])
 | _,_=>False
abbrev Qam_e:Ent:=⟨[104],Qam⟩
def Qam_l:List LE:=[⟨none,0,⟨[(0,.one zB),(1,.one zB),(4,.one zB),(5,.one zB)],[],[],0,27,[]⟩,fun K k v=>Qam_r0 v K (k .ret ⟨[(4,.one (.pv (I (-1))))],[],[],1,27,[]⟩) (fun x0 x1 x2 x3=>k (.exit 0) ⟨[(0,.one (.pv x0)),(1,.one (.pv x1)),(4,.one (.pv x2)),(5,.one (.pv x3))],[],[],0,27,[]⟩)⟩]
theorem Qam_s:LEsOK [Qal_e] TT.nofl (kk [0,1,4,5]) Qam_l Tryz.f104 Qam_l:=⟨fun v K k h=>by
 apply un_all h;exact fun v0 v1 v2 v3 h=>km h
 ,trivial⟩
theorem Qam_w:EntOK Tryz.prog TT Qam_e:=okF_ tabok (L:=[Qal_e]) ⟨Qal_w,trivial⟩ (keep:=(kk [0,1,4,5])) (l:=Qam_l) Tryz.func104 Qam_s fun av k h=>by
 unfold Qam at h;split at h
 ·exact km h
 ·exact h.elim
def Qan:GM
 | [.agg u0,.one a3],k=>un 3 (fun a0 a1 a2 =>
  call Qal [.agg [a0,a1],.one a3] fun o0 =>
  binP .lss (atP o0 0) (I 0) fun r1 =>
  iteP r1
   (rt [.sc] [(I (-1))] k)
   (call Qaa [.one a2,.one (atP o0 0)] fun o2 =>
   binP .lss (atP o2 0) (I 0) fun r3 =>
   iteP r3
    (rt [.sc] [(I (-1))] k)
    (rt [.sc] [(atP o2 0)] k))) u0
 | _,_=>False
abbrev Qan_e:Ent:=⟨[186],Qan⟩
theorem Qan_w:EntOK Tryz.prog TT Qan_e:=okF_ tabok (L:=[Qal_e,Qaa_e]) ⟨Qal_w,Qaa_w,trivial⟩ (keep:=[]) (l:=[]) Tryz.func186 trivial fun av k h=>by
 unfold Qan at h;split at h
 ·apply un_all h;clear h;intro a0 a1 a2 h;exact km h
 ·exact h.elim
def Qao_r0 (v:List PV) (K:List PV→Prop) (x0k:Prop) (x1k:PV→PV→PV→PV→Prop):Prop :=
 un 4 (fun v0 v1 v2 v3 =>
  lenP v0 fun r0 =>
  binP .lss v3 r0 fun r1 =>
  iteP r1
   (elemP 3 v0 v3 fun c2 =>
   call Qan [.agg [(atP c2 0),(atP c2 1),(atP c2 2)],.one v1] fun o3 =>
   binP .lss (atP o3 0) (I 0) fun r4 =>
   iteP r4
    (x0k)
    (binP .add v3 (I 1) fun r5 =>
    K [v0,(atP o3 0),v2,r5]))
   (x1k v0 v1 v2 v3)) v
def Qao:GM
 | [.one a0,.one a1],k =>
  lenP a0 fun r0 =>
  binP .sub a1 r0 fun r1 =>
  binP .lss r1 (I 0) fun r2 =>
  iteP r2
   (rt [.sc] [(I (-1))] k)
   (lp (fun L w=>Qao_r0 w L
    (rt [.sc] [(I (-1))] k)
    (fun q6 q7 q8 q9=>rt [.sc] [q7] k)) [a0,r1,(I 0),(I 0)])
 | _,_=>False
abbrev Qao_e:Ent:=⟨[105],Qao⟩
def Qao_l:List LE:=[⟨none,0,⟨[(0,.one zB),(1,.one zB),(4,.one zB),(5,.one zB)],[],[],0,27,[]⟩,fun K k v=>Qao_r0 v K (k .ret ⟨[(4,.one (.pv (I (-1))))],[],[],1,27,[]⟩) (fun x0 x1 x2 x3=>k (.exit 0) ⟨[(0,.one (.pv x0)),(1,.one (.pv x1)),(4,.one (.pv x2)),(5,.one (.pv x3))],[],[],0,27,[]⟩)⟩]
theorem Qao_s:LEsOK [Qan_e] TT.nofl (kk [0,1,4,5]) Qao_l Tryz.f105 Qao_l:=⟨fun v K k h=>by
 apply un_all h;exact fun v0 v1 v2 v3 h=>km h
 ,trivial⟩
theorem Qao_w:EntOK Tryz.prog TT Qao_e:=okF_ tabok (L:=[Qan_e]) ⟨Qan_w,trivial⟩ (keep:=(kk [0,1,4,5])) (l:=Qao_l) Tryz.func105 Qao_s fun av k h=>by
 unfold Qao at h;split at h
 ·exact km h
 ·exact h.elim
def Qap:GM
 | [.agg u0,.one a2],k=>un 2 (fun a0 a1 =>
  call Qam [.one a0,.one a2] fun o0 =>
  binP .lss (atP o0 0) (I 0) fun r1 =>
  iteP r1
   (rt [.sc] [(I (-1))] k)
   (rt [.sc] [(atP o0 0)] k)) u0
 | _,_=>False
abbrev Qap_e:Ent:=⟨[68],Qap⟩
theorem Qap_w:EntOK Tryz.prog TT Qap_e:=okF_ tabok (L:=[Qam_e]) ⟨Qam_w,trivial⟩ (keep:=[]) (l:=[]) Tryz.func68 trivial fun av k h=>by
 unfold Qap at h;split at h
 ·apply un_all h;clear h;intro a0 a1 h;exact km h
 ·exact h.elim
def Qaq_r0 (v:List PV) (K:List PV→Prop) (x0k:Prop) (x1k:PV→PV→PV→PV→Prop):Prop :=
 un 4 (fun v0 v1 v2 v3 =>
  lenP v0 fun r0 =>
  binP .lss v3 r0 fun r1 =>
  iteP r1
   (elemP 2 v0 v3 fun c2 =>
   call Qap [.agg [(atP c2 0),(atP c2 1)],.one v1] fun o3 =>
   binP .lss (atP o3 0) (I 0) fun r4 =>
   iteP r4
    (x0k)
    (binP .add v3 (I 1) fun r5 =>
    K [v0,(atP o3 0),v2,r5]))
   (x1k v0 v1 v2 v3)) v
def Qaq:GM
 | [.one a0,.one a1],k =>
  lenP a0 fun r0 =>
  binP .sub a1 r0 fun r1 =>
  binP .lss r1 (I 0) fun r2 =>
  iteP r2
   (rt [.sc] [(I (-1))] k)
   (lp (fun L w=>Qaq_r0 w L
    (rt [.sc] [(I (-1))] k)
    (fun q6 q7 q8 q9=>rt [.sc] [q7] k)) [a0,r1,(I 0),(I 0)])
 | _,_=>False
abbrev Qaq_e:Ent:=⟨[15],Qaq⟩
def Qaq_l:List LE:=[⟨none,0,⟨[(0,.one zB),(1,.one zB),(4,.one zB),(5,.one zB)],[],[],0,27,[]⟩,fun K k v=>Qaq_r0 v K (k .ret ⟨[(4,.one (.pv (I (-1))))],[],[],1,27,[]⟩) (fun x0 x1 x2 x3=>k (.exit 0) ⟨[(0,.one (.pv x0)),(1,.one (.pv x1)),(4,.one (.pv x2)),(5,.one (.pv x3))],[],[],0,27,[]⟩)⟩]
theorem Qaq_s:LEsOK [Qap_e] TT.nofl (kk [0,1,4,5]) Qaq_l Tryz.f15 Qaq_l:=⟨fun v K k h=>by
 apply un_all h;exact fun v0 v1 v2 v3 h=>km h
 ,trivial⟩
theorem Qaq_w:EntOK Tryz.prog TT Qaq_e:=okF_ tabok (L:=[Qap_e]) ⟨Qap_w,trivial⟩ (keep:=(kk [0,1,4,5])) (l:=Qaq_l) Tryz.func15 Qaq_s fun av k h=>by
 unfold Qaq at h;split at h
 ·exact km h
 ·exact h.elim
def Qar_r0 (v:List PV) (K:List PV→Prop) (x0k:Prop) (x1k:PV→PV→PV→PV→Prop):Prop :=
 un 4 (fun v0 v1 v2 v3 =>
  lenP v0 fun r0 =>
  binP .lss v3 r0 fun r1 =>
  iteP r1
   (elemP 1 v0 v3 fun c2 =>
   call Qah [.one (atP c2 0),.one v1] fun o3 =>
   binP .lss (atP o3 0) (I 0) fun r4 =>
   iteP r4
    (x0k)
    (binP .add v3 (I 1) fun r5 =>
    K [v0,(atP o3 0),v2,r5]))
   (x1k v0 v1 v2 v3)) v
def Qar:GM
 | [.one a0,.one a1],k =>
  lenP a0 fun r0 =>
  binP .sub a1 r0 fun r1 =>
  binP .lss r1 (I 0) fun r2 =>
  iteP r2
   (rt [.sc] [(I (-1))] k)
   (lp (fun L w=>Qar_r0 w L
    (rt [.sc] [(I (-1))] k)
    (fun q6 q7 q8 q9=>rt [.sc] [q7] k)) [a0,r1,(I 0),(I 0)])
 | _,_=>False
abbrev Qar_e:Ent:=⟨[80],Qar⟩
def Qar_l:List LE:=[⟨none,0,⟨[(0,.one zB),(1,.one zB),(4,.one zB),(5,.one zB)],[],[],0,27,[]⟩,fun K k v=>Qar_r0 v K (k .ret ⟨[(4,.one (.pv (I (-1))))],[],[],1,27,[]⟩) (fun x0 x1 x2 x3=>k (.exit 0) ⟨[(0,.one (.pv x0)),(1,.one (.pv x1)),(4,.one (.pv x2)),(5,.one (.pv x3))],[],[],0,27,[]⟩)⟩]
theorem Qar_s:LEsOK [Qah_e] TT.nofl (kk [0,1,4,5]) Qar_l Tryz.f80 Qar_l:=⟨fun v K k h=>by
 apply un_all h;exact fun v0 v1 v2 v3 h=>km h
 ,trivial⟩
theorem Qar_w:EntOK Tryz.prog TT Qar_e:=okF_ tabok (L:=[Qah_e]) ⟨Qah_w,trivial⟩ (keep:=(kk [0,1,4,5])) (l:=Qar_l) Tryz.func80 Qar_s fun av k h=>by
 unfold Qar at h;split at h
 ·exact km h
 ·exact h.elim
def Qas:GM
 | [.agg u0,.one a51],k=>un 51 (fun a0 a1 a2 a3 a4 a5 a6 a7 a8 a9 a10 a11 a12 a13 a14 a15 a16 a17 a18 a19 a20 a21 a22 a23 a24 a25 a26 a27 a28 a29 a30 a31 a32 a33 a34 a35 a36 a37 a38 a39 a40 a41 a42 a43 a44 a45 a46 a47 a48 a49 a50 =>
  call Qag [.agg [a0,a1,a2,a3,a4,a5,a6,a7,a8,a9,a10,a11,a12,a13,a14,a15,a16],.one a51] fun o0 =>
  binP .lss (atP o0 0) (I 0) fun r1 =>
  iteP r1
   (rt [.sc] [(I (-1))] k)
   (call Qag [.agg [a17,a18,a19,a20,a21,a22,a23,a24,a25,a26,a27,a28,a29,a30,a31,a32,a33],.one (atP o0 0)] fun o2 =>
   binP .lss (atP o2 0) (I 0) fun r3 =>
   iteP r3
    (rt [.sc] [(I (-1))] k)
    (call Qag [.agg [a34,a35,a36,a37,a38,a39,a40,a41,a42,a43,a44,a45,a46,a47,a48,a49,a50],.one (atP o2 0)] fun o4 =>
    binP .lss (atP o4 0) (I 0) fun r5 =>
    iteP r5
     (rt [.sc] [(I (-1))] k)
     (rt [.sc] [(atP o4 0)] k)))) u0
 | _,_=>False
abbrev Qas_e:Ent:=⟨[166],Qas⟩
theorem Qas_w:EntOK Tryz.prog TT Qas_e:=okF_ tabok (L:=[Qag_e]) ⟨Qag_w,trivial⟩ (keep:=[]) (l:=[]) Tryz.func166 trivial fun av k h=>by
 unfold Qas at h;split at h
 ·apply un_all h;clear h;intro a0 a1 a2 a3 a4 a5 a6 a7 a8 a9 a10 a11 a12 a13 a14 a15 a16 a17 a18 a19 a20 a21 a22 a23 a24 a25 a26 a27 a28 a29 a30 a31 a32 a33 a34 a35 a36 a37 a38 a39 a40 a41 a42 a43 a44 a45 a46 a47 a48 a49 a50 h;exact km h
 ·exact h.elim
def Qat_r0 (v:List PV) (K:List PV→Prop) (x0k:Prop) (x1k:PV→PV→PV→PV→Prop):Prop :=
 un 4 (fun v0 v1 v2 v3 =>
  lenP v0 fun r0 =>
  binP .lss v3 r0 fun r1 =>
  iteP r1
   (elemP 51 v0 v3 fun c2 =>
   call Qas [.agg [(atP c2 0),(atP c2 1),(atP c2 2),(atP c2 3),(atP c2 4),(atP c2 5),(atP c2 6),(atP c2 7),(atP c2 8),(atP c2 9),(atP c2 10),(atP c2 11),(atP c2 12),(atP c2 13),(atP c2 14),(atP c2 15),(atP c2 16),(atP c2 17),(atP c2 18),(atP c2 19),(atP c2 20),(atP c2 21),(atP c2 22),(atP c2 23),(atP c2 24),(atP c2 25),(atP c2 26),(atP c2 27),(atP c2 28),(atP c2 29),(atP c2 30),(atP c2 31),(atP c2 32),(atP c2 33),(atP c2 34),(atP c2 35),(atP c2 36),(atP c2 37),(atP c2 38),(atP c2 39),(atP c2 40),(atP c2 41),(atP c2 42),(atP c2 43),(atP c2 44),(atP c2 45),(atP c2 46),(atP c2 47),(atP c2 48),(atP c2 49),(atP c2 50)],.one v1] fun o3 =>
   binP .lss (atP o3 0) (I 0) fun r4 =>
   iteP r4
    (x0k)
    (binP .add v3 (I 1) fun r5 =>
    K [v0,(atP o3 0),v2,r5]))
   (x1k v0 v1 v2 v3)) v
def Qat:GM
 | [.one a0,.one a1],k =>
  lenP a0 fun r0 =>
  binP .sub a1 r0 fun r1 =>
  binP .lss r1 (I 0) fun r2 =>
  iteP r2
   (rt [.sc] [(I (-1))] k)
   (lp (fun L w=>Qat_r0 w L
    (rt [.sc] [(I (-1))] k)
    (fun q6 q7 q8 q9=>rt [.sc] [q7] k)) [a0,r1,(I 0),(I 0)])
 | _,_=>False
abbrev Qat_e:Ent:=⟨[81],Qat⟩
def Qat_l:List LE:=[⟨none,0,⟨[(0,.one zB),(1,.one zB),(4,.one zB),(5,.one zB)],[],[],0,27,[]⟩,fun K k v=>Qat_r0 v K (k .ret ⟨[(4,.one (.pv (I (-1))))],[],[],1,27,[]⟩) (fun x0 x1 x2 x3=>k (.exit 0) ⟨[(0,.one (.pv x0)),(1,.one (.pv x1)),(4,.one (.pv x2)),(5,.one (.pv x3))],[],[],0,27,[]⟩)⟩]
theorem Qat_s:LEsOK [Qas_e] TT.nofl (kk [0,1,4,5]) Qat_l Tryz.f81 Qat_l:=⟨fun v K k h=>by
 apply un_all h;exact fun v0 v1 v2 v3 h=>km h
 ,trivial⟩
theorem Qat_w:EntOK Tryz.prog TT Qat_e:=okF_ tabok (L:=[Qas_e]) ⟨Qas_w,trivial⟩ (keep:=(kk [0,1,4,5])) (l:=Qat_l) Tryz.func81 Qat_s fun av k h=>by
 unfold Qat at h;split at h
 ·exact km h
 ·exact h.elim
def Qau:GM
 | [.agg u0,.one a2],k=>un 2 (fun a0 a1 =>
  call Qar [.one a0,.one a2] fun o0 =>
  binP .lss (atP o0 0) (I 0) fun r1 =>
  iteP r1
   (rt [.sc] [(I (-1))] k)
   (call Qat [.one a1,.one (atP o0 0)] fun o2 =>
   binP .lss (atP o2 0) (I 0) fun r3 =>
   iteP r3
    (rt [.sc] [(I (-1))] k)
    (rt [.sc] [(atP o2 0)] k))) u0
 | _,_=>False
abbrev Qau_e:Ent:=⟨[27],Qau⟩
theorem Qau_w:EntOK Tryz.prog TT Qau_e:=okF_ tabok (L:=[Qar_e,Qat_e]) ⟨Qar_w,Qat_w,trivial⟩ (keep:=[]) (l:=[]) Tryz.func27 trivial fun av k h=>by
 unfold Qau at h;split at h
 ·apply un_all h;clear h;intro a0 a1 h;exact km h
 ·exact h.elim
def Qav:GM
 | [.agg u0,.one a2],k=>un 2 (fun a0 a1 =>
  call Qaa [.one a1,.one a2] fun o0 =>
  binP .lss (atP o0 0) (I 0) fun r1 =>
  iteP r1
   (rt [.sc] [(I (-1))] k)
   (rt [.sc] [(atP o0 0)] k)) u0
 | _,_=>False
abbrev Qav_e:Ent:=⟨[275],Qav⟩
theorem Qav_w:EntOK Tryz.prog TT Qav_e:=okF_ tabok (L:=[Qaa_e]) ⟨Qaa_w,trivial⟩ (keep:=[]) (l:=[]) Tryz.func275 trivial fun av k h=>by
 unfold Qav at h;split at h
 ·apply un_all h;clear h;intro a0 a1 h;exact km h
 ·exact h.elim
def Qaw:GM
 | [.agg u0,.one a13],k=>un 13 (fun a0 a1 a2 a3 a4 a5 a6 a7 a8 a9 a10 a11 a12 =>
  call Qaj [.agg [a1,a2,a3,a4],.one a13] fun o0 =>
  binP .lss (atP o0 0) (I 0) fun r1 =>
  iteP r1
   (rt [.sc] [(I (-1))] k)
   (call Qaj [.agg [a5,a6,a7,a8],.one (atP o0 0)] fun o2 =>
   binP .lss (atP o2 0) (I 0) fun r3 =>
   iteP r3
    (rt [.sc] [(I (-1))] k)
    (call Qav [.agg [a9,a10],.one (atP o2 0)] fun o4 =>
    binP .lss (atP o4 0) (I 0) fun r5 =>
    iteP r5
     (rt [.sc] [(I (-1))] k)
     (call Qav [.agg [a11,a12],.one (atP o4 0)] fun o6 =>
     binP .lss (atP o6 0) (I 0) fun r7 =>
     iteP r7
      (rt [.sc] [(I (-1))] k)
      (rt [.sc] [(atP o6 0)] k))))) u0
 | _,_=>False
abbrev Qaw_e:Ent:=⟨[276],Qaw⟩
theorem Qaw_w:EntOK Tryz.prog TT Qaw_e:=okF_ tabok (L:=[Qaj_e,Qav_e]) ⟨Qaj_w,Qav_w,trivial⟩ (keep:=[]) (l:=[]) Tryz.func276 trivial fun av k h=>by
 unfold Qaw at h;split at h
 ·apply un_all h;clear h;intro a0 a1 a2 a3 a4 a5 a6 a7 a8 a9 a10 a11 a12 h;exact km h
 ·exact h.elim
def Qax:GM
 | [.agg u0,.one a21],k=>un 21 (fun a0 a1 a2 a3 a4 a5 a6 a7 a8 a9 a10 a11 a12 a13 a14 a15 a16 a17 a18 a19 a20 =>
  call Qah [.one a0,.one a21] fun o0 =>
  binP .lss (atP o0 0) (I 0) fun r1 =>
  iteP r1
   (rt [.sc] [(I (-1))] k)
   (call Qaj [.agg [a2,a3,a4,a5],.one (atP o0 0)] fun o2 =>
   binP .lss (atP o2 0) (I 0) fun r3 =>
   iteP r3
    (rt [.sc] [(I (-1))] k)
    (call Qav [.agg [a6,a7],.one (atP o2 0)] fun o4 =>
    binP .lss (atP o4 0) (I 0) fun r5 =>
    iteP r5
     (rt [.sc] [(I (-1))] k)
     (call Qaw [.agg [a8,a9,a10,a11,a12,a13,a14,a15,a16,a17,a18,a19,a20],.one (atP o4 0)] fun o6 =>
     binP .lss (atP o6 0) (I 0) fun r7 =>
     iteP r7
      (rt [.sc] [(I (-1))] k)
      (rt [.sc] [(atP o6 0)] k))))) u0
 | _,_=>False
abbrev Qax_e:Ent:=⟨[218],Qax⟩
theorem Qax_w:EntOK Tryz.prog TT Qax_e:=okF_ tabok (L:=[Qah_e,Qaj_e,Qav_e,Qaw_e]) ⟨Qah_w,Qaj_w,Qav_w,Qaw_w,trivial⟩ (keep:=[]) (l:=[]) Tryz.func218 trivial fun av k h=>by
 unfold Qax at h;split at h
 ·apply un_all h;clear h;intro a0 a1 a2 a3 a4 a5 a6 a7 a8 a9 a10 a11 a12 a13 a14 a15 a16 a17 a18 a19 a20 h;exact km h
 ·exact h.elim
def Qay:GM
 | [.agg u0,.one a23],k=>un 23 (fun a0 a1 a2 a3 a4 a5 a6 a7 a8 a9 a10 a11 a12 a13 a14 a15 a16 a17 a18 a19 a20 a21 a22 =>
  lenS a1 fun r0 =>
  binP .sub a23 r0 fun r1 =>
  binP .lss r1 (I 0) fun r2 =>
  iteP r2
   (rt [.sc] [(I (-1))] k)
   (call Qax [.agg [a2,a3,a4,a5,a6,a7,a8,a9,a10,a11,a12,a13,a14,a15,a16,a17,a18,a19,a20,a21,a22],.one r1] fun o3 =>
   binP .lss (atP o3 0) (I 0) fun r4 =>
   iteP r4
    (rt [.sc] [(I (-1))] k)
    (rt [.sc] [(atP o3 0)] k))) u0
 | _,_=>False
abbrev Qay_e:Ent:=⟨[147],Qay⟩
theorem Qay_w:EntOK Tryz.prog TT Qay_e:=okF_ tabok (L:=[Qax_e]) ⟨Qax_w,trivial⟩ (keep:=[]) (l:=[]) Tryz.func147 trivial fun av k h=>by
 unfold Qay at h;split at h
 ·apply un_all h;clear h;intro a0 a1 a2 a3 a4 a5 a6 a7 a8 a9 a10 a11 a12 a13 a14 a15 a16 a17 a18 a19 a20 a21 a22 h;exact km h
 ·exact h.elim
def Qaz_r0 (v:List PV) (K:List PV→Prop) (x0k:Prop) (x1k:PV→PV→PV→PV→Prop):Prop :=
 un 4 (fun v0 v1 v2 v3 =>
  lenP v0 fun r0 =>
  binP .lss v3 r0 fun r1 =>
  iteP r1
   (elemP 23 v0 v3 fun c2 =>
   call Qay [.agg [(atP c2 0),(atP c2 1),(atP c2 2),(atP c2 3),(atP c2 4),(atP c2 5),(atP c2 6),(atP c2 7),(atP c2 8),(atP c2 9),(atP c2 10),(atP c2 11),(atP c2 12),(atP c2 13),(atP c2 14),(atP c2 15),(atP c2 16),(atP c2 17),(atP c2 18),(atP c2 19),(atP c2 20),(atP c2 21),(atP c2 22)],.one v1] fun o3 =>
   binP .lss (atP o3 0) (I 0) fun r4 =>
   iteP r4
    (x0k)
    (binP .add v3 (I 1) fun r5 =>
    K [v0,(atP o3 0),v2,r5]))
   (x1k v0 v1 v2 v3)) v
def Qaz:GM
 | [.one a0,.one a1],k =>
  lenP a0 fun r0 =>
  binP .sub a1 r0 fun r1 =>
  binP .lss r1 (I 0) fun r2 =>
  iteP r2
   (rt [.sc] [(I (-1))] k)
   (lp (fun L w=>Qaz_r0 w L
    (rt [.sc] [(I (-1))] k)
    (fun q6 q7 q8 q9=>rt [.sc] [q7] k)) [a0,r1,(I 0),(I 0)])
 | _,_=>False
abbrev Qaz_e:Ent:=⟨[64],Qaz⟩
def Qaz_l:List LE:=[⟨none,0,⟨[(0,.one zB),(1,.one zB),(4,.one zB),(5,.one zB)],[],[],0,27,[]⟩,fun K k v=>Qaz_r0 v K (k .ret ⟨[(4,.one (.pv (I (-1))))],[],[],1,27,[]⟩) (fun x0 x1 x2 x3=>k (.exit 0) ⟨[(0,.one (.pv x0)),(1,.one (.pv x1)),(4,.one (.pv x2)),(5,.one (.pv x3))],[],[],0,27,[]⟩)⟩]
theorem Qaz_s:LEsOK [Qay_e] TT.nofl (kk [0,1,4,5]) Qaz_l Tryz.f64 Qaz_l:=⟨fun v K k h=>by
 apply un_all h;exact fun v0 v1 v2 v3 h=>km h
 ,trivial⟩
theorem Qaz_w:EntOK Tryz.prog TT Qaz_e:=okF_ tabok (L:=[Qay_e]) ⟨Qay_w,trivial⟩ (keep:=(kk [0,1,4,5])) (l:=Qaz_l) Tryz.func64 Qaz_s fun av k h=>by
 unfold Qaz at h;split at h
 ·exact km h
 ·exact h.elim
def Qba:GM
 | [.agg u0,.one a1],k=>un 1 (fun a0 =>
  call Qaz [.one a0,.one a1] fun o0 =>
  binP .lss (atP o0 0) (I 0) fun r1 =>
  iteP r1
   (rt [.sc] [(I (-1))] k)
   (rt [.sc] [(atP o0 0)] k)) u0
 | _,_=>False
abbrev Qba_e:Ent:=⟨[106],Qba⟩
theorem Qba_w:EntOK Tryz.prog TT Qba_e:=okF_ tabok (L:=[Qaz_e]) ⟨Qaz_w,trivial⟩ (keep:=[]) (l:=[]) Tryz.func106 trivial fun av k h=>by
 unfold Qba at h;split at h
 ·apply un_all h;clear h;intro a0 h;exact km h
 ·exact h.elim
def Qbb:GM
 | [.agg u0,.one a8],k=>un 8 (fun a0 a1 a2 a3 a4 a5 a6 a7 =>
  call Qac [.one a1,.one a8] fun o0 =>
  binP .lss (atP o0 0) (I 0) fun r1 =>
  iteP r1
   (rt [.sc] [(I (-1))] k)
   (call Qam [.one a2,.one (atP o0 0)] fun o2 =>
   binP .lss (atP o2 0) (I 0) fun r3 =>
   iteP r3
    (rt [.sc] [(I (-1))] k)
    (call Qao [.one a3,.one (atP o2 0)] fun o4 =>
    binP .lss (atP o4 0) (I 0) fun r5 =>
    iteP r5
     (rt [.sc] [(I (-1))] k)
     (call Qaq [.one a4,.one (atP o4 0)] fun o6 =>
     binP .lss (atP o6 0) (I 0) fun r7 =>
     iteP r7
      (rt [.sc] [(I (-1))] k)
      (call Qau [.agg [a5,a6],.one (atP o6 0)] fun o8 =>
      binP .lss (atP o8 0) (I 0) fun r9 =>
      iteP r9
       (rt [.sc] [(I (-1))] k)
       (call Qba [.agg [a7],.one (atP o8 0)] fun o10 =>
       binP .lss (atP o10 0) (I 0) fun r11 =>
       iteP r11
        (rt [.sc] [(I (-1))] k)
        (rt [.sc] [(atP o10 0)] k))))))) u0
 | _,_=>False
abbrev Qbb_e:Ent:=⟨[36],Qbb⟩
theorem Qbb_w:EntOK Tryz.prog TT Qbb_e:=okF_ tabok (L:=[Qac_e,Qam_e,Qao_e,Qaq_e,Qau_e,Qba_e]) ⟨Qac_w,Qam_w,Qao_w,Qaq_w,Qau_w,Qba_w,trivial⟩ (keep:=[]) (l:=[]) Tryz.func36 trivial fun av k h=>by
 unfold Qbb at h;split at h
 ·apply un_all h;clear h;intro a0 a1 a2 a3 a4 a5 a6 a7 h;exact km h
 ·exact h.elim
def Qbc_r0 (v:List PV) (K:List PV→Prop) (x0k:PV→PV→PV→PV→Prop):Prop :=
 un 4 (fun v0 v1 v2 v3 =>
  lenP v0 fun r0 =>
  binP .lss v1 r0 fun r1 =>
  iteP r1
   (elemP 1 v0 v1 fun c2 =>
   boundP 1 v3 v1 fun n3 =>
   (flatCond [.pv (I 0)] [.pv (atP c2 0)])∧setP v3 n3 0 [(atP c2 0)] fun r4 =>
   binP .add v1 (I 1) fun r5 =>
   K [v0,r5,v2,r4])
   (x0k v0 v1 v2 v3)) v
def Qbc:GM
 | [.one a0],k =>
  lenP a0 fun r0 =>
  (r0=r0)∧(1=1)∧makeP 1 r0 [(I 0)] fun r1 =>
  lp (fun L w=>Qbc_r0 w L
   (fun q6 q7 q8 q9=>rt [.own true 3 1] [q9] k)) [a0,(I 0),(.list 1 []),r1]
 | _,_=>False
abbrev Qbc_e:Ent:=⟨[215],Qbc⟩
def Qbc_l:List LE:=[⟨none,0,⟨[(0,.one zB),(2,.one (.own 1)),(3,.one (.own 0)),(4,.one zB)],[],[(1,⟨.deep,3,1,(.bool false)⟩),(0,⟨.deep,3,1,(.bool false)⟩)],2,22,[]⟩,fun K k v=>Qbc_r0 v K (fun x0 x1 x2 x3=>k (.exit 0) ⟨[(0,.one (.pv x0)),(2,.one (.own 1)),(3,.one (.own 0)),(4,.one (.pv x1))],[],[(1,⟨.deep,3,1,x2⟩),(0,⟨.deep,3,1,x3⟩)],2,22,[]⟩)⟩]
theorem Qbc_s:LEsOK [] TT.nofl (kk [0,2,3,4]) Qbc_l Tryz.f215 Qbc_l:=⟨fun v K k h=>by
 apply un_all h;exact fun v0 v1 v2 v3 h=>km h
 ,trivial⟩
theorem Qbc_w:EntOK Tryz.prog TT Qbc_e:=okF_ tabok (L:=[]) trivial (keep:=(kk [0,2,3,4])) (l:=Qbc_l) Tryz.func215 Qbc_s fun av k h=>by
 unfold Qbc at h;split at h
 ·exact km h
 ·exact h.elim
def Qbd:GM
 | [.agg u0],k=>un 1 (fun a0 =>
  call Qbc [.one a0] fun o0 =>
  rt [.own true 3 1] [(atP o0 0)] k) u0
 | _,_=>False
abbrev Qbd_e:Ent:=⟨[193],Qbd⟩
theorem Qbd_w:EntOK Tryz.prog TT Qbd_e:=okF_ tabok (L:=[Qbc_e]) ⟨Qbc_w,trivial⟩ (keep:=[]) (l:=[]) Tryz.func193 trivial fun av k h=>by
 unfold Qbd at h;split at h
 ·apply un_all h;clear h;intro a0 h;exact km h
 ·exact h.elim
def Qbe_r0 (v:List PV) (K:List PV→Prop) (x0k:PV→PV→PV→PV→Prop):Prop :=
 un 4 (fun v0 v1 v2 v3 =>
  lenP v0 fun r0 =>
  binP .lss v1 r0 fun r1 =>
  iteP r1
   (elemP 1 v0 v1 fun c2 =>
   call Qbd [.agg [(atP c2 0)]] fun o3 =>
   boundP 1 v3 v1 fun n4 =>
   (flatCond [.nil 3 1] [.own 2])∧setP v3 n4 0 [(atP o3 0)] fun r5 =>
   binP .add v1 (I 1) fun r6 =>
   K [v0,r6,v2,r5])
   (x0k v0 v1 v2 v3)) v
def Qbe:GM
 | [.one a0],k =>
  lenP a0 fun r0 =>
  (r0=r0)∧(1=1)∧makeP 1 r0 [(.list 1 [])] fun r1 =>
  lp (fun L w=>Qbe_r0 w L
   (fun q7 q8 q9 q10=>rt [.own true 195 1] [q10] k)) [a0,(I 0),(.list 1 []),r1]
 | _,_=>False
abbrev Qbe_e:Ent:=⟨[112],Qbe⟩
def Qbe_l:List LE:=[⟨none,0,⟨[(0,.one zB),(2,.one (.own 1)),(3,.one (.own 0)),(4,.one zB)],[],[(1,⟨.deep,195,1,(.bool false)⟩),(0,⟨.deep,195,1,(.bool false)⟩)],2,23,[]⟩,fun K k v=>Qbe_r0 v K (fun x0 x1 x2 x3=>k (.exit 0) ⟨[(0,.one (.pv x0)),(2,.one (.own 1)),(3,.one (.own 0)),(4,.one (.pv x1))],[],[(1,⟨.deep,195,1,x2⟩),(0,⟨.deep,195,1,x3⟩)],2,23,[]⟩)⟩]
theorem Qbe_s:LEsOK [Qbd_e] TT.nofl (kk [0,2,3,4]) Qbe_l Tryz.f112 Qbe_l:=⟨fun v K k h=>by
 apply un_all h;exact fun v0 v1 v2 v3 h=>km h
 ,trivial⟩
theorem Qbe_w:EntOK Tryz.prog TT Qbe_e:=okF_ tabok (L:=[Qbd_e]) ⟨Qbd_w,trivial⟩ (keep:=(kk [0,2,3,4])) (l:=Qbe_l) Tryz.func112 Qbe_s fun av k h=>by
 unfold Qbe at h;split at h
 ·exact km h
 ·exact h.elim
def Qbf:GM
 | [.agg u0],k=>un 2 (fun a0 a1 =>
  call Qbc [.one a0] fun o0 =>
  rt [.own true 3 1,.sc] [(atP o0 0),a1] k) u0
 | _,_=>False
abbrev Qbf_e:Ent:=⟨[142],Qbf⟩
theorem Qbf_w:EntOK Tryz.prog TT Qbf_e:=okF_ tabok (L:=[Qbc_e]) ⟨Qbc_w,trivial⟩ (keep:=[]) (l:=[]) Tryz.func142 trivial fun av k h=>by
 unfold Qbf at h;split at h
 ·apply un_all h;clear h;intro a0 a1 h;exact km h
 ·exact h.elim
def Qbg:GM
 | [.agg u0],k=>un 16 (fun a0 a1 a2 a3 a4 a5 a6 a7 a8 a9 a10 a11 a12 a13 a14 a15 =>
  call Qbf [.agg [a8,a9]] fun o0 =>
  call Qbf [.agg [a10,a11]] fun o1 =>
  call Qbf [.agg [a13,a14]] fun o2 =>
  rt [.sc,.sc,.sc,.sc,.sc,.sc,.sc,.sc,.own true 3 1,.sc,.own true 3 1,.sc,.sc,.own true 3 1,.sc,.sc] [a0,a1,a2,a3,a4,a5,a6,a7,(atP o0 0),(atP o0 1),(atP o1 0),(atP o1 1),a12,(atP o2 0),(atP o2 1),a15] k) u0
 | _,_=>False
abbrev Qbg_e:Ent:=⟨[57],Qbg⟩
theorem Qbg_w:EntOK Tryz.prog TT Qbg_e:=okF_ tabok (L:=[Qbf_e]) ⟨Qbf_w,trivial⟩ (keep:=[]) (l:=[]) Tryz.func57 trivial fun av k h=>by
 unfold Qbg at h;split at h
 ·apply un_all h;clear h;intro a0 a1 a2 a3 a4 a5 a6 a7 a8 a9 a10 a11 a12 a13 a14 a15 h;exact km h
 ·exact h.elim
def Qbh:GM
 | [.agg u0],k=>un 2 (fun a0 a1 =>
  rt [.sc,.sc] [a0,a1] k) u0
 | _,_=>False
abbrev Qbh_e:Ent:=⟨[316],Qbh⟩
theorem Qbh_w:EntOK Tryz.prog TT Qbh_e:=okF_ tabok (L:=[]) trivial (keep:=[]) (l:=[]) Tryz.func316 trivial fun av k h=>by
 unfold Qbh at h;split at h
 ·apply un_all h;clear h;intro a0 a1 h;exact km h
 ·exact h.elim
def Qbi_r0 (v:List PV) (K:List PV→Prop) (x0k:PV→PV→PV→PV→Prop):Prop :=
 un 4 (fun v0 v1 v2 v3 =>
  lenP v0 fun r0 =>
  binP .lss v1 r0 fun r1 =>
  iteP r1
   (elemP 2 v0 v1 fun c2 =>
   call Qbh [.agg [(atP c2 0),(atP c2 1)]] fun o3 =>
   boundP 2 v3 v1 fun n4 =>
   (flatCond [.pv (I 0),.pv (I 0)] [.pv (atP o3 0),.pv (atP o3 1)])∧setP v3 n4 0 [(atP o3 0),(atP o3 1)] fun r5 =>
   binP .add v1 (I 1) fun r6 =>
   K [v0,r6,v2,r5])
   (x0k v0 v1 v2 v3)) v
def Qbi:GM
 | [.one a0],k =>
  lenP a0 fun r0 =>
  (r0=r0)∧(2=2)∧makeP 2 r0 [(I 0),(I 0)] fun r1 =>
  lp (fun L w=>Qbi_r0 w L
   (fun q7 q8 q9 q10=>rt [.own true 317 2] [q10] k)) [a0,(I 0),(.list 2 []),r1]
 | _,_=>False
abbrev Qbi_e:Ent:=⟨[257],Qbi⟩
def Qbi_l:List LE:=[⟨none,0,⟨[(0,.one zB),(2,.one (.own 1)),(3,.one (.own 0)),(4,.one zB)],[],[(1,⟨.deep,317,2,(.bool false)⟩),(0,⟨.deep,317,2,(.bool false)⟩)],2,23,[]⟩,fun K k v=>Qbi_r0 v K (fun x0 x1 x2 x3=>k (.exit 0) ⟨[(0,.one (.pv x0)),(2,.one (.own 1)),(3,.one (.own 0)),(4,.one (.pv x1))],[],[(1,⟨.deep,317,2,x2⟩),(0,⟨.deep,317,2,x3⟩)],2,23,[]⟩)⟩]
theorem Qbi_s:LEsOK [Qbh_e] TT.nofl (kk [0,2,3,4]) Qbi_l Tryz.f257 Qbi_l:=⟨fun v K k h=>by
 apply un_all h;exact fun v0 v1 v2 v3 h=>km h
 ,trivial⟩
theorem Qbi_w:EntOK Tryz.prog TT Qbi_e:=okF_ tabok (L:=[Qbh_e]) ⟨Qbh_w,trivial⟩ (keep:=(kk [0,2,3,4])) (l:=Qbi_l) Tryz.func257 Qbi_s fun av k h=>by
 unfold Qbi at h;split at h
 ·exact km h
 ·exact h.elim
def Qbj:GM
 | [.agg u0],k=>un 17 (fun a0 a1 a2 a3 a4 a5 a6 a7 a8 a9 a10 a11 a12 a13 a14 a15 a16 =>
  call Qbg [.agg [a0,a1,a2,a3,a4,a5,a6,a7,a8,a9,a10,a11,a12,a13,a14,a15]] fun o0 =>
  call Qbi [.one a16] fun o1 =>
  rt [.sc,.sc,.sc,.sc,.sc,.sc,.sc,.sc,.own true 3 1,.sc,.own true 3 1,.sc,.sc,.own true 3 1,.sc,.sc,.own true 317 2] [(atP o0 0),(atP o0 1),(atP o0 2),(atP o0 3),(atP o0 4),(atP o0 5),(atP o0 6),(atP o0 7),(atP o0 8),(atP o0 9),(atP o0 10),(atP o0 11),(atP o0 12),(atP o0 13),(atP o0 14),(atP o0 15),(atP o1 0)] k) u0
 | _,_=>False
abbrev Qbj_e:Ent:=⟨[195],Qbj⟩
theorem Qbj_w:EntOK Tryz.prog TT Qbj_e:=okF_ tabok (L:=[Qbg_e,Qbi_e]) ⟨Qbg_w,Qbi_w,trivial⟩ (keep:=[]) (l:=[]) Tryz.func195 trivial fun av k h=>by
 unfold Qbj at h;split at h
 ·apply un_all h;clear h;intro a0 a1 a2 a3 a4 a5 a6 a7 a8 a9 a10 a11 a12 a13 a14 a15 a16 h;exact km h
 ·exact h.elim
def Qbk_r0 (v:List PV) (K:List PV→Prop) (x0k:PV→PV→PV→PV→Prop):Prop :=
 un 4 (fun v0 v1 v2 v3 =>
  lenP v0 fun r0 =>
  binP .lss v1 r0 fun r1 =>
  iteP r1
   (elemP 17 v0 v1 fun c2 =>
   call Qbj [.agg [(atP c2 0),(atP c2 1),(atP c2 2),(atP c2 3),(atP c2 4),(atP c2 5),(atP c2 6),(atP c2 7),(atP c2 8),(atP c2 9),(atP c2 10),(atP c2 11),(atP c2 12),(atP c2 13),(atP c2 14),(atP c2 15),(atP c2 16)]] fun o3 =>
   boundP 17 v3 v1 fun n4 =>
   (flatCond [.pv (I 0),.pv (I 0),.pv (I 0),.pv (I 0),.pv (I 0),.pv (I 0),.pv (I 0),.pv (I 0),.nil 3 1,.pv (I 0),.nil 3 1,.pv (I 0),.pv (I 0),.nil 3 1,.pv (I 0),zB,.nil 317 2] [.pv (atP o3 0),.pv (atP o3 1),.pv (atP o3 2),.pv (atP o3 3),.pv (atP o3 4),.pv (atP o3 5),.pv (atP o3 6),.pv (atP o3 7),.own 10,.pv (atP o3 9),.own 12,.pv (atP o3 11),.pv (atP o3 12),.own 15,.pv (atP o3 14),.pv (atP o3 15),.own 18])∧setP v3 n4 0 [(atP o3 0),(atP o3 1),(atP o3 2),(atP o3 3),(atP o3 4),(atP o3 5),(atP o3 6),(atP o3 7),(atP o3 8),(atP o3 9),(atP o3 10),(atP o3 11),(atP o3 12),(atP o3 13),(atP o3 14),(atP o3 15),(atP o3 16)] fun r5 =>
   binP .add v1 (I 1) fun r6 =>
   K [v0,r6,v2,r5])
   (x0k v0 v1 v2 v3)) v
def Qbk:GM
 | [.one a0],k =>
  lenP a0 fun r0 =>
  (r0=r0)∧(17=17)∧makeP 17 r0 [(I 0),(I 0),(I 0),(I 0),(I 0),(I 0),(I 0),(I 0),(.list 1 []),(I 0),(.list 1 []),(I 0),(I 0),(.list 1 []),(I 0),(.bool false),(.list 2 [])] fun r1 =>
  lp (fun L w=>Qbk_r0 w L
   (fun q7 q8 q9 q10=>rt [.own true 257 17] [q10] k)) [a0,(I 0),(.list 17 []),r1]
 | _,_=>False
abbrev Qbk_e:Ent:=⟨[116],Qbk⟩
def Qbk_l:List LE:=[⟨none,0,⟨[(0,.one zB),(2,.one (.own 1)),(3,.one (.own 0)),(4,.one zB)],[],[(1,⟨.deep,257,17,(.bool false)⟩),(0,⟨.deep,257,17,(.bool false)⟩)],2,23,[]⟩,fun K k v=>Qbk_r0 v K (fun x0 x1 x2 x3=>k (.exit 0) ⟨[(0,.one (.pv x0)),(2,.one (.own 1)),(3,.one (.own 0)),(4,.one (.pv x1))],[],[(1,⟨.deep,257,17,x2⟩),(0,⟨.deep,257,17,x3⟩)],2,23,[]⟩)⟩]
theorem Qbk_s:LEsOK [Qbj_e] TT.nofl (kk [0,2,3,4]) Qbk_l Tryz.f116 Qbk_l:=⟨fun v K k h=>by
 apply un_all h;exact fun v0 v1 v2 v3 h=>km h
 ,trivial⟩
theorem Qbk_w:EntOK Tryz.prog TT Qbk_e:=okF_ tabok (L:=[Qbj_e]) ⟨Qbj_w,trivial⟩ (keep:=(kk [0,2,3,4])) (l:=Qbk_l) Tryz.func116 Qbk_s fun av k h=>by
 unfold Qbk at h;split at h
 ·exact km h
 ·exact h.elim
def Qbl_r0 (v:List PV) (K:List PV→Prop) (x0k:PV→PV→PV→PV→Prop):Prop :=
 un 4 (fun v0 v1 v2 v3 =>
  lenP v0 fun r0 =>
  binP .lss v1 r0 fun r1 =>
  iteP r1
   (elemP 1 v0 v1 fun c2 =>
   boundP 1 v3 v1 fun n3 =>
   (flatCond [.pv (.str ⟨#[]⟩)] [.pv (atP c2 0)])∧setP v3 n3 0 [(atP c2 0)] fun r4 =>
   binP .add v1 (I 1) fun r5 =>
   K [v0,r5,v2,r4])
   (x0k v0 v1 v2 v3)) v
def Qbl:GM
 | [.one a0],k =>
  lenP a0 fun r0 =>
  (r0=r0)∧(1=1)∧makeP 1 r0 [(.str ⟨#[]⟩)] fun r1 =>
  lp (fun L w=>Qbl_r0 w L
   (fun q6 q7 q8 q9=>rt [.own true 9 1] [q9] k)) [a0,(I 0),(.list 1 []),r1]
 | _,_=>False
abbrev Qbl_e:Ent:=⟨[19],Qbl⟩
def Qbl_l:List LE:=[⟨none,0,⟨[(0,.one zB),(2,.one (.own 1)),(3,.one (.own 0)),(4,.one zB)],[],[(1,⟨.deep,9,1,(.bool false)⟩),(0,⟨.deep,9,1,(.bool false)⟩)],2,22,[]⟩,fun K k v=>Qbl_r0 v K (fun x0 x1 x2 x3=>k (.exit 0) ⟨[(0,.one (.pv x0)),(2,.one (.own 1)),(3,.one (.own 0)),(4,.one (.pv x1))],[],[(1,⟨.deep,9,1,x2⟩),(0,⟨.deep,9,1,x3⟩)],2,22,[]⟩)⟩]
theorem Qbl_s:LEsOK [] TT.nofl (kk [0,2,3,4]) Qbl_l Tryz.f19 Qbl_l:=⟨fun v K k h=>by
 apply un_all h;exact fun v0 v1 v2 v3 h=>km h
 ,trivial⟩
theorem Qbl_w:EntOK Tryz.prog TT Qbl_e:=okF_ tabok (L:=[]) trivial (keep:=(kk [0,2,3,4])) (l:=Qbl_l) Tryz.func19 Qbl_s fun av k h=>by
 unfold Qbl at h;split at h
 ·exact km h
 ·exact h.elim
def Qbm:GM
 | [.agg u0],k=>un 4 (fun a0 a1 a2 a3 =>
  call Qbl [.one a3] fun o0 =>
  rt [.sc,.sc,.sc,.own true 9 1] [a0,a1,a2,(atP o0 0)] k) u0
 | _,_=>False
abbrev Qbm_e:Ent:=⟨[143],Qbm⟩
theorem Qbm_w:EntOK Tryz.prog TT Qbm_e:=okF_ tabok (L:=[Qbl_e]) ⟨Qbl_w,trivial⟩ (keep:=[]) (l:=[]) Tryz.func143 trivial fun av k h=>by
 unfold Qbm at h;split at h
 ·apply un_all h;clear h;intro a0 a1 a2 a3 h;exact km h
 ·exact h.elim
def Qbn_r0 (v:List PV) (K:List PV→Prop) (x0k:PV→PV→PV→PV→Prop):Prop :=
 un 4 (fun v0 v1 v2 v3 =>
  lenP v0 fun r0 =>
  binP .lss v1 r0 fun r1 =>
  iteP r1
   (elemP 4 v0 v1 fun c2 =>
   call Qbm [.agg [(atP c2 0),(atP c2 1),(atP c2 2),(atP c2 3)]] fun o3 =>
   boundP 4 v3 v1 fun n4 =>
   (flatCond [.pv (.str ⟨#[]⟩),.pv (I 0),.pv (I 0),.nil 9 1] [.pv (atP o3 0),.pv (atP o3 1),.pv (atP o3 2),.own 5])∧setP v3 n4 0 [(atP o3 0),(atP o3 1),(atP o3 2),(atP o3 3)] fun r5 =>
   binP .add v1 (I 1) fun r6 =>
   K [v0,r6,v2,r5])
   (x0k v0 v1 v2 v3)) v
def Qbn:GM
 | [.one a0],k =>
  lenP a0 fun r0 =>
  (r0=r0)∧(4=4)∧makeP 4 r0 [(.str ⟨#[]⟩),(I 0),(I 0),(.list 1 [])] fun r1 =>
  lp (fun L w=>Qbn_r0 w L
   (fun q7 q8 q9 q10=>rt [.own true 57 4] [q10] k)) [a0,(I 0),(.list 4 []),r1]
 | _,_=>False
abbrev Qbn_e:Ent:=⟨[58],Qbn⟩
def Qbn_l:List LE:=[⟨none,0,⟨[(0,.one zB),(2,.one (.own 1)),(3,.one (.own 0)),(4,.one zB)],[],[(1,⟨.deep,57,4,(.bool false)⟩),(0,⟨.deep,57,4,(.bool false)⟩)],2,23,[]⟩,fun K k v=>Qbn_r0 v K (fun x0 x1 x2 x3=>k (.exit 0) ⟨[(0,.one (.pv x0)),(2,.one (.own 1)),(3,.one (.own 0)),(4,.one (.pv x1))],[],[(1,⟨.deep,57,4,x2⟩),(0,⟨.deep,57,4,x3⟩)],2,23,[]⟩)⟩]
theorem Qbn_s:LEsOK [Qbm_e] TT.nofl (kk [0,2,3,4]) Qbn_l Tryz.f58 Qbn_l:=⟨fun v K k h=>by
 apply un_all h;exact fun v0 v1 v2 v3 h=>km h
 ,trivial⟩
theorem Qbn_w:EntOK Tryz.prog TT Qbn_e:=okF_ tabok (L:=[Qbm_e]) ⟨Qbm_w,trivial⟩ (keep:=(kk [0,2,3,4])) (l:=Qbn_l) Tryz.func58 Qbn_s fun av k h=>by
 unfold Qbn at h;split at h
 ·exact km h
 ·exact h.elim
def Qbo:GM
 | [.agg u0],k=>un 2 (fun a0 a1 =>
  call Qbk [.one a0] fun o0 =>
  call Qbn [.one a1] fun o1 =>
  rt [.own true 257 17,.own true 57 4] [(atP o0 0),(atP o1 0)] k) u0
 | _,_=>False
abbrev Qbo_e:Ent:=⟨[40],Qbo⟩
theorem Qbo_w:EntOK Tryz.prog TT Qbo_e:=okF_ tabok (L:=[Qbk_e,Qbn_e]) ⟨Qbk_w,Qbn_w,trivial⟩ (keep:=[]) (l:=[]) Tryz.func40 trivial fun av k h=>by
 unfold Qbo at h;split at h
 ·apply un_all h;clear h;intro a0 a1 h;exact km h
 ·exact h.elim
def Qbp_r0 (v:List PV) (K:List PV→Prop) (x0k:PV→PV→PV→PV→Prop):Prop :=
 un 4 (fun v0 v1 v2 v3 =>
  lenP v0 fun r0 =>
  binP .lss v1 r0 fun r1 =>
  iteP r1
   (elemP 2 v0 v1 fun c2 =>
   call Qbo [.agg [(atP c2 0),(atP c2 1)]] fun o3 =>
   boundP 2 v3 v1 fun n4 =>
   (flatCond [.nil 257 17,.nil 57 4] [.own 2,.own 3])∧setP v3 n4 0 [(atP o3 0),(atP o3 1)] fun r5 =>
   binP .add v1 (I 1) fun r6 =>
   K [v0,r6,v2,r5])
   (x0k v0 v1 v2 v3)) v
def Qbp:GM
 | [.one a0],k =>
  lenP a0 fun r0 =>
  (r0=r0)∧(2=2)∧makeP 2 r0 [(.list 17 []),(.list 4 [])] fun r1 =>
  lp (fun L w=>Qbp_r0 w L
   (fun q7 q8 q9 q10=>rt [.own true 93 2] [q10] k)) [a0,(I 0),(.list 2 []),r1]
 | _,_=>False
abbrev Qbp_e:Ent:=⟨[113],Qbp⟩
def Qbp_l:List LE:=[⟨none,0,⟨[(0,.one zB),(2,.one (.own 1)),(3,.one (.own 0)),(4,.one zB)],[],[(1,⟨.deep,93,2,(.bool false)⟩),(0,⟨.deep,93,2,(.bool false)⟩)],2,23,[]⟩,fun K k v=>Qbp_r0 v K (fun x0 x1 x2 x3=>k (.exit 0) ⟨[(0,.one (.pv x0)),(2,.one (.own 1)),(3,.one (.own 0)),(4,.one (.pv x1))],[],[(1,⟨.deep,93,2,x2⟩),(0,⟨.deep,93,2,x3⟩)],2,23,[]⟩)⟩]
theorem Qbp_s:LEsOK [Qbo_e] TT.nofl (kk [0,2,3,4]) Qbp_l Tryz.f113 Qbp_l:=⟨fun v K k h=>by
 apply un_all h;exact fun v0 v1 v2 v3 h=>km h
 ,trivial⟩
theorem Qbp_w:EntOK Tryz.prog TT Qbp_e:=okF_ tabok (L:=[Qbo_e]) ⟨Qbo_w,trivial⟩ (keep:=(kk [0,2,3,4])) (l:=Qbp_l) Tryz.func113 Qbp_s fun av k h=>by
 unfold Qbp at h;split at h
 ·exact km h
 ·exact h.elim
def Qbq:GM
 | [.agg u0],k=>un 3 (fun a0 a1 a2 =>
  call Qbo [.agg [a0,a1]] fun o0 =>
  call Qbc [.one a2] fun o1 =>
  rt [.own true 257 17,.own true 57 4,.own true 3 1] [(atP o0 0),(atP o0 1),(atP o1 0)] k) u0
 | _,_=>False
abbrev Qbq_e:Ent:=⟨[194],Qbq⟩
theorem Qbq_w:EntOK Tryz.prog TT Qbq_e:=okF_ tabok (L:=[Qbo_e,Qbc_e]) ⟨Qbo_w,Qbc_w,trivial⟩ (keep:=[]) (l:=[]) Tryz.func194 trivial fun av k h=>by
 unfold Qbq at h;split at h
 ·apply un_all h;clear h;intro a0 a1 a2 h;exact km h
 ·exact h.elim
def Qbr_r0 (v:List PV) (K:List PV→Prop) (x0k:PV→PV→PV→PV→Prop):Prop :=
 un 4 (fun v0 v1 v2 v3 =>
  lenP v0 fun r0 =>
  binP .lss v1 r0 fun r1 =>
  iteP r1
   (elemP 3 v0 v1 fun c2 =>
   call Qbq [.agg [(atP c2 0),(atP c2 1),(atP c2 2)]] fun o3 =>
   boundP 3 v3 v1 fun n4 =>
   (flatCond [.nil 257 17,.nil 57 4,.nil 3 1] [.own 2,.own 3,.own 4])∧setP v3 n4 0 [(atP o3 0),(atP o3 1),(atP o3 2)] fun r5 =>
   binP .add v1 (I 1) fun r6 =>
   K [v0,r6,v2,r5])
   (x0k v0 v1 v2 v3)) v
def Qbr:GM
 | [.one a0],k =>
  lenP a0 fun r0 =>
  (r0=r0)∧(3=3)∧makeP 3 r0 [(.list 17 []),(.list 4 []),(.list 1 [])] fun r1 =>
  lp (fun L w=>Qbr_r0 w L
   (fun q7 q8 q9 q10=>rt [.own true 197 3] [q10] k)) [a0,(I 0),(.list 3 []),r1]
 | _,_=>False
abbrev Qbr_e:Ent:=⟨[114],Qbr⟩
def Qbr_l:List LE:=[⟨none,0,⟨[(0,.one zB),(2,.one (.own 1)),(3,.one (.own 0)),(4,.one zB)],[],[(1,⟨.deep,197,3,(.bool false)⟩),(0,⟨.deep,197,3,(.bool false)⟩)],2,23,[]⟩,fun K k v=>Qbr_r0 v K (fun x0 x1 x2 x3=>k (.exit 0) ⟨[(0,.one (.pv x0)),(2,.one (.own 1)),(3,.one (.own 0)),(4,.one (.pv x1))],[],[(1,⟨.deep,197,3,x2⟩),(0,⟨.deep,197,3,x3⟩)],2,23,[]⟩)⟩]
theorem Qbr_s:LEsOK [Qbq_e] TT.nofl (kk [0,2,3,4]) Qbr_l Tryz.f114 Qbr_l:=⟨fun v K k h=>by
 apply un_all h;exact fun v0 v1 v2 v3 h=>km h
 ,trivial⟩
theorem Qbr_w:EntOK Tryz.prog TT Qbr_e:=okF_ tabok (L:=[Qbq_e]) ⟨Qbq_w,trivial⟩ (keep:=(kk [0,2,3,4])) (l:=Qbr_l) Tryz.func114 Qbr_s fun av k h=>by
 unfold Qbr at h;split at h
 ·exact km h
 ·exact h.elim
def Qbs:GM
 | [.agg u0],k=>un 2 (fun a0 a1 =>
  call Qbp [.one a0] fun o0 =>
  rt [.own true 93 2,.sc] [(atP o0 0),a1] k) u0
 | _,_=>False
abbrev Qbs_e:Ent:=⟨[71],Qbs⟩
theorem Qbs_w:EntOK Tryz.prog TT Qbs_e:=okF_ tabok (L:=[Qbp_e]) ⟨Qbp_w,trivial⟩ (keep:=[]) (l:=[]) Tryz.func71 trivial fun av k h=>by
 unfold Qbs at h;split at h
 ·apply un_all h;clear h;intro a0 a1 h;exact km h
 ·exact h.elim
def Qbt_r0 (v:List PV) (K:List PV→Prop) (x0k:PV→PV→PV→PV→Prop):Prop :=
 un 4 (fun v0 v1 v2 v3 =>
  lenP v0 fun r0 =>
  binP .lss v1 r0 fun r1 =>
  iteP r1
   (elemP 2 v0 v1 fun c2 =>
   call Qbs [.agg [(atP c2 0),(atP c2 1)]] fun o3 =>
   boundP 2 v3 v1 fun n4 =>
   (flatCond [.nil 93 2,.pv (I 0)] [.own 2,.pv (atP o3 1)])∧setP v3 n4 0 [(atP o3 0),(atP o3 1)] fun r5 =>
   binP .add v1 (I 1) fun r6 =>
   K [v0,r6,v2,r5])
   (x0k v0 v1 v2 v3)) v
def Qbt:GM
 | [.one a0],k =>
  lenP a0 fun r0 =>
  (r0=r0)∧(2=2)∧makeP 2 r0 [(.list 2 []),(I 0)] fun r1 =>
  lp (fun L w=>Qbt_r0 w L
   (fun q7 q8 q9 q10=>rt [.own true 136 2] [q10] k)) [a0,(I 0),(.list 2 []),r1]
 | _,_=>False
abbrev Qbt_e:Ent:=⟨[18],Qbt⟩
def Qbt_l:List LE:=[⟨none,0,⟨[(0,.one zB),(2,.one (.own 1)),(3,.one (.own 0)),(4,.one zB)],[],[(1,⟨.deep,136,2,(.bool false)⟩),(0,⟨.deep,136,2,(.bool false)⟩)],2,23,[]⟩,fun K k v=>Qbt_r0 v K (fun x0 x1 x2 x3=>k (.exit 0) ⟨[(0,.one (.pv x0)),(2,.one (.own 1)),(3,.one (.own 0)),(4,.one (.pv x1))],[],[(1,⟨.deep,136,2,x2⟩),(0,⟨.deep,136,2,x3⟩)],2,23,[]⟩)⟩]
theorem Qbt_s:LEsOK [Qbs_e] TT.nofl (kk [0,2,3,4]) Qbt_l Tryz.f18 Qbt_l:=⟨fun v K k h=>by
 apply un_all h;exact fun v0 v1 v2 v3 h=>km h
 ,trivial⟩
theorem Qbt_w:EntOK Tryz.prog TT Qbt_e:=okF_ tabok (L:=[Qbs_e]) ⟨Qbs_w,trivial⟩ (keep:=(kk [0,2,3,4])) (l:=Qbt_l) Tryz.func18 Qbt_s fun av k h=>by
 unfold Qbt at h;split at h
 ·exact km h
 ·exact h.elim
def Qbu_r0 (v:List PV) (K:List PV→Prop) (x0k:PV→PV→PV→PV→Prop):Prop :=
 un 4 (fun v0 v1 v2 v3 =>
  lenP v0 fun r0 =>
  binP .lss v1 r0 fun r1 =>
  iteP r1
   (elemP 1 v0 v1 fun c2 =>
   call Qbk [.one (atP c2 0)] fun o3 =>
   boundP 1 v3 v1 fun n4 =>
   (flatCond [.nil 257 17] [.own 2])∧setP v3 n4 0 [(atP o3 0)] fun r5 =>
   binP .add v1 (I 1) fun r6 =>
   K [v0,r6,v2,r5])
   (x0k v0 v1 v2 v3)) v
def Qbu:GM
 | [.one a0],k =>
  lenP a0 fun r0 =>
  (r0=r0)∧(1=1)∧makeP 1 r0 [(.list 17 [])] fun r1 =>
  lp (fun L w=>Qbu_r0 w L
   (fun q7 q8 q9 q10=>rt [.own true 90 1] [q10] k)) [a0,(I 0),(.list 1 []),r1]
 | _,_=>False
abbrev Qbu_e:Ent:=⟨[86],Qbu⟩
def Qbu_l:List LE:=[⟨none,0,⟨[(0,.one zB),(2,.one (.own 1)),(3,.one (.own 0)),(4,.one zB)],[],[(1,⟨.deep,90,1,(.bool false)⟩),(0,⟨.deep,90,1,(.bool false)⟩)],2,23,[]⟩,fun K k v=>Qbu_r0 v K (fun x0 x1 x2 x3=>k (.exit 0) ⟨[(0,.one (.pv x0)),(2,.one (.own 1)),(3,.one (.own 0)),(4,.one (.pv x1))],[],[(1,⟨.deep,90,1,x2⟩),(0,⟨.deep,90,1,x3⟩)],2,23,[]⟩)⟩]
theorem Qbu_s:LEsOK [Qbk_e] TT.nofl (kk [0,2,3,4]) Qbu_l Tryz.f86 Qbu_l:=⟨fun v K k h=>by
 apply un_all h;exact fun v0 v1 v2 v3 h=>km h
 ,trivial⟩
theorem Qbu_w:EntOK Tryz.prog TT Qbu_e:=okF_ tabok (L:=[Qbk_e]) ⟨Qbk_w,trivial⟩ (keep:=(kk [0,2,3,4])) (l:=Qbu_l) Tryz.func86 Qbu_s fun av k h=>by
 unfold Qbu at h;split at h
 ·exact km h
 ·exact h.elim
def Qbv:GM
 | [.agg u0],k=>un 51 (fun a0 a1 a2 a3 a4 a5 a6 a7 a8 a9 a10 a11 a12 a13 a14 a15 a16 a17 a18 a19 a20 a21 a22 a23 a24 a25 a26 a27 a28 a29 a30 a31 a32 a33 a34 a35 a36 a37 a38 a39 a40 a41 a42 a43 a44 a45 a46 a47 a48 a49 a50 =>
  call Qbj [.agg [a0,a1,a2,a3,a4,a5,a6,a7,a8,a9,a10,a11,a12,a13,a14,a15,a16]] fun o0 =>
  call Qbj [.agg [a17,a18,a19,a20,a21,a22,a23,a24,a25,a26,a27,a28,a29,a30,a31,a32,a33]] fun o1 =>
  call Qbj [.agg [a34,a35,a36,a37,a38,a39,a40,a41,a42,a43,a44,a45,a46,a47,a48,a49,a50]] fun o2 =>
  rt [.sc,.sc,.sc,.sc,.sc,.sc,.sc,.sc,.own true 3 1,.sc,.own true 3 1,.sc,.sc,.own true 3 1,.sc,.sc,.own true 317 2,.sc,.sc,.sc,.sc,.sc,.sc,.sc,.sc,.own true 3 1,.sc,.own true 3 1,.sc,.sc,.own true 3 1,.sc,.sc,.own true 317 2,.sc,.sc,.sc,.sc,.sc,.sc,.sc,.sc,.own true 3 1,.sc,.own true 3 1,.sc,.sc,.own true 3 1,.sc,.sc,.own true 317 2] [(atP o0 0),(atP o0 1),(atP o0 2),(atP o0 3),(atP o0 4),(atP o0 5),(atP o0 6),(atP o0 7),(atP o0 8),(atP o0 9),(atP o0 10),(atP o0 11),(atP o0 12),(atP o0 13),(atP o0 14),(atP o0 15),(atP o0 16),(atP o1 0),(atP o1 1),(atP o1 2),(atP o1 3),(atP o1 4),(atP o1 5),(atP o1 6),(atP o1 7),(atP o1 8),(atP o1 9),(atP o1 10),(atP o1 11),(atP o1 12),(atP o1 13),(atP o1 14),(atP o1 15),(atP o1 16),(atP o2 0),(atP o2 1),(atP o2 2),(atP o2 3),(atP o2 4),(atP o2 5),(atP o2 6),(atP o2 7),(atP o2 8),(atP o2 9),(atP o2 10),(atP o2 11),(atP o2 12),(atP o2 13),(atP o2 14),(atP o2 15),(atP o2 16)] k) u0
 | _,_=>False
abbrev Qbv_e:Ent:=⟨[176],Qbv⟩
theorem Qbv_w:EntOK Tryz.prog TT Qbv_e:=okF_ tabok (L:=[Qbj_e]) ⟨Qbj_w,trivial⟩ (keep:=[]) (l:=[]) Tryz.func176 trivial fun av k h=>by
 unfold Qbv at h;split at h
 ·apply un_all h;clear h;intro a0 a1 a2 a3 a4 a5 a6 a7 a8 a9 a10 a11 a12 a13 a14 a15 a16 a17 a18 a19 a20 a21 a22 a23 a24 a25 a26 a27 a28 a29 a30 a31 a32 a33 a34 a35 a36 a37 a38 a39 a40 a41 a42 a43 a44 a45 a46 a47 a48 a49 a50 h;exact km h
 ·exact h.elim
def Qbw_r0 (v:List PV) (K:List PV→Prop) (x0k:PV→PV→PV→PV→Prop):Prop :=
 un 4 (fun v0 v1 v2 v3 =>
  lenP v0 fun r0 =>
  binP .lss v1 r0 fun r1 =>
  iteP r1
   (elemP 51 v0 v1 fun c2 =>
   call Qbv [.agg [(atP c2 0),(atP c2 1),(atP c2 2),(atP c2 3),(atP c2 4),(atP c2 5),(atP c2 6),(atP c2 7),(atP c2 8),(atP c2 9),(atP c2 10),(atP c2 11),(atP c2 12),(atP c2 13),(atP c2 14),(atP c2 15),(atP c2 16),(atP c2 17),(atP c2 18),(atP c2 19),(atP c2 20),(atP c2 21),(atP c2 22),(atP c2 23),(atP c2 24),(atP c2 25),(atP c2 26),(atP c2 27),(atP c2 28),(atP c2 29),(atP c2 30),(atP c2 31),(atP c2 32),(atP c2 33),(atP c2 34),(atP c2 35),(atP c2 36),(atP c2 37),(atP c2 38),(atP c2 39),(atP c2 40),(atP c2 41),(atP c2 42),(atP c2 43),(atP c2 44),(atP c2 45),(atP c2 46),(atP c2 47),(atP c2 48),(atP c2 49),(atP c2 50)]] fun o3 =>
   boundP 51 v3 v1 fun n4 =>
   (flatCond [.pv (I 0),.pv (I 0),.pv (I 0),.pv (I 0),.pv (I 0),.pv (I 0),.pv (I 0),.pv (I 0),.nil 3 1,.pv (I 0),.nil 3 1,.pv (I 0),.pv (I 0),.nil 3 1,.pv (I 0),zB,.nil 317 2,.pv (I 0),.pv (I 0),.pv (I 0),.pv (I 0),.pv (I 0),.pv (I 0),.pv (I 0),.pv (I 0),.nil 3 1,.pv (I 0),.nil 3 1,.pv (I 0),.pv (I 0),.nil 3 1,.pv (I 0),zB,.nil 317 2,.pv (I 0),.pv (I 0),.pv (I 0),.pv (I 0),.pv (I 0),.pv (I 0),.pv (I 0),.pv (I 0),.nil 3 1,.pv (I 0),.nil 3 1,.pv (I 0),.pv (I 0),.nil 3 1,.pv (I 0),zB,.nil 317 2] [.pv (atP o3 0),.pv (atP o3 1),.pv (atP o3 2),.pv (atP o3 3),.pv (atP o3 4),.pv (atP o3 5),.pv (atP o3 6),.pv (atP o3 7),.own 10,.pv (atP o3 9),.own 12,.pv (atP o3 11),.pv (atP o3 12),.own 15,.pv (atP o3 14),.pv (atP o3 15),.own 18,.pv (atP o3 17),.pv (atP o3 18),.pv (atP o3 19),.pv (atP o3 20),.pv (atP o3 21),.pv (atP o3 22),.pv (atP o3 23),.pv (atP o3 24),.own 27,.pv (atP o3 26),.own 29,.pv (atP o3 28),.pv (atP o3 29),.own 32,.pv (atP o3 31),.pv (atP o3 32),.own 35,.pv (atP o3 34),.pv (atP o3 35),.pv (atP o3 36),.pv (atP o3 37),.pv (atP o3 38),.pv (atP o3 39),.pv (atP o3 40),.pv (atP o3 41),.own 44,.pv (atP o3 43),.own 46,.pv (atP o3 45),.pv (atP o3 46),.own 49,.pv (atP o3 48),.pv (atP o3 49),.own 52])∧setP v3 n4 0 [(atP o3 0),(atP o3 1),(atP o3 2),(atP o3 3),(atP o3 4),(atP o3 5),(atP o3 6),(atP o3 7),(atP o3 8),(atP o3 9),(atP o3 10),(atP o3 11),(atP o3 12),(atP o3 13),(atP o3 14),(atP o3 15),(atP o3 16),(atP o3 17),(atP o3 18),(atP o3 19),(atP o3 20),(atP o3 21),(atP o3 22),(atP o3 23),(atP o3 24),(atP o3 25),(atP o3 26),(atP o3 27),(atP o3 28),(atP o3 29),(atP o3 30),(atP o3 31),(atP o3 32),(atP o3 33),(atP o3 34),(atP o3 35),(atP o3 36),(atP o3 37),(atP o3 38),(atP o3 39),(atP o3 40),(atP o3 41),(atP o3 42),(atP o3 43),(atP o3 44),(atP o3 45),(atP o3 46),(atP o3 47),(atP o3 48),(atP o3 49),(atP o3 50)] fun r5 =>
   binP .add v1 (I 1) fun r6 =>
   K [v0,r6,v2,r5])
   (x0k v0 v1 v2 v3)) v
def Qbw:GM
 | [.one a0],k =>
  lenP a0 fun r0 =>
  (r0=r0)∧(51=51)∧makeP 51 r0 [(I 0),(I 0),(I 0),(I 0),(I 0),(I 0),(I 0),(I 0),(.list 1 []),(I 0),(.list 1 []),(I 0),(I 0),(.list 1 []),(I 0),(.bool false),(.list 2 []),(I 0),(I 0),(I 0),(I 0),(I 0),(I 0),(I 0),(I 0),(.list 1 []),(I 0),(.list 1 []),(I 0),(I 0),(.list 1 []),(I 0),(.bool false),(.list 2 []),(I 0),(I 0),(I 0),(I 0),(I 0),(I 0),(I 0),(I 0),(.list 1 []),(I 0),(.list 1 []),(I 0),(I 0),(.list 1 []),(I 0),(.bool false),(.list 2 [])] fun r1 =>
  lp (fun L w=>Qbw_r0 w L
   (fun q7 q8 q9 q10=>rt [.own true 259 51] [q10] k)) [a0,(I 0),(.list 51 []),r1]
 | _,_=>False
abbrev Qbw_e:Ent:=⟨[87],Qbw⟩
def Qbw_l:List LE:=[⟨none,0,⟨[(0,.one zB),(2,.one (.own 1)),(3,.one (.own 0)),(4,.one zB)],[],[(1,⟨.deep,259,51,(.bool false)⟩),(0,⟨.deep,259,51,(.bool false)⟩)],2,23,[]⟩,fun K k v=>Qbw_r0 v K (fun x0 x1 x2 x3=>k (.exit 0) ⟨[(0,.one (.pv x0)),(2,.one (.own 1)),(3,.one (.own 0)),(4,.one (.pv x1))],[],[(1,⟨.deep,259,51,x2⟩),(0,⟨.deep,259,51,x3⟩)],2,23,[]⟩)⟩]
theorem Qbw_s:LEsOK [Qbv_e] TT.nofl (kk [0,2,3,4]) Qbw_l Tryz.f87 Qbw_l:=⟨fun v K k h=>by
 apply un_all h;exact fun v0 v1 v2 v3 h=>km h
 ,trivial⟩
theorem Qbw_w:EntOK Tryz.prog TT Qbw_e:=okF_ tabok (L:=[Qbv_e]) ⟨Qbv_w,trivial⟩ (keep:=(kk [0,2,3,4])) (l:=Qbw_l) Tryz.func87 Qbw_s fun av k h=>by
 unfold Qbw at h;split at h
 ·exact km h
 ·exact h.elim
def Qbx:GM
 | [.agg u0],k=>un 2 (fun a0 a1 =>
  call Qbu [.one a0] fun o0 =>
  call Qbw [.one a1] fun o1 =>
  rt [.own true 90 1,.own true 259 51] [(atP o0 0),(atP o1 0)] k) u0
 | _,_=>False
abbrev Qbx_e:Ent:=⟨[29],Qbx⟩
theorem Qbx_w:EntOK Tryz.prog TT Qbx_e:=okF_ tabok (L:=[Qbu_e,Qbw_e]) ⟨Qbu_w,Qbw_w,trivial⟩ (keep:=[]) (l:=[]) Tryz.func29 trivial fun av k h=>by
 unfold Qbx at h;split at h
 ·apply un_all h;clear h;intro a0 a1 h;exact km h
 ·exact h.elim
def Qby:GM
 | [.agg u0],k=>un 2 (fun a0 a1 =>
  call Qbc [.one a1] fun o0 =>
  rt [.sc,.own true 3 1] [a0,(atP o0 0)] k) u0
 | _,_=>False
abbrev Qby_e:Ent:=⟨[277],Qby⟩
theorem Qby_w:EntOK Tryz.prog TT Qby_e:=okF_ tabok (L:=[Qbc_e]) ⟨Qbc_w,trivial⟩ (keep:=[]) (l:=[]) Tryz.func277 trivial fun av k h=>by
 unfold Qby at h;split at h
 ·apply un_all h;clear h;intro a0 a1 h;exact km h
 ·exact h.elim
def Qbz:GM
 | [.agg u0],k=>un 13 (fun a0 a1 a2 a3 a4 a5 a6 a7 a8 a9 a10 a11 a12 =>
  call Qbm [.agg [a1,a2,a3,a4]] fun o0 =>
  call Qbm [.agg [a5,a6,a7,a8]] fun o1 =>
  call Qby [.agg [a9,a10]] fun o2 =>
  call Qby [.agg [a11,a12]] fun o3 =>
  rt [.sc,.sc,.sc,.sc,.own true 9 1,.sc,.sc,.sc,.own true 9 1,.sc,.own true 3 1,.sc,.own true 3 1] [a0,(atP o0 0),(atP o0 1),(atP o0 2),(atP o0 3),(atP o1 0),(atP o1 1),(atP o1 2),(atP o1 3),(atP o2 0),(atP o2 1),(atP o3 0),(atP o3 1)] k) u0
 | _,_=>False
abbrev Qbz_e:Ent:=⟨[278],Qbz⟩
theorem Qbz_w:EntOK Tryz.prog TT Qbz_e:=okF_ tabok (L:=[Qbm_e,Qby_e]) ⟨Qbm_w,Qby_w,trivial⟩ (keep:=[]) (l:=[]) Tryz.func278 trivial fun av k h=>by
 unfold Qbz at h;split at h
 ·apply un_all h;clear h;intro a0 a1 a2 a3 a4 a5 a6 a7 a8 a9 a10 a11 a12 h;exact km h
 ·exact h.elim
def Qca:GM
 | [.agg u0],k=>un 21 (fun a0 a1 a2 a3 a4 a5 a6 a7 a8 a9 a10 a11 a12 a13 a14 a15 a16 a17 a18 a19 a20 =>
  call Qbk [.one a0] fun o0 =>
  call Qbm [.agg [a2,a3,a4,a5]] fun o1 =>
  call Qby [.agg [a6,a7]] fun o2 =>
  call Qbz [.agg [a8,a9,a10,a11,a12,a13,a14,a15,a16,a17,a18,a19,a20]] fun o3 =>
  rt [.own true 257 17,.sc,.sc,.sc,.sc,.own true 9 1,.sc,.own true 3 1,.sc,.sc,.sc,.sc,.own true 9 1,.sc,.sc,.sc,.own true 9 1,.sc,.own true 3 1,.sc,.own true 3 1] [(atP o0 0),a1,(atP o1 0),(atP o1 1),(atP o1 2),(atP o1 3),(atP o2 0),(atP o2 1),(atP o3 0),(atP o3 1),(atP o3 2),(atP o3 3),(atP o3 4),(atP o3 5),(atP o3 6),(atP o3 7),(atP o3 8),(atP o3 9),(atP o3 10),(atP o3 11),(atP o3 12)] k) u0
 | _,_=>False
abbrev Qca_e:Ent:=⟨[219],Qca⟩
theorem Qca_w:EntOK Tryz.prog TT Qca_e:=okF_ tabok (L:=[Qbk_e,Qbm_e,Qby_e,Qbz_e]) ⟨Qbk_w,Qbm_w,Qby_w,Qbz_w,trivial⟩ (keep:=[]) (l:=[]) Tryz.func219 trivial fun av k h=>by
 unfold Qca at h;split at h
 ·apply un_all h;clear h;intro a0 a1 a2 a3 a4 a5 a6 a7 a8 a9 a10 a11 a12 a13 a14 a15 a16 a17 a18 a19 a20 h;exact km h
 ·exact h.elim
def Qcb:GM
 | [.agg u0],k=>un 23 (fun a0 a1 a2 a3 a4 a5 a6 a7 a8 a9 a10 a11 a12 a13 a14 a15 a16 a17 a18 a19 a20 a21 a22 =>
  call Qca [.agg [a2,a3,a4,a5,a6,a7,a8,a9,a10,a11,a12,a13,a14,a15,a16,a17,a18,a19,a20,a21,a22]] fun o0 =>
  rt [.sc,.sc,.own true 257 17,.sc,.sc,.sc,.sc,.own true 9 1,.sc,.own true 3 1,.sc,.sc,.sc,.sc,.own true 9 1,.sc,.sc,.sc,.own true 9 1,.sc,.own true 3 1,.sc,.own true 3 1] [a0,a1,(atP o0 0),(atP o0 1),(atP o0 2),(atP o0 3),(atP o0 4),(atP o0 5),(atP o0 6),(atP o0 7),(atP o0 8),(atP o0 9),(atP o0 10),(atP o0 11),(atP o0 12),(atP o0 13),(atP o0 14),(atP o0 15),(atP o0 16),(atP o0 17),(atP o0 18),(atP o0 19),(atP o0 20)] k) u0
 | _,_=>False
abbrev Qcb_e:Ent:=⟨[148],Qcb⟩
theorem Qcb_w:EntOK Tryz.prog TT Qcb_e:=okF_ tabok (L:=[Qca_e]) ⟨Qca_w,trivial⟩ (keep:=[]) (l:=[]) Tryz.func148 trivial fun av k h=>by
 unfold Qcb at h;split at h
 ·apply un_all h;clear h;intro a0 a1 a2 a3 a4 a5 a6 a7 a8 a9 a10 a11 a12 a13 a14 a15 a16 a17 a18 a19 a20 a21 a22 h;exact km h
 ·exact h.elim
def Qcc_r0 (v:List PV) (K:List PV→Prop) (x0k:PV→PV→PV→PV→Prop):Prop :=
 un 4 (fun v0 v1 v2 v3 =>
  lenP v0 fun r0 =>
  binP .lss v1 r0 fun r1 =>
  iteP r1
   (elemP 23 v0 v1 fun c2 =>
   call Qcb [.agg [(atP c2 0),(atP c2 1),(atP c2 2),(atP c2 3),(atP c2 4),(atP c2 5),(atP c2 6),(atP c2 7),(atP c2 8),(atP c2 9),(atP c2 10),(atP c2 11),(atP c2 12),(atP c2 13),(atP c2 14),(atP c2 15),(atP c2 16),(atP c2 17),(atP c2 18),(atP c2 19),(atP c2 20),(atP c2 21),(atP c2 22)]] fun o3 =>
   boundP 23 v3 v1 fun n4 =>
   (flatCond [.pv (I 0),.pv (.str ⟨#[]⟩),.nil 257 17,zB,.pv (.str ⟨#[]⟩),.pv (I 0),.pv (I 0),.nil 9 1,.pv (I 0),.nil 3 1,.pv (I 0),.pv (.str ⟨#[]⟩),.pv (I 0),.pv (I 0),.nil 9 1,.pv (.str ⟨#[]⟩),.pv (I 0),.pv (I 0),.nil 9 1,.pv (I 0),.nil 3 1,.pv (I 0),.nil 3 1] [.pv (atP o3 0),.pv (atP o3 1),.own 4,.pv (atP o3 3),.pv (atP o3 4),.pv (atP o3 5),.pv (atP o3 6),.own 9,.pv (atP o3 8),.own 11,.pv (atP o3 10),.pv (atP o3 11),.pv (atP o3 12),.pv (atP o3 13),.own 16,.pv (atP o3 15),.pv (atP o3 16),.pv (atP o3 17),.own 20,.pv (atP o3 19),.own 22,.pv (atP o3 21),.own 24])∧setP v3 n4 0 [(atP o3 0),(atP o3 1),(atP o3 2),(atP o3 3),(atP o3 4),(atP o3 5),(atP o3 6),(atP o3 7),(atP o3 8),(atP o3 9),(atP o3 10),(atP o3 11),(atP o3 12),(atP o3 13),(atP o3 14),(atP o3 15),(atP o3 16),(atP o3 17),(atP o3 18),(atP o3 19),(atP o3 20),(atP o3 21),(atP o3 22)] fun r5 =>
   binP .add v1 (I 1) fun r6 =>
   K [v0,r6,v2,r5])
   (x0k v0 v1 v2 v3)) v
def Qcc:GM
 | [.one a0],k =>
  lenP a0 fun r0 =>
  (r0=r0)∧(23=23)∧makeP 23 r0 [(I 0),(.str ⟨#[]⟩),(.list 17 []),(.bool false),(.str ⟨#[]⟩),(I 0),(I 0),(.list 1 []),(I 0),(.list 1 []),(I 0),(.str ⟨#[]⟩),(I 0),(I 0),(.list 1 []),(.str ⟨#[]⟩),(I 0),(I 0),(.list 1 []),(I 0),(.list 1 []),(I 0),(.list 1 [])] fun r1 =>
  lp (fun L w=>Qcc_r0 w L
   (fun q7 q8 q9 q10=>rt [.own true 221 23] [q10] k)) [a0,(I 0),(.list 23 []),r1]
 | _,_=>False
abbrev Qcc_e:Ent:=⟨[65],Qcc⟩
def Qcc_l:List LE:=[⟨none,0,⟨[(0,.one zB),(2,.one (.own 1)),(3,.one (.own 0)),(4,.one zB)],[],[(1,⟨.deep,221,23,(.bool false)⟩),(0,⟨.deep,221,23,(.bool false)⟩)],2,23,[]⟩,fun K k v=>Qcc_r0 v K (fun x0 x1 x2 x3=>k (.exit 0) ⟨[(0,.one (.pv x0)),(2,.one (.own 1)),(3,.one (.own 0)),(4,.one (.pv x1))],[],[(1,⟨.deep,221,23,x2⟩),(0,⟨.deep,221,23,x3⟩)],2,23,[]⟩)⟩]
theorem Qcc_s:LEsOK [Qcb_e] TT.nofl (kk [0,2,3,4]) Qcc_l Tryz.f65 Qcc_l:=⟨fun v K k h=>by
 apply un_all h;exact fun v0 v1 v2 v3 h=>km h
 ,trivial⟩
theorem Qcc_w:EntOK Tryz.prog TT Qcc_e:=okF_ tabok (L:=[Qcb_e]) ⟨Qcb_w,trivial⟩ (keep:=(kk [0,2,3,4])) (l:=Qcc_l) Tryz.func65 Qcc_s fun av k h=>by
 unfold Qcc at h;split at h
 ·exact km h
 ·exact h.elim
def Qcd:GM
 | [.agg u0],k=>un 1 (fun a0 =>
  call Qcc [.one a0] fun o0 =>
  rt [.own true 221 23] [(atP o0 0)] k) u0
 | _,_=>False
abbrev Qcd_e:Ent:=⟨[115],Qcd⟩
theorem Qcd_w:EntOK Tryz.prog TT Qcd_e:=okF_ tabok (L:=[Qcc_e]) ⟨Qcc_w,trivial⟩ (keep:=[]) (l:=[]) Tryz.func115 trivial fun av k h=>by
 unfold Qcd at h;split at h
 ·apply un_all h;clear h;intro a0 h;exact km h
 ·exact h.elim
def Qce:GM
 | [.agg u0],k=>un 8 (fun a0 a1 a2 a3 a4 a5 a6 a7 =>
  call Qbe [.one a1] fun o0 =>
  call Qbp [.one a2] fun o1 =>
  call Qbr [.one a3] fun o2 =>
  call Qbt [.one a4] fun o3 =>
  call Qbx [.agg [a5,a6]] fun o4 =>
  call Qcd [.agg [a7]] fun o5 =>
  rt [.sc,.own true 195 1,.own true 93 2,.own true 197 3,.own true 136 2,.own true 90 1,.own true 259 51,.own true 221 23] [a0,(atP o0 0),(atP o1 0),(atP o2 0),(atP o3 0),(atP o4 0),(atP o4 1),(atP o5 0)] k) u0
 | _,_=>False
abbrev Qce_e:Ent:=⟨[39],Qce⟩
theorem Qce_w:EntOK Tryz.prog TT Qce_e:=okF_ tabok (L:=[Qbe_e,Qbp_e,Qbr_e,Qbt_e,Qbx_e,Qcd_e]) ⟨Qbe_w,Qbp_w,Qbr_w,Qbt_w,Qbx_w,Qcd_w,trivial⟩ (keep:=[]) (l:=[]) Tryz.func39 trivial fun av k h=>by
 unfold Qce at h;split at h
 ·apply un_all h;clear h;intro a0 a1 a2 a3 a4 a5 a6 a7 h;exact km h
 ·exact h.elim
def Qcf_r0 (v:List PV) (K:List PV→Prop) (x0k:PV→PV→PV→PV→Prop):Prop :=
 un 4 (fun v0 v1 v2 v3 =>
  lenP v0 fun r0 =>
  binP .lss v1 r0 fun r1 =>
  iteP r1
   ((0=0)∧(0≤16777216)∧(1=1)∧elemP 1 v0 v1 fun c2 =>
   (flatRows (atP c2 0))∧catP 1 (.list 1 []) (atP c2 0) fun r3 =>
   (1=1)∧(1≤16777216)∧(1=1)∧(0=0)∧(1=1)∧(flatCond [.nil 3 1] [.own 3])∧catP 1 v3 (.list 1 [[r3]]) fun r4 =>
   binP .add v1 (I 1) fun r5 =>
   K [v0,r5,v2,r4])
   (x0k v0 v1 v2 v3)) v
def Qcf:GM
 | [.one a0],k =>
  (0=0)∧(0≤16777216)∧(1=1)∧lp (fun L w=>Qcf_r0 w L
   (fun q6 q7 q8 q9=>rt [.pv] [q9] k)) [a0,(I 0),(.list 1 []),(.list 1 [])]
 | _,_=>False
abbrev Qcf_e:Ent:=⟨[188],Qcf⟩
def Qcf_l:List LE:=[⟨none,0,⟨[(0,.one zB),(2,.one (.own 1)),(3,.one (.own 0)),(4,.one zB)],[],[(1,⟨.flat,195,1,(.bool false)⟩),(0,⟨.flat,195,1,(.bool false)⟩)],2,24,[]⟩,fun K k v=>Qcf_r0 v K (fun x0 x1 x2 x3=>k (.exit 0) ⟨[(0,.one (.pv x0)),(2,.one (.own 1)),(3,.one (.own 0)),(4,.one (.pv x1))],[],[(1,⟨.flat,195,1,x2⟩),(0,⟨.flat,195,1,x3⟩)],2,24,[]⟩)⟩]
theorem Qcf_s:LEsOK [] TT (kk [0,2,3,4]) Qcf_l Tryz.f188 Qcf_l:=⟨fun v K k h=>by
 apply un_all h;exact fun v0 v1 v2 v3 h=>km h
 ,trivial⟩
theorem Qcf_w:EntOK Tryz.prog TT Qcf_e:=ok_ tabok (L:=[]) trivial (keep:=(kk [0,2,3,4])) (l:=Qcf_l) Tryz.func188 Qcf_s fun av k h=>by
 unfold Qcf at h;split at h
 ·exact km h
 ·exact h.elim
def Qcg:GM
 | [.agg u0],k=>un 2 (fun a0 a1 =>
  catP 1 a0 (.list 1 []) fun r0 =>
  rt [.pv,.sc] [r0,a1] k) u0
 | _,_=>False
abbrev Qcg_e:Ent:=⟨[297],Qcg⟩
theorem Qcg_w:EntOK Tryz.prog TT Qcg_e:=ok_ tabok (L:=[]) trivial (keep:=[]) (l:=[]) Tryz.func297 trivial fun av k h=>by
 unfold Qcg at h;split at h
 ·apply un_all h;clear h;intro a0 a1 h;exact km h
 ·exact h.elim
def Qch:GM
 | [.agg u0],k=>un 16 (fun a0 a1 a2 a3 a4 a5 a6 a7 a8 a9 a10 a11 a12 a13 a14 a15 =>
  call Qcg [.agg [a8,a9]] fun o0 =>
  call Qcg [.agg [a10,a11]] fun o1 =>
  call Qcg [.agg [a13,a14]] fun o2 =>
  rt [.sc,.sc,.sc,.sc,.sc,.sc,.sc,.sc,.pv,.sc,.pv,.sc,.sc,.pv,.sc,.sc] [a0,a1,a2,a3,a4,a5,a6,a7,(atP o0 0),(atP o0 1),(atP o1 0),(atP o1 1),a12,(atP o2 0),(atP o2 1),a15] k) u0
 | _,_=>False
abbrev Qch_e:Ent:=⟨[238],Qch⟩
theorem Qch_w:EntOK Tryz.prog TT Qch_e:=ok_ tabok (L:=[Qcg_e]) ⟨Qcg_w,trivial⟩ (keep:=[]) (l:=[]) Tryz.func238 trivial fun av k h=>by
 unfold Qch at h;split at h
 ·apply un_all h;clear h;intro a0 a1 a2 a3 a4 a5 a6 a7 a8 a9 a10 a11 a12 a13 a14 a15 h;exact km h
 ·exact h.elim
def Qci:GM
 | [.agg u0],k=>un 17 (fun a0 a1 a2 a3 a4 a5 a6 a7 a8 a9 a10 a11 a12 a13 a14 a15 a16 =>
  call Qch [.agg [a0,a1,a2,a3,a4,a5,a6,a7,a8,a9,a10,a11,a12,a13,a14,a15]] fun o0 =>
  catP 2 a16 (.list 2 []) fun r1 =>
  rt [.sc,.sc,.sc,.sc,.sc,.sc,.sc,.sc,.pv,.sc,.pv,.sc,.sc,.pv,.sc,.sc,.pv] [(atP o0 0),(atP o0 1),(atP o0 2),(atP o0 3),(atP o0 4),(atP o0 5),(atP o0 6),(atP o0 7),(atP o0 8),(atP o0 9),(atP o0 10),(atP o0 11),(atP o0 12),(atP o0 13),(atP o0 14),(atP o0 15),r1] k) u0
 | _,_=>False
abbrev Qci_e:Ent:=⟨[256],Qci⟩
theorem Qci_w:EntOK Tryz.prog TT Qci_e:=ok_ tabok (L:=[Qch_e]) ⟨Qch_w,trivial⟩ (keep:=[]) (l:=[]) Tryz.func256 trivial fun av k h=>by
 unfold Qci at h;split at h
 ·apply un_all h;clear h;intro a0 a1 a2 a3 a4 a5 a6 a7 a8 a9 a10 a11 a12 a13 a14 a15 a16 h;exact km h
 ·exact h.elim
def Qcj_r0 (v:List PV) (K:List PV→Prop) (x0k:PV→PV→PV→PV→Prop):Prop :=
 un 4 (fun v0 v1 v2 v3 =>
  lenP v0 fun r0 =>
  binP .lss v1 r0 fun r1 =>
  iteP r1
   (elemP 17 v0 v1 fun c2 =>
   call Qci [.agg [(atP c2 0),(atP c2 1),(atP c2 2),(atP c2 3),(atP c2 4),(atP c2 5),(atP c2 6),(atP c2 7),(atP c2 8),(atP c2 9),(atP c2 10),(atP c2 11),(atP c2 12),(atP c2 13),(atP c2 14),(atP c2 15),(atP c2 16)]] fun o3 =>
   (1=1)∧(17≤16777216)∧(17=17)∧(0=0)∧(17=17)∧catP 17 v3 (.list 17 [[(atP o3 0),(atP o3 1),(atP o3 2),(atP o3 3),(atP o3 4),(atP o3 5),(atP o3 6),(atP o3 7),(atP o3 8),(atP o3 9),(atP o3 10),(atP o3 11),(atP o3 12),(atP o3 13),(atP o3 14),(atP o3 15),(atP o3 16)]]) fun r4 =>
   binP .add v1 (I 1) fun r5 =>
   K [v0,r5,v2,r4])
   (x0k v0 v1 v2 v3)) v
def Qcj:GM
 | [.one a0],k =>
  (0=0)∧(0≤16777216)∧(17=17)∧lp (fun L w=>Qcj_r0 w L
   (fun q6 q7 q8 q9=>rt [.pv] [q9] k)) [a0,(I 0),(.list 17 []),(.list 17 [])]
 | _,_=>False
abbrev Qcj_e:Ent:=⟨[191],Qcj⟩
def Qcj_l:List LE:=[⟨none,0,⟨[(0,.one zB),(2,.one (.own 1)),(3,.one (.own 0)),(4,.one zB)],[],[(1,⟨.flat,257,17,(.bool false)⟩),(0,⟨.flat,257,17,(.bool false)⟩)],2,21,[]⟩,fun K k v=>Qcj_r0 v K (fun x0 x1 x2 x3=>k (.exit 0) ⟨[(0,.one (.pv x0)),(2,.one (.own 1)),(3,.one (.own 0)),(4,.one (.pv x1))],[],[(1,⟨.flat,257,17,x2⟩),(0,⟨.flat,257,17,x3⟩)],2,21,[]⟩)⟩]
theorem Qcj_s:LEsOK [Qci_e] TT (kk [0,2,3,4]) Qcj_l Tryz.f191 Qcj_l:=⟨fun v K k h=>by
 apply un_all h;exact fun v0 v1 v2 v3 h=>km h
 ,trivial⟩
theorem Qcj_w:EntOK Tryz.prog TT Qcj_e:=ok_ tabok (L:=[Qci_e]) ⟨Qci_w,trivial⟩ (keep:=(kk [0,2,3,4])) (l:=Qcj_l) Tryz.func191 Qcj_s fun av k h=>by
 unfold Qcj at h;split at h
 ·exact km h
 ·exact h.elim
def Qck:GM
 | [.agg u0],k=>un 51 (fun a0 a1 a2 a3 a4 a5 a6 a7 a8 a9 a10 a11 a12 a13 a14 a15 a16 a17 a18 a19 a20 a21 a22 a23 a24 a25 a26 a27 a28 a29 a30 a31 a32 a33 a34 a35 a36 a37 a38 a39 a40 a41 a42 a43 a44 a45 a46 a47 a48 a49 a50 =>
  call Qci [.agg [a0,a1,a2,a3,a4,a5,a6,a7,a8,a9,a10,a11,a12,a13,a14,a15,a16]] fun o0 =>
  call Qci [.agg [a17,a18,a19,a20,a21,a22,a23,a24,a25,a26,a27,a28,a29,a30,a31,a32,a33]] fun o1 =>
  call Qci [.agg [a34,a35,a36,a37,a38,a39,a40,a41,a42,a43,a44,a45,a46,a47,a48,a49,a50]] fun o2 =>
  rt [.sc,.sc,.sc,.sc,.sc,.sc,.sc,.sc,.pv,.sc,.pv,.sc,.sc,.pv,.sc,.sc,.pv,.sc,.sc,.sc,.sc,.sc,.sc,.sc,.sc,.pv,.sc,.pv,.sc,.sc,.pv,.sc,.sc,.pv,.sc,.sc,.sc,.sc,.sc,.sc,.sc,.sc,.pv,.sc,.pv,.sc,.sc,.pv,.sc,.sc,.pv] [(atP o0 0),(atP o0 1),(atP o0 2),(atP o0 3),(atP o0 4),(atP o0 5),(atP o0 6),(atP o0 7),(atP o0 8),(atP o0 9),(atP o0 10),(atP o0 11),(atP o0 12),(atP o0 13),(atP o0 14),(atP o0 15),(atP o0 16),(atP o1 0),(atP o1 1),(atP o1 2),(atP o1 3),(atP o1 4),(atP o1 5),(atP o1 6),(atP o1 7),(atP o1 8),(atP o1 9),(atP o1 10),(atP o1 11),(atP o1 12),(atP o1 13),(atP o1 14),(atP o1 15),(atP o1 16),(atP o2 0),(atP o2 1),(atP o2 2),(atP o2 3),(atP o2 4),(atP o2 5),(atP o2 6),(atP o2 7),(atP o2 8),(atP o2 9),(atP o2 10),(atP o2 11),(atP o2 12),(atP o2 13),(atP o2 14),(atP o2 15),(atP o2 16)] k) u0
 | _,_=>False
abbrev Qck_e:Ent:=⟨[221],Qck⟩
theorem Qck_w:EntOK Tryz.prog TT Qck_e:=ok_ tabok (L:=[Qci_e]) ⟨Qci_w,trivial⟩ (keep:=[]) (l:=[]) Tryz.func221 trivial fun av k h=>by
 unfold Qck at h;split at h
 ·apply un_all h;clear h;intro a0 a1 a2 a3 a4 a5 a6 a7 a8 a9 a10 a11 a12 a13 a14 a15 a16 a17 a18 a19 a20 a21 a22 a23 a24 a25 a26 a27 a28 a29 a30 a31 a32 a33 a34 a35 a36 a37 a38 a39 a40 a41 a42 a43 a44 a45 a46 a47 a48 a49 a50 h;exact km h
 ·exact h.elim
def Qcl_r0 (v:List PV) (K:List PV→Prop) (x0k:PV→PV→PV→PV→PV→PV→PV→Prop):Prop :=
 un 7 (fun v0 v1 v2 v3 v4 v5 v6 =>
  lenP v1 fun r0 =>
  binP .lss v0 r0 fun r1 =>
  iteP r1
   (elemP 1 v1 v0 fun c2 =>
   call Qcj [.one (atP c2 0)] fun o3 =>
   (1=1)∧(1≤16777216)∧(1=1)∧(0=0)∧(1=1)∧catP 1 v6 (.list 1 [[(atP o3 0)]]) fun r4 =>
   binP .add v0 (I 1) fun r5 =>
   K [r5,v1,v2,v3,v4,v5,r4])
   (x0k v0 v1 v2 v3 v4 v5 v6)) v
def Qcl_r1 (v:List PV) (K:List PV→Prop) (x0k:PV→PV→PV→PV→PV→PV→PV→PV→Prop):Prop :=
 un 8 (fun v0 v1 v2 v3 v4 v5 v6 v7 =>
  lenP v3 fun r0 =>
  binP .lss v1 r0 fun r1 =>
  iteP r1
   (elemP 51 v3 v1 fun c2 =>
   call Qck [.agg [(atP c2 0),(atP c2 1),(atP c2 2),(atP c2 3),(atP c2 4),(atP c2 5),(atP c2 6),(atP c2 7),(atP c2 8),(atP c2 9),(atP c2 10),(atP c2 11),(atP c2 12),(atP c2 13),(atP c2 14),(atP c2 15),(atP c2 16),(atP c2 17),(atP c2 18),(atP c2 19),(atP c2 20),(atP c2 21),(atP c2 22),(atP c2 23),(atP c2 24),(atP c2 25),(atP c2 26),(atP c2 27),(atP c2 28),(atP c2 29),(atP c2 30),(atP c2 31),(atP c2 32),(atP c2 33),(atP c2 34),(atP c2 35),(atP c2 36),(atP c2 37),(atP c2 38),(atP c2 39),(atP c2 40),(atP c2 41),(atP c2 42),(atP c2 43),(atP c2 44),(atP c2 45),(atP c2 46),(atP c2 47),(atP c2 48),(atP c2 49),(atP c2 50)]] fun o3 =>
   (1=1)∧(51≤16777216)∧(51=51)∧(0=0)∧(51=51)∧catP 51 v6 (.list 51 [[(atP o3 0),(atP o3 1),(atP o3 2),(atP o3 3),(atP o3 4),(atP o3 5),(atP o3 6),(atP o3 7),(atP o3 8),(atP o3 9),(atP o3 10),(atP o3 11),(atP o3 12),(atP o3 13),(atP o3 14),(atP o3 15),(atP o3 16),(atP o3 17),(atP o3 18),(atP o3 19),(atP o3 20),(atP o3 21),(atP o3 22),(atP o3 23),(atP o3 24),(atP o3 25),(atP o3 26),(atP o3 27),(atP o3 28),(atP o3 29),(atP o3 30),(atP o3 31),(atP o3 32),(atP o3 33),(atP o3 34),(atP o3 35),(atP o3 36),(atP o3 37),(atP o3 38),(atP o3 39),(atP o3 40),(atP o3 41),(atP o3 42),(atP o3 43),(atP o3 44),(atP o3 45),(atP o3 46),(atP o3 47),(atP o3 48),(atP o3 49),(atP o3 50)]]) fun r4 =>
   binP .add v1 (I 1) fun r5 =>
   K [v0,r5,v2,v3,v4,v5,r4,v7])
   (x0k v0 v1 v2 v3 v4 v5 v6 v7)) v
def Qcl:GM
 | [.agg u0],k=>un 2 (fun a0 a1 =>
  lp (fun L w=>Qcl_r0 w L
   (fun q6 q7 q8 q9 q10 q11 q12=>lp (fun L w=>Qcl_r1 w L
    (fun q13 q14 q15 q16 q17 q18 q19 q20=>rt [.own false 90 1,.own false 259 51] [q20,q19] k)) [q6,(I 0),q7,q8,q9,q10,q11,q12])) [(I 0),a0,a1,(.list 51 []),(.list 1 []),(.list 51 []),(.list 1 [])]) u0
 | _,_=>False
abbrev Qcl_e:Ent:=⟨[150],Qcl⟩
def Qcl_l:List LE:=[⟨none,0,⟨[(1,.one (.ptr 0 0)),(2,.one (.ptr 1 0)),(3,.one (.ptr 2 0)),(4,.one zB)],[(2,[.own 3,.own 4]),(1,[.own 5,.own 6]),(0,[zB,zB])],[(6,⟨.flat,259,51,(.bool false)⟩),(5,⟨.flat,90,1,(.bool false)⟩),(4,⟨.flat,259,51,(.bool false)⟩),(3,⟨.flat,90,1,(.bool false)⟩)],7,44,[]⟩,fun K k v=>Qcl_r0 v K (fun x0 x1 x2 x3 x4 x5 x6=>k (.exit 0) ⟨[(1,.one (.ptr 0 0)),(2,.one (.ptr 1 0)),(3,.one (.ptr 2 0)),(4,.one (.pv x0))],[(2,[.own 3,.own 4]),(1,[.own 5,.own 6]),(0,[.pv x1,.pv x2])],[(6,⟨.flat,259,51,x3⟩),(5,⟨.flat,90,1,x4⟩),(4,⟨.flat,259,51,x5⟩),(3,⟨.flat,90,1,x6⟩)],7,44,[]⟩)⟩,
 ⟨none,1,⟨[(1,.one (.ptr 0 0)),(2,.one (.ptr 1 0)),(3,.one (.ptr 2 0)),(4,.one zB),(5,.one zB)],[(2,[.own 3,.own 4]),(1,[.own 5,.own 6]),(0,[zB,zB])],[(6,⟨.flat,259,51,(.bool false)⟩),(5,⟨.flat,90,1,(.bool false)⟩),(4,⟨.flat,259,51,(.bool false)⟩),(3,⟨.flat,90,1,(.bool false)⟩)],7,44,[]⟩,fun K k v=>Qcl_r1 v K (fun x0 x1 x2 x3 x4 x5 x6 x7=>k (.exit 2) ⟨[(1,.one (.ptr 0 0)),(2,.one (.ptr 1 0)),(3,.one (.ptr 2 0)),(4,.one (.pv x0)),(5,.one (.pv x1))],[(2,[.own 3,.own 4]),(1,[.own 5,.own 6]),(0,[.pv x2,.pv x3])],[(6,⟨.flat,259,51,x4⟩),(5,⟨.flat,90,1,x5⟩),(4,⟨.flat,259,51,x6⟩),(3,⟨.flat,90,1,x7⟩)],7,44,[]⟩)⟩]
theorem Qcl_s:LEsOK [Qcj_e,Qck_e] TT (kk [1,2,3,4,5]) Qcl_l Tryz.f150 Qcl_l:=⟨fun v K k h=>by
 apply un_all h;exact fun v0 v1 v2 v3 v4 v5 v6 h=>km h
 ,fun v K k h=>by
 apply un_all h;exact fun v0 v1 v2 v3 v4 v5 v6 v7 h=>km h
 ,trivial⟩
theorem Qcl_w:EntOK Tryz.prog TT Qcl_e:=ok_ tabok (L:=[Qcj_e,Qck_e]) ⟨Qcj_w,Qck_w,trivial⟩ (keep:=(kk [1,2,3,4,5])) (l:=Qcl_l) Tryz.func150 Qcl_s fun av k h=>by
 unfold Qcl at h;split at h
 ·apply un_all h;clear h;intro a0 a1 h;exact km h
 ·exact h.elim
def Qcm:GM
 | [.one a0],k =>
  (0=0)∧(0≤16777216)∧(1=1)∧(flatRows a0)∧catP 1 (.list 1 []) a0 fun r0 =>
  rt [.own false 9 1] [r0] k
 | _,_=>False
abbrev Qcm_e:Ent:=⟨[70],Qcm⟩
theorem Qcm_w:EntOK Tryz.prog TT Qcm_e:=okM_ tabok (L:=[]) trivial (keep:=[]) (l:=[]) Tryz.func70 trivial fun av k h=>by
 unfold Qcm at h;split at h
 ·exact km h
 ·exact h.elim
def Qcn:GM
 | [.agg u0],k=>un 4 (fun a0 a1 a2 a3 =>
  call Qcm [.one a3] fun o0 =>
  rt [.sc,.sc,.sc,.pv] [a0,a1,a2,(atP o0 0)] k) u0
 | _,_=>False
abbrev Qcn_e:Ent:=⟨[175],Qcn⟩
theorem Qcn_w:EntOK Tryz.prog TT Qcn_e:=ok_ tabok (L:=[Qcm_e]) ⟨Qcm_w,trivial⟩ (keep:=[]) (l:=[]) Tryz.func175 trivial fun av k h=>by
 unfold Qcn at h;split at h
 ·apply un_all h;clear h;intro a0 a1 a2 a3 h;exact km h
 ·exact h.elim
def Qco:GM
 | [.agg u0],k=>un 2 (fun a0 a1 =>
  catP 1 a1 (.list 1 []) fun r0 =>
  rt [.sc,.pv] [a0,r0] k) u0
 | _,_=>False
abbrev Qco_e:Ent:=⟨[232],Qco⟩
theorem Qco_w:EntOK Tryz.prog TT Qco_e:=ok_ tabok (L:=[]) trivial (keep:=[]) (l:=[]) Tryz.func232 trivial fun av k h=>by
 unfold Qco at h;split at h
 ·apply un_all h;clear h;intro a0 a1 h;exact km h
 ·exact h.elim
def Qcp:GM
 | [.agg u0],k=>un 13 (fun a0 a1 a2 a3 a4 a5 a6 a7 a8 a9 a10 a11 a12 =>
  call Qcn [.agg [a1,a2,a3,a4]] fun o0 =>
  call Qcn [.agg [a5,a6,a7,a8]] fun o1 =>
  call Qco [.agg [a9,a10]] fun o2 =>
  call Qco [.agg [a11,a12]] fun o3 =>
  rt [.sc,.sc,.sc,.sc,.pv,.sc,.sc,.sc,.pv,.sc,.pv,.sc,.pv] [a0,(atP o0 0),(atP o0 1),(atP o0 2),(atP o0 3),(atP o1 0),(atP o1 1),(atP o1 2),(atP o1 3),(atP o2 0),(atP o2 1),(atP o3 0),(atP o3 1)] k) u0
 | _,_=>False
abbrev Qcp_e:Ent:=⟨[233],Qcp⟩
theorem Qcp_w:EntOK Tryz.prog TT Qcp_e:=ok_ tabok (L:=[Qcn_e,Qco_e]) ⟨Qcn_w,Qco_w,trivial⟩ (keep:=[]) (l:=[]) Tryz.func233 trivial fun av k h=>by
 unfold Qcp at h;split at h
 ·apply un_all h;clear h;intro a0 a1 a2 a3 a4 a5 a6 a7 a8 a9 a10 a11 a12 h;exact km h
 ·exact h.elim
def Qcq:GM
 | [.agg u0],k=>un 21 (fun a0 a1 a2 a3 a4 a5 a6 a7 a8 a9 a10 a11 a12 a13 a14 a15 a16 a17 a18 a19 a20 =>
  call Qcj [.one a0] fun o0 =>
  call Qcn [.agg [a2,a3,a4,a5]] fun o1 =>
  call Qco [.agg [a6,a7]] fun o2 =>
  call Qcp [.agg [a8,a9,a10,a11,a12,a13,a14,a15,a16,a17,a18,a19,a20]] fun o3 =>
  rt [.pv,.sc,.sc,.sc,.sc,.pv,.sc,.pv,.sc,.sc,.sc,.sc,.pv,.sc,.sc,.sc,.pv,.sc,.pv,.sc,.pv] [(atP o0 0),a1,(atP o1 0),(atP o1 1),(atP o1 2),(atP o1 3),(atP o2 0),(atP o2 1),(atP o3 0),(atP o3 1),(atP o3 2),(atP o3 3),(atP o3 4),(atP o3 5),(atP o3 6),(atP o3 7),(atP o3 8),(atP o3 9),(atP o3 10),(atP o3 11),(atP o3 12)] k) u0
 | _,_=>False
abbrev Qcq_e:Ent:=⟨[167],Qcq⟩
theorem Qcq_w:EntOK Tryz.prog TT Qcq_e:=ok_ tabok (L:=[Qcj_e,Qcn_e,Qco_e,Qcp_e]) ⟨Qcj_w,Qcn_w,Qco_w,Qcp_w,trivial⟩ (keep:=[]) (l:=[]) Tryz.func167 trivial fun av k h=>by
 unfold Qcq at h;split at h
 ·apply un_all h;clear h;intro a0 a1 a2 a3 a4 a5 a6 a7 a8 a9 a10 a11 a12 a13 a14 a15 a16 a17 a18 a19 a20 h;exact km h
 ·exact h.elim
def Qcr_r0 (v:List PV) (K:List PV→Prop) (x0k:PV→PV→PV→PV→Prop):Prop :=
 un 4 (fun v0 v1 v2 v3 =>
  lenP v1 fun r0 =>
  binP .lss v0 r0 fun r1 =>
  iteP r1
   (elemP 23 v1 v0 fun c2 =>
   elemP 23 v1 v0 fun c3 =>
   elemP 23 v1 v0 fun c4 =>
   call Qcq [.agg [(atP c4 2),(atP c4 3),(atP c4 4),(atP c4 5),(atP c4 6),(atP c4 7),(atP c4 8),(atP c4 9),(atP c4 10),(atP c4 11),(atP c4 12),(atP c4 13),(atP c4 14),(atP c4 15),(atP c4 16),(atP c4 17),(atP c4 18),(atP c4 19),(atP c4 20),(atP c4 21),(atP c4 22)]] fun o5 =>
   (1=1)∧(23≤16777216)∧(23=23)∧(0=0)∧(23=23)∧catP 23 v3 (.list 23 [[(atP c2 0),(atP c3 1),(atP o5 0),(atP o5 1),(atP o5 2),(atP o5 3),(atP o5 4),(atP o5 5),(atP o5 6),(atP o5 7),(atP o5 8),(atP o5 9),(atP o5 10),(atP o5 11),(atP o5 12),(atP o5 13),(atP o5 14),(atP o5 15),(atP o5 16),(atP o5 17),(atP o5 18),(atP o5 19),(atP o5 20)]]) fun r6 =>
   binP .add v0 (I 1) fun r7 =>
   K [r7,v1,v2,r6])
   (x0k v0 v1 v2 v3)) v
def Qcr:GM
 | [.agg u0],k=>un 1 (fun a0 =>
  lp (fun L w=>Qcr_r0 w L
   (fun q8 q9 q10 q11=>rt [.own false 221 23] [q11] k)) [(I 0),a0,(.list 23 []),(.list 23 [])]) u0
 | _,_=>False
abbrev Qcr_e:Ent:=⟨[151],Qcr⟩
def Qcr_l:List LE:=[⟨none,0,⟨[(1,.one (.ptr 0 0)),(2,.one (.ptr 1 0)),(3,.one (.ptr 2 0)),(4,.one zB)],[(2,[.own 3]),(1,[.own 4]),(0,[zB])],[(4,⟨.flat,221,23,(.bool false)⟩),(3,⟨.flat,221,23,(.bool false)⟩)],5,39,[]⟩,fun K k v=>Qcr_r0 v K (fun x0 x1 x2 x3=>k (.exit 0) ⟨[(1,.one (.ptr 0 0)),(2,.one (.ptr 1 0)),(3,.one (.ptr 2 0)),(4,.one (.pv x0))],[(2,[.own 3]),(1,[.own 4]),(0,[.pv x1])],[(4,⟨.flat,221,23,x2⟩),(3,⟨.flat,221,23,x3⟩)],5,39,[]⟩)⟩]
theorem Qcr_s:LEsOK [Qcq_e] TT (kk [1,2,3,4]) Qcr_l Tryz.f151 Qcr_l:=⟨fun v K k h=>by
 apply un_all h;exact fun v0 v1 v2 v3 h=>km h
 ,trivial⟩
theorem Qcr_w:EntOK Tryz.prog TT Qcr_e:=ok_ tabok (L:=[Qcq_e]) ⟨Qcq_w,trivial⟩ (keep:=(kk [1,2,3,4])) (l:=Qcr_l) Tryz.func151 Qcr_s fun av k h=>by
 unfold Qcr at h;split at h
 ·apply un_all h;clear h;intro a0 h;exact km h
 ·exact h.elim
def Qcs_r0 (v:List PV) (K:List PV→Prop) (x0k:PV→PV→PV→PV→Prop):Prop :=
 un 4 (fun v0 v1 v2 v3 =>
  lenP v0 fun r0 =>
  binP .lss v1 r0 fun r1 =>
  iteP r1
   (elemP 4 v0 v1 fun c2 =>
   call Qcn [.agg [(atP c2 0),(atP c2 1),(atP c2 2),(atP c2 3)]] fun o3 =>
   (1=1)∧(4≤16777216)∧(4=4)∧(0=0)∧(4=4)∧catP 4 v3 (.list 4 [[(atP o3 0),(atP o3 1),(atP o3 2),(atP o3 3)]]) fun r4 =>
   binP .add v1 (I 1) fun r5 =>
   K [v0,r5,v2,r4])
   (x0k v0 v1 v2 v3)) v
def Qcs:GM
 | [.one a0],k =>
  (0=0)∧(0≤16777216)∧(4=4)∧lp (fun L w=>Qcs_r0 w L
   (fun q6 q7 q8 q9=>rt [.pv] [q9] k)) [a0,(I 0),(.list 4 []),(.list 4 [])]
 | _,_=>False
abbrev Qcs_e:Ent:=⟨[192],Qcs⟩
def Qcs_l:List LE:=[⟨none,0,⟨[(0,.one zB),(2,.one (.own 1)),(3,.one (.own 0)),(4,.one zB)],[],[(1,⟨.flat,57,4,(.bool false)⟩),(0,⟨.flat,57,4,(.bool false)⟩)],2,21,[]⟩,fun K k v=>Qcs_r0 v K (fun x0 x1 x2 x3=>k (.exit 0) ⟨[(0,.one (.pv x0)),(2,.one (.own 1)),(3,.one (.own 0)),(4,.one (.pv x1))],[],[(1,⟨.flat,57,4,x2⟩),(0,⟨.flat,57,4,x3⟩)],2,21,[]⟩)⟩]
theorem Qcs_s:LEsOK [Qcn_e] TT (kk [0,2,3,4]) Qcs_l Tryz.f192 Qcs_l:=⟨fun v K k h=>by
 apply un_all h;exact fun v0 v1 v2 v3 h=>km h
 ,trivial⟩
theorem Qcs_w:EntOK Tryz.prog TT Qcs_e:=ok_ tabok (L:=[Qcn_e]) ⟨Qcn_w,trivial⟩ (keep:=(kk [0,2,3,4])) (l:=Qcs_l) Tryz.func192 Qcs_s fun av k h=>by
 unfold Qcs at h;split at h
 ·exact km h
 ·exact h.elim
def Qct:GM
 | [.agg u0],k=>un 2 (fun a0 a1 =>
  call Qcj [.one a0] fun o0 =>
  call Qcs [.one a1] fun o1 =>
  rt [.pv,.pv] [(atP o0 0),(atP o1 0)] k) u0
 | _,_=>False
abbrev Qct_e:Ent:=⟨[111],Qct⟩
theorem Qct_w:EntOK Tryz.prog TT Qct_e:=ok_ tabok (L:=[Qcj_e,Qcs_e]) ⟨Qcj_w,Qcs_w,trivial⟩ (keep:=[]) (l:=[]) Tryz.func111 trivial fun av k h=>by
 unfold Qct at h;split at h
 ·apply un_all h;clear h;intro a0 a1 h;exact km h
 ·exact h.elim
def Qcu_r0 (v:List PV) (K:List PV→Prop) (x0k:PV→PV→PV→PV→PV→PV→PV→Prop):Prop :=
 un 7 (fun v0 v1 v2 v3 v4 v5 v6 =>
  lenP v3 fun r0 =>
  binP .lss v0 r0 fun r1 =>
  iteP r1
   (elemP 2 v3 v0 fun c2 =>
   call Qct [.agg [(atP c2 0),(atP c2 1)]] fun o3 =>
   (1=1)∧(2≤16777216)∧(2=2)∧(0=0)∧(2=2)∧catP 2 v6 (.list 2 [[(atP o3 0),(atP o3 1)]]) fun r4 =>
   binP .add v0 (I 1) fun r5 =>
   K [r5,v1,v2,v3,v4,v5,r4])
   (x0k v0 v1 v2 v3 v4 v5 v6)) v
def Qcu:GM
 | [.agg u0],k=>un 2 (fun a0 a1 =>
  lp (fun L w=>Qcu_r0 w L
   (fun q6 q7 q8 q9 q10 q11 q12=>rt [.own false 93 2,.sc] [q12,q7] k)) [(I 0),a1,(I 0),a0,a1,(.list 2 []),(.list 2 [])]) u0
 | _,_=>False
abbrev Qcu_e:Ent:=⟨[189],Qcu⟩
def Qcu_l:List LE:=[⟨none,0,⟨[(1,.one (.ptr 0 0)),(2,.one (.ptr 1 0)),(3,.one (.ptr 2 0)),(4,.one zB)],[(2,[.own 3,zB]),(1,[.own 4,zB]),(0,[zB,zB])],[(4,⟨.flat,93,2,(.bool false)⟩),(3,⟨.flat,93,2,(.bool false)⟩)],5,27,[]⟩,fun K k v=>Qcu_r0 v K (fun x0 x1 x2 x3 x4 x5 x6=>k (.exit 0) ⟨[(1,.one (.ptr 0 0)),(2,.one (.ptr 1 0)),(3,.one (.ptr 2 0)),(4,.one (.pv x0))],[(2,[.own 3,.pv x1]),(1,[.own 4,.pv x2]),(0,[.pv x3,.pv x4])],[(4,⟨.flat,93,2,x5⟩),(3,⟨.flat,93,2,x6⟩)],5,27,[]⟩)⟩]
theorem Qcu_s:LEsOK [Qct_e] TT (kk [1,2,3,4]) Qcu_l Tryz.f189 Qcu_l:=⟨fun v K k h=>by
 apply un_all h;exact fun v0 v1 v2 v3 v4 v5 v6 h=>km h
 ,trivial⟩
theorem Qcu_w:EntOK Tryz.prog TT Qcu_e:=ok_ tabok (L:=[Qct_e]) ⟨Qct_w,trivial⟩ (keep:=(kk [1,2,3,4])) (l:=Qcu_l) Tryz.func189 Qcu_s fun av k h=>by
 unfold Qcu at h;split at h
 ·apply un_all h;clear h;intro a0 a1 h;exact km h
 ·exact h.elim
def Qcv_r0 (v:List PV) (K:List PV→Prop) (x0k:PV→PV→PV→PV→PV→PV→PV→PV→PV→PV→PV→PV→PV→PV→PV→PV→PV→PV→PV→PV→PV→PV→PV→PV→PV→Prop):Prop :=
 un 25 (fun v0 v1 v2 v3 v4 v5 v6 v7 v8 v9 v10 v11 v12 v13 v14 v15 v16 v17 v18 v19 v20 v21 v22 v23 v24 =>
  lenP v6 fun r0 =>
  binP .lss v0 r0 fun r1 =>
  iteP r1
   (elemP 2 v6 v0 fun c2 =>
   call Qct [.agg [(atP c2 0),(atP c2 1)]] fun o3 =>
   (1=1)∧(2≤16777216)∧(2=2)∧(0=0)∧(2=2)∧catP 2 v21 (.list 2 [[(atP o3 0),(atP o3 1)]]) fun r4 =>
   binP .add v0 (I 1) fun r5 =>
   K [r5,v1,v2,v3,v4,v5,v6,v7,v8,v9,v10,v11,v12,v13,v14,v15,v16,v17,v18,v19,v20,r4,v22,v23,v24])
   (x0k v0 v1 v2 v3 v4 v5 v6 v7 v8 v9 v10 v11 v12 v13 v14 v15 v16 v17 v18 v19 v20 v21 v22 v23 v24)) v
def Qcv_r1 (v:List PV) (K:List PV→Prop) (x0k:PV→PV→PV→PV→PV→PV→PV→PV→PV→PV→PV→PV→PV→PV→PV→PV→PV→PV→PV→PV→PV→PV→PV→PV→PV→PV→Prop):Prop :=
 un 26 (fun v0 v1 v2 v3 v4 v5 v6 v7 v8 v9 v10 v11 v12 v13 v14 v15 v16 v17 v18 v19 v20 v21 v22 v23 v24 v25 =>
  lenP v8 fun r0 =>
  binP .lss v1 r0 fun r1 =>
  iteP r1
   (elemP 3 v8 v1 fun c2 =>
   call Qct [.agg [(atP c2 0),(atP c2 1)]] fun o3 =>
   elemP 3 v8 v1 fun c4 =>
   catP 1 (atP c4 2) (.list 1 []) fun r5 =>
   (1=1)∧(3≤16777216)∧(3=3)∧(0=0)∧(3=3)∧catP 3 v21 (.list 3 [[(atP o3 0),(atP o3 1),r5]]) fun r6 =>
   binP .add v1 (I 1) fun r7 =>
   K [v0,r7,v2,v3,v4,v5,v6,v7,v8,v9,v10,v11,v12,v13,v14,v15,v16,v17,v18,v19,v20,r6,v22,v23,v24,v25])
   (x0k v0 v1 v2 v3 v4 v5 v6 v7 v8 v9 v10 v11 v12 v13 v14 v15 v16 v17 v18 v19 v20 v21 v22 v23 v24 v25)) v
def Qcv_r2 (v:List PV) (K:List PV→Prop) (x0k:PV→PV→PV→PV→PV→PV→PV→PV→PV→PV→PV→PV→PV→PV→PV→PV→PV→PV→PV→PV→PV→PV→PV→PV→PV→PV→PV→Prop):Prop :=
 un 27 (fun v0 v1 v2 v3 v4 v5 v6 v7 v8 v9 v10 v11 v12 v13 v14 v15 v16 v17 v18 v19 v20 v21 v22 v23 v24 v25 v26 =>
  lenP v10 fun r0 =>
  binP .lss v2 r0 fun r1 =>
  iteP r1
   (elemP 2 v10 v2 fun c2 =>
   call Qcu [.agg [(atP c2 0),(atP c2 1)]] fun o3 =>
   (1=1)∧(2≤16777216)∧(2=2)∧(0=0)∧(2=2)∧catP 2 v21 (.list 2 [[(atP o3 0),(atP o3 1)]]) fun r4 =>
   binP .add v2 (I 1) fun r5 =>
   K [v0,v1,r5,v3,v4,v5,v6,v7,v8,v9,v10,v11,v12,v13,v14,v15,v16,v17,v18,v19,v20,r4,v22,v23,v24,v25,v26])
   (x0k v0 v1 v2 v3 v4 v5 v6 v7 v8 v9 v10 v11 v12 v13 v14 v15 v16 v17 v18 v19 v20 v21 v22 v23 v24 v25 v26)) v
def Qcv:GM
 | [.agg u0],k=>un 8 (fun a0 a1 a2 a3 a4 a5 a6 a7 =>
  call Qcf [.one a1] fun o0 =>
  call Qcl [.agg [a5,a6]] fun o1 =>
  call Qcr [.agg [a7]] fun o2 =>
  lp (fun L w=>Qcv_r0 w L
   (fun q6 q7 q8 q9 q10 q11 q12 q13 q14 q15 q16 q17 q18 q19 q20 q21 q22 q23 q24 q25 q26 q27 q28 q29 q30=>lp (fun L w=>Qcv_r1 w L
    (fun q31 q32 q33 q34 q35 q36 q37 q38 q39 q40 q41 q42 q43 q44 q45 q46 q47 q48 q49 q50 q51 q52 q53 q54 q55 q56=>lp (fun L w=>Qcv_r2 w L
     (fun q57 q58 q59 q60 q61 q62 q63 q64 q65 q66 q67 q68 q69 q70 q71 q72 q73 q74 q75 q76 q77 q78 q79 q80 q81 q82 q83=>rt [.sc,.pv,.own false 93 2,.own false 197 3,.own false 136 2,.own false 90 1,.own false 259 51,.own false 221 23] [q60,q61,q80,q79,q78,q82,q83,q81] k)) [q31,q32,(I 0),q33,q34,q35,q36,q37,q38,q39,q40,q41,q42,q43,q44,q45,q46,q47,q48,q49,q50,q51,q52,q53,q54,q55,q56])) [q6,(I 0),q7,q8,q9,q10,q11,q12,q13,q14,q15,q16,q17,q18,q19,q20,q21,q22,q23,q24,q25,q26,q27,q28,q29,q30])) [(I 0),a0,(atP o0 0),(I 0),a0,a1,a2,a3,a4,a5,a6,a7,(.list 23 []),(.list 51 []),(.list 1 []),(.list 2 []),(.list 3 []),(.list 2 []),(.list 1 []),(.list 2 []),(.list 3 []),(.list 2 []),(atP o2 0),(atP o1 0),(atP o1 1)]) u0
 | _,_=>False
abbrev Qcv_e:Ent:=⟨[108],Qcv⟩
def Qcv_l:List LE:=[⟨none,0,⟨[(1,.one (.ptr 0 0)),(2,.one (.ptr 1 0)),(3,.one (.ptr 6 0)),(4,.one zB)],[(6,[zB,zB,.own 7,.own 8,.own 9,.own 3,.own 4,.own 5]),(1,[zB,.own 10,.own 11,.own 12,.own 13,.own 14,.own 15,.own 16]),(0,[zB,zB,zB,zB,zB,zB,zB,zB])],[(16,⟨.flat,221,23,(.bool false)⟩),(15,⟨.flat,259,51,(.bool false)⟩),(14,⟨.flat,90,1,(.bool false)⟩),(13,⟨.flat,136,2,(.bool false)⟩),(12,⟨.flat,197,3,(.bool false)⟩),(11,⟨.flat,93,2,(.bool false)⟩),(10,⟨.flat,195,1,(.bool false)⟩),(9,⟨.flat,136,2,(.bool false)⟩),(8,⟨.flat,197,3,(.bool false)⟩),(7,⟨.flat,93,2,(.bool false)⟩),(5,⟨.flat,221,23,(.bool false)⟩),(3,⟨.flat,90,1,(.bool false)⟩),(4,⟨.flat,259,51,(.bool false)⟩)],17,84,[]⟩,fun K k v=>Qcv_r0 v K (fun x0 x1 x2 x3 x4 x5 x6 x7 x8 x9 x10 x11 x12 x13 x14 x15 x16 x17 x18 x19 x20 x21 x22 x23 x24=>k (.exit 0) ⟨[(1,.one (.ptr 0 0)),(2,.one (.ptr 1 0)),(3,.one (.ptr 6 0)),(4,.one (.pv x0))],[(6,[.pv x1,.pv x2,.own 7,.own 8,.own 9,.own 3,.own 4,.own 5]),(1,[.pv x3,.own 10,.own 11,.own 12,.own 13,.own 14,.own 15,.own 16]),(0,[.pv x4,.pv x5,.pv x6,.pv x7,.pv x8,.pv x9,.pv x10,.pv x11])],[(16,⟨.flat,221,23,x12⟩),(15,⟨.flat,259,51,x13⟩),(14,⟨.flat,90,1,x14⟩),(13,⟨.flat,136,2,x15⟩),(12,⟨.flat,197,3,x16⟩),(11,⟨.flat,93,2,x17⟩),(10,⟨.flat,195,1,x18⟩),(9,⟨.flat,136,2,x19⟩),(8,⟨.flat,197,3,x20⟩),(7,⟨.flat,93,2,x21⟩),(5,⟨.flat,221,23,x22⟩),(3,⟨.flat,90,1,x23⟩),(4,⟨.flat,259,51,x24⟩)],17,84,[]⟩)⟩,
 ⟨none,1,⟨[(1,.one (.ptr 0 0)),(2,.one (.ptr 1 0)),(3,.one (.ptr 6 0)),(4,.one zB),(5,.one zB)],[(6,[zB,zB,.own 7,.own 8,.own 9,.own 3,.own 4,.own 5]),(1,[zB,.own 10,.own 11,.own 12,.own 13,.own 14,.own 15,.own 16]),(0,[zB,zB,zB,zB,zB,zB,zB,zB])],[(16,⟨.flat,221,23,(.bool false)⟩),(15,⟨.flat,259,51,(.bool false)⟩),(14,⟨.flat,90,1,(.bool false)⟩),(13,⟨.flat,136,2,(.bool false)⟩),(12,⟨.flat,197,3,(.bool false)⟩),(11,⟨.flat,93,2,(.bool false)⟩),(10,⟨.flat,195,1,(.bool false)⟩),(9,⟨.flat,136,2,(.bool false)⟩),(8,⟨.flat,197,3,(.bool false)⟩),(7,⟨.flat,93,2,(.bool false)⟩),(5,⟨.flat,221,23,(.bool false)⟩),(3,⟨.flat,90,1,(.bool false)⟩),(4,⟨.flat,259,51,(.bool false)⟩)],17,84,[]⟩,fun K k v=>Qcv_r1 v K (fun x0 x1 x2 x3 x4 x5 x6 x7 x8 x9 x10 x11 x12 x13 x14 x15 x16 x17 x18 x19 x20 x21 x22 x23 x24 x25=>k (.exit 2) ⟨[(1,.one (.ptr 0 0)),(2,.one (.ptr 1 0)),(3,.one (.ptr 6 0)),(4,.one (.pv x0)),(5,.one (.pv x1))],[(6,[.pv x2,.pv x3,.own 7,.own 8,.own 9,.own 3,.own 4,.own 5]),(1,[.pv x4,.own 10,.own 11,.own 12,.own 13,.own 14,.own 15,.own 16]),(0,[.pv x5,.pv x6,.pv x7,.pv x8,.pv x9,.pv x10,.pv x11,.pv x12])],[(16,⟨.flat,221,23,x13⟩),(15,⟨.flat,259,51,x14⟩),(14,⟨.flat,90,1,x15⟩),(13,⟨.flat,136,2,x16⟩),(12,⟨.flat,197,3,x17⟩),(11,⟨.flat,93,2,x18⟩),(10,⟨.flat,195,1,x19⟩),(9,⟨.flat,136,2,x20⟩),(8,⟨.flat,197,3,x21⟩),(7,⟨.flat,93,2,x22⟩),(5,⟨.flat,221,23,x23⟩),(3,⟨.flat,90,1,x24⟩),(4,⟨.flat,259,51,x25⟩)],17,84,[]⟩)⟩,
 ⟨none,2,⟨[(1,.one (.ptr 0 0)),(2,.one (.ptr 1 0)),(3,.one (.ptr 6 0)),(4,.one zB),(5,.one zB),(6,.one zB)],[(6,[zB,zB,.own 7,.own 8,.own 9,.own 3,.own 4,.own 5]),(1,[zB,.own 10,.own 11,.own 12,.own 13,.own 14,.own 15,.own 16]),(0,[zB,zB,zB,zB,zB,zB,zB,zB])],[(16,⟨.flat,221,23,(.bool false)⟩),(15,⟨.flat,259,51,(.bool false)⟩),(14,⟨.flat,90,1,(.bool false)⟩),(13,⟨.flat,136,2,(.bool false)⟩),(12,⟨.flat,197,3,(.bool false)⟩),(11,⟨.flat,93,2,(.bool false)⟩),(10,⟨.flat,195,1,(.bool false)⟩),(9,⟨.flat,136,2,(.bool false)⟩),(8,⟨.flat,197,3,(.bool false)⟩),(7,⟨.flat,93,2,(.bool false)⟩),(5,⟨.flat,221,23,(.bool false)⟩),(3,⟨.flat,90,1,(.bool false)⟩),(4,⟨.flat,259,51,(.bool false)⟩)],17,84,[]⟩,fun K k v=>Qcv_r2 v K (fun x0 x1 x2 x3 x4 x5 x6 x7 x8 x9 x10 x11 x12 x13 x14 x15 x16 x17 x18 x19 x20 x21 x22 x23 x24 x25 x26=>k (.exit 4) ⟨[(1,.one (.ptr 0 0)),(2,.one (.ptr 1 0)),(3,.one (.ptr 6 0)),(4,.one (.pv x0)),(5,.one (.pv x1)),(6,.one (.pv x2))],[(6,[.pv x3,.pv x4,.own 7,.own 8,.own 9,.own 3,.own 4,.own 5]),(1,[.pv x5,.own 10,.own 11,.own 12,.own 13,.own 14,.own 15,.own 16]),(0,[.pv x6,.pv x7,.pv x8,.pv x9,.pv x10,.pv x11,.pv x12,.pv x13])],[(16,⟨.flat,221,23,x14⟩),(15,⟨.flat,259,51,x15⟩),(14,⟨.flat,90,1,x16⟩),(13,⟨.flat,136,2,x17⟩),(12,⟨.flat,197,3,x18⟩),(11,⟨.flat,93,2,x19⟩),(10,⟨.flat,195,1,x20⟩),(9,⟨.flat,136,2,x21⟩),(8,⟨.flat,197,3,x22⟩),(7,⟨.flat,93,2,x23⟩),(5,⟨.flat,221,23,x24⟩),(3,⟨.flat,90,1,x25⟩),(4,⟨.flat,259,51,x26⟩)],17,84,[]⟩)⟩]
theorem Qcv_s:LEsOK [Qcf_e,Qcl_e,Qcr_e,Qct_e,Qcu_e] TT (kk [1,2,3,4,5,6]) Qcv_l Tryz.f108 Qcv_l:=⟨fun v K k h=>by
 apply un_all h;exact fun v0 v1 v2 v3 v4 v5 v6 v7 v8 v9 v10 v11 v12 v13 v14 v15 v16 v17 v18 v19 v20 v21 v22 v23 v24 h=>km h
 ,fun v K k h=>by
 apply un_all h;exact fun v0 v1 v2 v3 v4 v5 v6 v7 v8 v9 v10 v11 v12 v13 v14 v15 v16 v17 v18 v19 v20 v21 v22 v23 v24 v25 h=>km h
 ,fun v K k h=>by
 apply un_all h;exact fun v0 v1 v2 v3 v4 v5 v6 v7 v8 v9 v10 v11 v12 v13 v14 v15 v16 v17 v18 v19 v20 v21 v22 v23 v24 v25 v26 h=>km h
 ,trivial⟩
theorem Qcv_w:EntOK Tryz.prog TT Qcv_e:=ok_ tabok (L:=[Qcf_e,Qcl_e,Qcr_e,Qct_e,Qcu_e]) ⟨Qcf_w,Qcl_w,Qcr_w,Qct_w,Qcu_w,trivial⟩ (keep:=(kk [1,2,3,4,5,6])) (l:=Qcv_l) Tryz.func108 Qcv_s fun av k h=>by
 unfold Qcv at h;split at h
 ·apply un_all h;clear h;intro a0 a1 a2 a3 a4 a5 a6 a7 h;exact km h
 ·exact h.elim
def Qcw:GM
 | [.one a0,.one a1,.one a2],k =>
  binP .geq a0 a1 fun r0 =>
  iteP r0
   (binP .leq a0 a2 fun r1 =>
   rt [.sc] [r1] k)
   (rt [.sc] [(.bool false)] k)
 | _,_=>False
abbrev Qcw_e:Ent:=⟨[133],Qcw⟩
theorem Qcw_w:EntOK Tryz.prog TT Qcw_e:=ok_ tabok (L:=[]) trivial (keep:=[]) (l:=[]) Tryz.func133 trivial fun av k h=>by
 unfold Qcw at h;split at h
 ·exact km h
 ·exact h.elim
def Qcx_r0 (v:List PV) (K:List PV→Prop) (x0k:PV→PV→Prop) (x1k:PV→PV→PV→PV→Prop):Prop :=
 un 4 (fun v0 v1 v2 v3 =>
  lenP v2 fun r0 =>
  binP .lss v1 r0 fun r1 =>
  iteP r1
   (elemP 1 v2 v1 fun c2 =>
   call Qcw [.one (atP c2 0),.one (I 1),.one (I 99)] fun o3 =>
   unP .not (atP o3 0) fun r4 =>
   iteP r4
    (x0k v2 v3)
    (binP .gtr v1 (I 0) fun r5 =>
    iteP r5
     (binP .sub v1 (I 1) fun r6 =>
     elemP 1 v2 r6 fun c7 =>
     elemP 1 v2 v1 fun c8 =>
     binP .geq (atP c7 0) (atP c8 0) fun r9 =>
     iteP r9
      (x0k v2 v3)
      (binP .add v1 (I 1) fun r10 =>
      K [v0,r10,v2,v3]))
     (binP .add v1 (I 1) fun r11 =>
     K [v0,r11,v2,v3])))
   (x1k v0 v1 v2 v3)) v
def Qcx:GM
 | [.agg u0],k=>un 2 (fun a0 a1 =>
  lp (fun L w=>Qcx_r0 w L
   (fun q12 q13=>rt [.sc] [(.bool false)] k)
   (fun q14 q15 q16 q17=>lenP q16 fun r18 =>
    call Qcw [.one r18,.one (I 1),.one (I 4)] fun o19 =>
    iteP (atP o19 0)
     (lenP q16 fun r20 =>
     call Qcw [.one q17,.one (I 1),.one r20] fun o21 =>
     rt [.sc] [(atP o21 0)] k)
     (rt [.sc] [(.bool false)] k))) [(.bool false),(I 0),a0,a1]) u0
 | _,_=>False
abbrev Qcx_e:Ent:=⟨[265],Qcx⟩
def Qcx_l:List LE:=[⟨none,0,⟨[(1,.one (.ptr 0 0)),(2,.one zB),(3,.one zB)],[(0,[zB,zB])],[],1,48,[]⟩,fun K k v=>Qcx_r0 v K (fun x0 x1=>k .ret ⟨[(2,.one (.kb false))],[(0,[.pv x0,.pv x1])],[],2,48,[]⟩) (fun x0 x1 x2 x3=>k (.exit 0) ⟨[(1,.one (.ptr 0 0)),(2,.one (.pv x0)),(3,.one (.pv x1))],[(0,[.pv x2,.pv x3])],[],1,48,[]⟩)⟩]
theorem Qcx_s:LEsOK [Qcw_e] TT (kk [1,2,3,19,20,21,22,23,24,25,26,27,28,29,30,31,32,33,34,41,42,43,44,45,46]) Qcx_l Tryz.f265 Qcx_l:=⟨fun v K k h=>by
 apply un_all h;exact fun v0 v1 v2 v3 h=>km h
 ,trivial⟩
theorem Qcx_w:EntOK Tryz.prog TT Qcx_e:=ok_ tabok (L:=[Qcw_e]) ⟨Qcw_w,trivial⟩ (keep:=(kk [1,2,3,19,20,21,22,23,24,25,26,27,28,29,30,31,32,33,34,41,42,43,44,45,46])) (l:=Qcx_l) Tryz.func265 Qcx_s fun av k h=>by
 unfold Qcx at h;split at h
 ·apply un_all h;clear h;intro a0 a1 h;exact km h
 ·exact h.elim
def Qcy:GM
 | [.agg u0],k=>un 2 (fun a0 a1 =>
  binP .eql a1 (I 0) fun r0 =>
  iteP r0
   (lenP a0 fun r1 =>
   binP .eql r1 (I 0) fun r2 =>
   rt [.sc] [r2] k)
   (rt [.sc] [(.bool false)] k)) u0
 | _,_=>False
abbrev Qcy_e:Ent:=⟨[372],Qcy⟩
theorem Qcy_w:EntOK Tryz.prog TT Qcy_e:=ok_ tabok (L:=[]) trivial (keep:=[]) (l:=[]) Tryz.func372 trivial fun av k h=>by
 unfold Qcy at h;split at h
 ·apply un_all h;clear h;intro a0 a1 h;exact km h
 ·exact h.elim
def Qcz:GM
 | [.agg u0],k=>un 16 (fun a0 a1 a2 a3 a4 a5 a6 a7 a8 a9 a10 a11 a12 a13 a14 a15 =>
  call Qcw [.one a0,.one (I 0),.one (I 2147483646)] fun o0 =>
  unP .not (atP o0 0) fun r1 =>
  iteP r1
   (rt [.sc] [(.bool false)] k)
   (call Qcw [.one a6,.one (I 0),.one (I 2147483646)] fun o2 =>
   unP .not (atP o2 0) fun r3 =>
   iteP r3
    (rt [.sc] [(.bool false)] k)
    (call Qcw [.one a7,.one (I 0),.one (I 2147483646)] fun o4 =>
    unP .not (atP o4 0) fun r5 =>
    iteP r5
     (rt [.sc] [(.bool false)] k)
     (call Qcw [.one a1,.one (I 0),.one (I 200)] fun o6 =>
     unP .not (atP o6 0) fun r7 =>
     iteP r7
      (rt [.sc] [(.bool false)] k)
      (call Qcw [.one a2,.one (I 1),.one (I 3)] fun o8 =>
      unP .not (atP o8 0) fun r9 =>
      iteP r9
       (rt [.sc] [(.bool false)] k)
       (call Qcw [.one a3,.one (I 0),.one (I 100000)] fun o10 =>
       unP .not (atP o10 0) fun r11 =>
       iteP r11
        (rt [.sc] [(.bool false)] k)
        (call Qcw [.one a4,.one a3,.one (I 100000)] fun o12 =>
        unP .not (atP o12 0) fun r13 =>
        iteP r13
         (rt [.sc] [(.bool false)] k)
         (binP .sub a4 a3 fun r14 =>
         binP .gtr r14 (I 200) fun r15 =>
         iteP r15
          (rt [.sc] [(.bool false)] k)
          (call Qcw [.one a5,.one (I 0),.one (I 12)] fun o16 =>
          unP .not (atP o16 0) fun r17 =>
          iteP r17
           (rt [.sc] [(.bool false)] k)
           (call Qcx [.agg [a8,a9]] fun o18 =>
           unP .not (atP o18 0) fun r19 =>
           iteP r19
            (rt [.sc] [(.bool false)] k)
            (call Qcy [.agg [a10,a11]] fun o20 =>
            iteP (atP o20 0)
             (binP .neq a12 (I 0) fun r21 =>
             iteP r21
              (rt [.sc] [(.bool false)] k)
              (call Qcx [.agg [a13,a14]] fun o22 =>
              iteP (atP o22 0)
               (rt [.sc] [(.bool true)] k)
               (call Qcy [.agg [a13,a14]] fun o23 =>
               iteP (atP o23 0)
                (unP .not a15 fun r24 =>
                rt [.sc] [r24] k)
                (rt [.sc] [(.bool false)] k))))
             (call Qcx [.agg [a10,a11]] fun o25 =>
             unP .not (atP o25 0) fun r26 =>
             iteP r26
              (rt [.sc] [(.bool false)] k)
              (call Qcw [.one a12,.one (I 1),.one (I 500)] fun o27 =>
              unP .not (atP o27 0) fun r28 =>
              iteP r28
               (rt [.sc] [(.bool false)] k)
               (call Qcx [.agg [a13,a14]] fun o29 =>
               iteP (atP o29 0)
                (rt [.sc] [(.bool true)] k)
                (call Qcy [.agg [a13,a14]] fun o30 =>
                iteP (atP o30 0)
                 (unP .not a15 fun r31 =>
                 rt [.sc] [r31] k)
                 (rt [.sc] [(.bool false)] k)))))))))))))))) u0
 | _,_=>False
abbrev Qcz_e:Ent:=⟨[323],Qcz⟩
theorem Qcz_w:EntOK Tryz.prog TT Qcz_e:=ok_ tabok (L:=[Qcw_e,Qcx_e,Qcy_e]) ⟨Qcw_w,Qcx_w,Qcy_w,trivial⟩ (keep:=[]) (l:=[]) Tryz.func323 trivial fun av k h=>by
 unfold Qcz at h;split at h
 ·apply un_all h;clear h;intro a0 a1 a2 a3 a4 a5 a6 a7 a8 a9 a10 a11 a12 a13 a14 a15 h;exact km h
 ·exact h.elim
def Qda:GM
 | [.agg u0],k=>un 2 (fun a0 a1 =>
  lenP a0 fun r0 =>
  (2=2)∧(2≤16777216)∧(1=1)∧(0=0)∧(1=1)∧(flatCond [.pv (I 0)] [.pv a1])∧(1=1)∧(1=1)∧(flatCond [.pv (I 0)] [.pv r0])∧(flatRows a0)∧catP 1 (.list 1 [[a1],[r0]]) a0 fun r1 =>
  rt [.own true 3 1] [r1] k) u0
 | _,_=>False
abbrev Qda_e:Ent:=⟨[376],Qda⟩
theorem Qda_w:EntOK Tryz.prog TT Qda_e:=ok_ tabok (L:=[]) trivial (keep:=[]) (l:=[]) Tryz.func376 trivial fun av k h=>by
 unfold Qda at h;split at h
 ·apply un_all h;clear h;intro a0 a1 h;exact km h
 ·exact h.elim
def Qdb:GM
 | [.one a0,.one a1],k =>
  call Qcw [.one a1,.one (I 1),.one (I 1000000000000)] fun o0 =>
  unP .not (atP o0 0) fun r1 =>
  iteP r1
   (rt [.sc] [(I 0)] k)
   (binP .rem a0 a1 fun r2 =>
   binP .add r2 a1 fun r3 =>
   binP .rem r3 a1 fun r4 =>
   rt [.sc] [r4] k)
 | _,_=>False
abbrev Qdb_e:Ent:=⟨[291],Qdb⟩
theorem Qdb_w:EntOK Tryz.prog TT Qdb_e:=ok_ tabok (L:=[Qcw_e]) ⟨Qcw_w,trivial⟩ (keep:=[]) (l:=[]) Tryz.func291 trivial fun av k h=>by
 unfold Qdb at h;split at h
 ·exact km h
 ·exact h.elim
def Qdc_r0 (v:List PV) (K:List PV→Prop) (x0k:PV→PV→PV→PV→Prop):Prop :=
 un 4 (fun v0 v1 v2 v3 =>
  lenP v0 fun r0 =>
  binP .lss v3 r0 fun r1 =>
  iteP r1
   (binP .mul v2 (I 1000003) fun r2 =>
   elemP 1 v0 v3 fun c3 =>
   call Qdb [.one (atP c3 0),.one (I 2147483647)] fun o4 =>
   binP .add r2 (atP o4 0) fun r5 =>
   binP .add r5 (I 13) fun r6 =>
   binP .rem r6 (I 2147483647) fun r7 =>
   binP .add v3 (I 1) fun r8 =>
   K [v0,v1,r7,r8])
   (x0k v0 v1 v2 v3)) v
def Qdc:GM
 | [.one a0],k =>
  lp (fun L w=>Qdc_r0 w L
   (fun q9 q10 q11 q12=>rt [.sc] [q11] k)) [a0,(I 0),(I 11),(I 0)]
 | _,_=>False
abbrev Qdc_e:Ent:=⟨[234],Qdc⟩
def Qdc_l:List LE:=[⟨none,0,⟨[(0,.one zB),(2,.one zB),(3,.one zB),(4,.one zB)],[],[],0,22,[]⟩,fun K k v=>Qdc_r0 v K (fun x0 x1 x2 x3=>k (.exit 0) ⟨[(0,.one (.pv x0)),(2,.one (.pv x1)),(3,.one (.pv x2)),(4,.one (.pv x3))],[],[],0,22,[]⟩)⟩]
theorem Qdc_s:LEsOK [Qdb_e] TT (kk [0,2,3,4]) Qdc_l Tryz.f234 Qdc_l:=⟨fun v K k h=>by
 apply un_all h;exact fun v0 v1 v2 v3 h=>km h
 ,trivial⟩
theorem Qdc_w:EntOK Tryz.prog TT Qdc_e:=ok_ tabok (L:=[Qdb_e]) ⟨Qdb_w,trivial⟩ (keep:=(kk [0,2,3,4])) (l:=Qdc_l) Tryz.func234 Qdc_s fun av k h=>by
 unfold Qdc at h;split at h
 ·exact km h
 ·exact h.elim
def Qdd:GM
 | [.agg u0,.one a2],k=>un 2 (fun a0 a1 =>
  (2=2)∧(2≤16777216)∧(1=1)∧(0=0)∧(1=1)∧(flatCond [.pv (I 0)] [.pv (I 239)])∧(1=1)∧(1=1)∧(flatCond [.pv (I 0)] [.pv a2])∧call Qda [.agg [a0,a1]] fun o0 =>
  catP 1 (.list 1 [[(I 239)],[a2]]) (atP o0 0) fun r1 =>
  call Qdc [.one r1] fun o2 =>
  rt [.sc] [(atP o2 0)] k) u0
 | _,_=>False
abbrev Qdd_e:Ent:=⟨[397],Qdd⟩
theorem Qdd_w:EntOK Tryz.prog TT Qdd_e:=ok_ tabok (L:=[Qda_e,Qdc_e]) ⟨Qda_w,Qdc_w,trivial⟩ (keep:=[]) (l:=[]) Tryz.func397 trivial fun av k h=>by
 unfold Qdd at h;split at h
 ·apply un_all h;clear h;intro a0 a1 h;exact km h
 ·exact h.elim
def Qde:GM
 | [.agg u0],k=>un 16 (fun a0 a1 a2 a3 a4 a5 a6 a7 a8 a9 a10 a11 a12 a13 a14 a15 =>
  (8=8)∧(8≤16777216)∧(1=1)∧(0=0)∧(1=1)∧(flatCond [.pv (I 0)] [.pv a0])∧(1=1)∧(1=1)∧(flatCond [.pv (I 0)] [.pv a1])∧(2=2)∧(1=1)∧(flatCond [.pv (I 0)] [.pv a2])∧(3=3)∧(1=1)∧(flatCond [.pv (I 0)] [.pv a3])∧(4=4)∧(1=1)∧(flatCond [.pv (I 0)] [.pv a4])∧(5=5)∧(1=1)∧(flatCond [.pv (I 0)] [.pv a5])∧(6=6)∧(1=1)∧(flatCond [.pv (I 0)] [.pv a6])∧(7=7)∧(1=1)∧(flatCond [.pv (I 0)] [.pv a7])∧call Qda [.agg [a8,a9]] fun o0 =>
  catP 1 (.list 1 [[a0],[a1],[a2],[a3],[a4],[a5],[a6],[a7]]) (atP o0 0) fun r1 =>
  call Qda [.agg [a10,a11]] fun o2 =>
  catP 1 r1 (atP o2 0) fun r3 =>
  (1=1)∧(1≤16777216)∧(1=1)∧(0=0)∧(1=1)∧(flatCond [.pv (I 0)] [.pv a12])∧catP 1 r3 (.list 1 [[a12]]) fun r4 =>
  call Qda [.agg [a13,a14]] fun o5 =>
  catP 1 r4 (atP o5 0) fun r6 =>
  iteP a15
   ((1=1)∧(1≤16777216)∧(1=1)∧(0=0)∧(1=1)∧(flatCond [.pv (I 0)] [.pv (I 1)])∧catP 1 r6 (.list 1 [[(I 1)]]) fun r7 =>
   rt [.own true 3 1] [r7] k)
   ((1=1)∧(1≤16777216)∧(1=1)∧(0=0)∧(1=1)∧(flatCond [.pv (I 0)] [.pv (I 0)])∧catP 1 r6 (.list 1 [[(I 0)]]) fun r8 =>
   rt [.own true 3 1] [r8] k)) u0
 | _,_=>False
abbrev Qde_e:Ent:=⟨[329],Qde⟩
theorem Qde_w:EntOK Tryz.prog TT Qde_e:=ok_ tabok (L:=[Qda_e]) ⟨Qda_w,trivial⟩ (keep:=[]) (l:=[]) Tryz.func329 trivial fun av k h=>by
 unfold Qde at h;split at h
 ·apply un_all h;clear h;intro a0 a1 a2 a3 a4 a5 a6 a7 a8 a9 a10 a11 a12 a13 a14 a15 h;exact km h
 ·exact h.elim
def Qdf:GM
 | [.one a0,.one a1],k =>
  (1=1)∧(1≤16777216)∧(1=1)∧(0=0)∧(1=1)∧(flatCond [.pv (I 0)] [.pv a0])∧(flatRows a1)∧catP 1 (.list 1 [[a0]]) a1 fun r0 =>
  (1=1)∧(1≤16777216)∧(1=1)∧(0=0)∧(1=1)∧(flatCond [.pv (I 0)] [.pv a0])∧catP 1 r0 (.list 1 [[a0]]) fun r1 =>
  call Qdc [.one r1] fun o2 =>
  rt [.sc] [(atP o2 0)] k
 | _,_=>False
abbrev Qdf_e:Ent:=⟨[408],Qdf⟩
theorem Qdf_w:EntOK Tryz.prog TT Qdf_e:=ok_ tabok (L:=[Qdc_e]) ⟨Qdc_w,trivial⟩ (keep:=[]) (l:=[]) Tryz.func408 trivial fun av k h=>by
 unfold Qdf at h;split at h
 ·exact km h
 ·exact h.elim
def Qdg:GM
 | [.one a0,.one a1],k =>
  (1=1)∧(1≤16777216)∧(1=1)∧(0=0)∧(1=1)∧(flatCond [.pv (I 0)] [.pv (I 223)])∧(flatRows a1)∧catP 1 (.list 1 [[(I 223)]]) a1 fun r0 =>
  call Qdf [.one a0,.one r0] fun o1 =>
  rt [.sc] [(atP o1 0)] k
 | _,_=>False
abbrev Qdg_e:Ent:=⟨[377],Qdg⟩
theorem Qdg_w:EntOK Tryz.prog TT Qdg_e:=ok_ tabok (L:=[Qdf_e]) ⟨Qdf_w,trivial⟩ (keep:=[]) (l:=[]) Tryz.func377 trivial fun av k h=>by
 unfold Qdg at h;split at h
 ·exact km h
 ·exact h.elim
def Qdh:GM
 | [.agg u0,.one a2],k=>un 2 (fun a0 a1 =>
  call Qcw [.one a0,.one (I 1),.one (I 99)] fun o0 =>
  iteP (atP o0 0)
   (call Qdg [.one a0,.one a2] fun o1 =>
   binP .eql a1 (atP o1 0) fun r2 =>
   rt [.sc] [r2] k)
   (rt [.sc] [(.bool false)] k)) u0
 | _,_=>False
abbrev Qdh_e:Ent:=⟨[407],Qdh⟩
theorem Qdh_w:EntOK Tryz.prog TT Qdh_e:=ok_ tabok (L:=[Qcw_e,Qdg_e]) ⟨Qcw_w,Qdg_w,trivial⟩ (keep:=[]) (l:=[]) Tryz.func407 trivial fun av k h=>by
 unfold Qdh at h;split at h
 ·apply un_all h;clear h;intro a0 a1 h;exact km h
 ·exact h.elim
def Qdi_r1 (v:List PV) (K:List PV→Prop) (x0k:PV→PV→PV→PV→PV→PV→PV→PV→PV→PV→PV→Prop) (x1k:PV→PV→PV→PV→PV→PV→PV→PV→Prop):Prop :=
 un 8 (fun v0 v1 v2 v3 v4 v5 v6 v7 =>
  lenP v1 fun r0 =>
  binP .lss v5 r0 fun r1 =>
  iteP r1
   (elemP 2 v1 v5 fun c2 =>
   elemP 1 v6 v4 fun c3 =>
   binP .eql (atP c2 0) (atP c3 0) fun r4 =>
   iteP r4
    (elemP 2 v1 v5 fun c5 =>
    call Qdh [.agg [(atP c5 0),(atP c5 1)],.one v0] fun o6 =>
    iteP (atP o6 0)
     (binP .add v3 (I 1) fun r7 =>
     x0k v0 v1 v2 r7 v4 v5 (atP c5 0) (atP c5 1) (atP o6 0) v6 v7)
     (binP .add v5 (I 1) fun r8 =>
     K [v0,v1,v2,v3,v4,r8,v6,v7]))
    (binP .add v5 (I 1) fun r9 =>
    K [v0,v1,v2,v3,v4,r9,v6,v7]))
   (x1k v0 v1 v2 v3 v4 v5 v6 v7)) v
def Qdi_r0 (v:List PV) (K:List PV→Prop) (x0k:PV→PV→PV→PV→PV→PV→PV→Prop):Prop :=
 un 7 (fun v0 v1 v2 v3 v4 v5 v6 =>
  lenP v5 fun r0 =>
  binP .lss v4 r0 fun r1 =>
  iteP r1
   (lp (fun L w=>Qdi_r1 w L
    (fun q10 q11 q12 q13 q14 q15 q16 q17 q18 q19 q20=>binP .add q14 (I 1) fun r21 =>
     K [q10,q11,q12,q13,r21,q19,q20])
    (fun q22 q23 q24 q25 q26 q27 q28 q29=>binP .add q26 (I 1) fun r30 =>
     K [q22,q23,q24,q25,r30,q28,q29])) [v0,v1,v2,v3,v4,(I 0),v5,v6])
   (x0k v0 v1 v2 v3 v4 v5 v6)) v
def Qdi:GM
 | [.agg u0,.one a2,.one a3],k=>un 2 (fun a0 a1 =>
  lp (fun L w=>Qdi_r0 w L
   (fun q31 q32 q33 q34 q35 q36 q37=>rt [.sc] [q34] k)) [a2,a3,(I 0),(I 0),(I 0),a0,a1]) u0
 | _,_=>False
abbrev Qdi_e:Ent:=⟨[375],Qdi⟩
def Qdi_l:List LE:=[⟨none,1,⟨[(1,.one zB),(2,.one zB),(3,.one (.ptr 0 0)),(6,.one zB),(7,.one zB),(8,.one zB),(9,.one zB)],[(0,[zB,zB])],[],1,45,[]⟩,fun K k v=>Qdi_r1 v K (fun x0 x1 x2 x3 x4 x5 x6 x7 x8 x9 x10=>k (.exit 2) ⟨[(1,.one (.pv x0)),(2,.one (.pv x1)),(3,.one (.ptr 0 0)),(6,.one (.pv x2)),(7,.one (.pv x3)),(8,.one (.pv x4)),(9,.one (.pv x5)),(35,.one (.pv x1)),(36,.one (.pv x5)),(37,.one (.sptr [x6,x7])),(38,.agg [.pv x6,.pv x7]),(39,.one (.pv x0)),(40,.one (.pv x8))],[(0,[.pv x9,.pv x10])],[],2,45,[]⟩) (fun x0 x1 x2 x3 x4 x5 x6 x7=>k (.exit 2) ⟨[(1,.one (.pv x0)),(2,.one (.pv x1)),(3,.one (.ptr 0 0)),(6,.one (.pv x2)),(7,.one (.pv x3)),(8,.one (.pv x4)),(9,.one (.pv x5))],[(0,[.pv x6,.pv x7])],[],1,45,[]⟩)⟩,
 ⟨none,0,⟨[(1,.one zB),(2,.one zB),(3,.one (.ptr 0 0)),(6,.one zB),(7,.one zB),(8,.one zB)],[(0,[zB,zB])],[],1,45,[]⟩,fun K k v=>Qdi_r0 v K (fun x0 x1 x2 x3 x4 x5 x6=>k (.exit 0) ⟨[(1,.one (.pv x0)),(2,.one (.pv x1)),(3,.one (.ptr 0 0)),(6,.one (.pv x2)),(7,.one (.pv x3)),(8,.one (.pv x4))],[(0,[.pv x5,.pv x6])],[],1,45,[]⟩)⟩]
theorem Qdi_s:LEsOK [Qdh_e] TT (kk [1,2,3,6,7,8,9,35,36,37,38,39,40]) Qdi_l Tryz.f375 Qdi_l:=⟨fun v K k h=>by
 apply un_all h;exact fun v0 v1 v2 v3 v4 v5 v6 v7 h=>km h
 ,fun v K k h=>by
 apply un_all h;exact fun v0 v1 v2 v3 v4 v5 v6 h=>km h
 ,trivial⟩
theorem Qdi_w:EntOK Tryz.prog TT Qdi_e:=ok_ tabok (L:=[Qdh_e]) ⟨Qdh_w,trivial⟩ (keep:=(kk [1,2,3,6,7,8,9,35,36,37,38,39,40])) (l:=Qdi_l) Tryz.func375 Qdi_s fun av k h=>by
 unfold Qdi at h;split at h
 ·apply un_all h;clear h;intro a0 a1 h;exact km h
 ·exact h.elim
def Qdj:GM
 | [.agg u0,.one a2,.one a3],k=>un 2 (fun a0 a1 =>
  call Qcx [.agg [a0,a1]] fun o0 =>
  iteP (atP o0 0)
   (call Qdi [.agg [a0,a1],.one a2,.one a3] fun o1 =>
   binP .geq (atP o1 0) a1 fun r2 =>
   rt [.sc] [r2] k)
   (rt [.sc] [(.bool false)] k)) u0
 | _,_=>False
abbrev Qdj_e:Ent:=⟨[328],Qdj⟩
theorem Qdj_w:EntOK Tryz.prog TT Qdj_e:=ok_ tabok (L:=[Qcx_e,Qdi_e]) ⟨Qcx_w,Qdi_w,trivial⟩ (keep:=[]) (l:=[]) Tryz.func328 trivial fun av k h=>by
 unfold Qdj at h;split at h
 ·apply un_all h;clear h;intro a0 a1 h;exact km h
 ·exact h.elim
end Go.Ev
