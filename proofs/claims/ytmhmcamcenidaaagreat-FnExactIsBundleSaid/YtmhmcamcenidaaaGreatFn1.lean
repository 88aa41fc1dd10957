/- The tables of this load, and for each function the meaning that the evaluator gives it, with its proof, part 1. -/
import Derived.Test.YtmhmcamcenidaaaGreatEv4
import Derived.Shelf.Small.Strs
import Derived.Test.YtmhmcamcenidaaaGreatProg
namespace Go.Ev
open Go.Proofs
noncomputable def TT:Tab:=⟨[(2,tI),
 (3,tI),
 (4,tB),
 (5,⟨false,1,0,1,[],[.pv (.int .u8 0)],some .u8,0,false⟩),
 (6,⟨false,1,0,1,[],[.pv (.int .u8 0)],some .u8,0,false⟩),
 (7,⟨true,4,0,24,[(0,2),(1,3),(2,4),(3,6)],[zI,zI,zB,.pv (.int .u8 0)],none,0,true⟩),
 (8,⟨true,4,0,24,[(0,2),(1,3),(2,4),(3,6)],[zI,zI,zB,.pv (.int .u8 0)],none,0,true⟩),
 (9,tS),
 (10,tS),
 (11,tS),
 (12,⟨false,1,0,8,[],[.pv (.int .u64 0)],some .u64,0,false⟩),
 (13,⟨true,2,0,24,[(0,9),(1,12)],[zS,.pv (.int .u64 0)],none,0,false⟩),
 (14,⟨true,2,0,24,[(0,9),(1,12)],[zS,.pv (.int .u64 0)],none,0,false⟩),
 (21,⟨false,1,0,4,[],[.pv (.int .i32 0)],some .i32,0,false⟩),
 (22,⟨false,1,9,24,[],[.nil 9 1],none,0,false⟩),
 (23,⟨false,1,219,24,[],[.nil 219 23],none,0,false⟩),
 (24,⟨true,3,0,56,[(0,3),(1,22),(2,23)],[zI,.nil 9 1,.nil 219 23],none,0,false⟩),
 (25,⟨true,3,0,56,[(0,3),(1,22),(2,23)],[zI,.nil 9 1,.nil 219 23],none,0,false⟩),
 (28,⟨false,1,221,24,[],[.nil 221 23],none,0,false⟩),
 (29,⟨true,3,0,56,[(0,3),(1,22),(2,28)],[zI,.nil 9 1,.nil 221 23],none,0,false⟩),
 (30,⟨true,3,0,56,[(0,3),(1,22),(2,28)],[zI,.nil 9 1,.nil 221 23],none,0,false⟩),
 (34,⟨false,1,131,24,[],[.nil 131 2],none,0,false⟩),
 (39,⟨false,1,136,24,[],[.nil 136 2],none,0,false⟩),
 (47,⟨false,1,75,24,[],[.nil 75 1],none,0,false⟩),
 (48,⟨false,1,243,24,[],[.nil 243 51],none,0,false⟩),
 (49,⟨true,2,0,48,[(0,47),(1,48)],[.nil 75 1,.nil 243 51],none,0,false⟩),
 (50,⟨true,2,0,48,[(0,47),(1,48)],[.nil 75 1,.nil 243 51],none,0,false⟩),
 (52,⟨false,1,90,24,[],[.nil 90 1],none,0,false⟩),
 (53,⟨false,1,259,24,[],[.nil 259 51],none,0,false⟩),
 (54,⟨true,2,0,48,[(0,52),(1,53)],[.nil 90 1,.nil 259 51],none,0,false⟩),
 (55,⟨true,2,0,48,[(0,52),(1,53)],[.nil 90 1,.nil 259 51],none,0,false⟩),
 (56,⟨true,4,0,56,[(0,9),(1,3),(2,3),(3,22)],[zS,zI,zI,.nil 9 1],none,0,false⟩),
 (57,⟨true,4,0,56,[(0,9),(1,3),(2,3),(3,22)],[zS,zI,zI,.nil 9 1],none,0,false⟩),
 (58,⟨false,1,3,24,[],[.nil 3 1],none,0,false⟩),
 (59,⟨true,9,0,144,[(0,55),(2,4),(3,57),(7,4),(8,58)],[.nil 90 1,.nil 259 51,zB,zS,zI,zI,.nil 9 1,zB,.nil 3 1],none,0,false⟩),
 (60,⟨true,9,0,144,[(0,55),(2,4),(3,57),(7,4),(8,58)],[.nil 90 1,.nil 259 51,zB,zS,zI,zI,.nil 9 1,zB,.nil 3 1],none,0,false⟩),
 (68,⟨false,1,264,24,[],[.nil 264 1],none,0,false⟩),
 (69,⟨false,1,78,24,[],[.nil 78 2],none,0,false⟩),
 (70,⟨false,1,267,24,[],[.nil 267 3],none,0,false⟩),
 (71,⟨true,1,0,24,[(0,23)],[.nil 219 23],none,0,false⟩),
 (72,⟨true,1,0,24,[(0,23)],[.nil 219 23],none,0,false⟩),
 (73,⟨true,8,0,176,[(0,3),(1,68),(2,69),(3,70),(4,34),(5,50),(7,72)],[zI,.nil 264 1,.nil 78 2,.nil 267 3,.nil 131 2,.nil 75 1,.nil 243 51,.nil 219 23],none,0,false⟩),
 (74,⟨true,8,0,176,[(0,3),(1,68),(2,69),(3,70),(4,34),(5,50),(7,72)],[zI,.nil 264 1,.nil 78 2,.nil 267 3,.nil 131 2,.nil 75 1,.nil 243 51,.nil 219 23],none,0,false⟩),
 (75,⟨false,1,241,24,[],[.nil 241 17],none,0,false⟩),
 (76,⟨false,1,202,24,[],[.nil 202 4],none,0,false⟩),
 (77,⟨true,2,0,48,[(0,75),(1,76)],[.nil 241 17,.nil 202 4],none,0,false⟩),
 (78,⟨true,2,0,48,[(0,75),(1,76)],[.nil 241 17,.nil 202 4],none,0,false⟩),
 (81,⟨false,1,195,24,[],[.nil 195 1],none,0,false⟩),
 (82,⟨false,1,93,24,[],[.nil 93 2],none,0,false⟩),
 (83,⟨false,1,197,24,[],[.nil 197 3],none,0,false⟩),
 (84,⟨true,1,0,24,[(0,28)],[.nil 221 23],none,0,false⟩),
 (85,⟨true,1,0,24,[(0,28)],[.nil 221 23],none,0,false⟩),
 (86,⟨true,8,0,176,[(0,3),(1,81),(2,82),(3,83),(4,39),(5,55),(7,85)],[zI,.nil 195 1,.nil 93 2,.nil 197 3,.nil 136 2,.nil 90 1,.nil 259 51,.nil 221 23],none,0,false⟩),
 (87,⟨true,8,0,176,[(0,3),(1,81),(2,82),(3,83),(4,39),(5,55),(7,85)],[zI,.nil 195 1,.nil 93 2,.nil 197 3,.nil 136 2,.nil 90 1,.nil 259 51,.nil 221 23],none,0,false⟩),
 (90,⟨false,1,257,24,[],[.nil 257 17],none,0,false⟩),
 (91,⟨false,1,57,24,[],[.nil 57 4],none,0,false⟩),
 (92,⟨true,2,0,48,[(0,90),(1,91)],[.nil 257 17,.nil 57 4],none,0,false⟩),
 (93,⟨true,2,0,48,[(0,90),(1,91)],[.nil 257 17,.nil 57 4],none,0,false⟩),
 (103,⟨true,9,0,144,[(0,55),(2,3),(3,57),(7,58),(8,3)],[.nil 90 1,.nil 259 51,zI,zS,zI,zI,.nil 9 1,.nil 3 1,zI],none,0,false⟩),
 (104,⟨true,9,0,144,[(0,55),(2,3),(3,57),(7,58),(8,3)],[.nil 90 1,.nil 259 51,zI,zS,zI,zI,.nil 9 1,.nil 3 1,zI],none,0,false⟩),
 (108,⟨true,2,0,32,[(0,58),(1,3)],[.nil 3 1,zI],none,0,false⟩),
 (109,⟨true,2,0,32,[(0,58),(1,3)],[.nil 3 1,zI],none,0,false⟩),
 (110,⟨true,16,0,176,[(0,3),(1,3),(2,3),(3,3),(4,3),(5,3),(6,3),(7,3),(8,109),(10,109),(12,3),(13,109),(15,4)],[zI,zI,zI,zI,zI,zI,zI,zI,.nil 3 1,zI,.nil 3 1,zI,zI,.nil 3 1,zI,zB],none,0,false⟩),
 (111,⟨true,16,0,176,[(0,3),(1,3),(2,3),(3,3),(4,3),(5,3),(6,3),(7,3),(8,109),(10,109),(12,3),(13,109),(15,4)],[zI,zI,zI,zI,zI,zI,zI,zI,.nil 3 1,zI,.nil 3 1,zI,zI,.nil 3 1,zI,zB],none,0,false⟩),
 (115,⟨true,2,0,32,[(0,58),(1,3)],[.nil 3 1,zI],none,0,false⟩),
 (116,⟨true,16,0,176,[(0,3),(1,3),(2,3),(3,3),(4,3),(5,3),(6,3),(7,3),(8,115),(10,115),(12,3),(13,115),(15,4)],[zI,zI,zI,zI,zI,zI,zI,zI,.nil 3 1,zI,.nil 3 1,zI,zI,.nil 3 1,zI,zB],none,0,false⟩),
 (117,⟨true,16,0,176,[(0,3),(1,3),(2,3),(3,3),(4,3),(5,3),(6,3),(7,3),(8,115),(10,115),(12,3),(13,115),(15,4)],[zI,zI,zI,zI,zI,zI,zI,zI,.nil 3 1,zI,.nil 3 1,zI,zI,.nil 3 1,zI,zB],none,0,false⟩),
 (130,⟨true,2,0,32,[(0,69),(1,3)],[.nil 78 2,zI],none,0,false⟩),
 (131,⟨true,2,0,32,[(0,69),(1,3)],[.nil 78 2,zI],none,0,false⟩),
 (132,⟨true,10,0,168,[(0,104),(9,85)],[.nil 90 1,.nil 259 51,zI,zS,zI,zI,.nil 9 1,.nil 3 1,zI,.nil 221 23],none,0,false⟩),
 (133,⟨true,10,0,168,[(0,104),(9,85)],[.nil 90 1,.nil 259 51,zI,zS,zI,zI,.nil 9 1,.nil 3 1,zI,.nil 221 23],none,0,false⟩),
 (135,⟨true,2,0,32,[(0,82),(1,3)],[.nil 93 2,zI],none,0,false⟩),
 (136,⟨true,2,0,32,[(0,82),(1,3)],[.nil 93 2,zI],none,0,false⟩),
 (144,⟨false,1,150,24,[],[.nil 150 21],none,0,false⟩),
 (145,⟨true,2,0,32,[(0,3),(1,58)],[zI,.nil 3 1],none,0,false⟩),
 (146,⟨true,2,0,32,[(0,3),(1,58)],[zI,.nil 3 1],none,0,false⟩),
 (147,⟨true,13,0,184,[(0,3),(1,57),(5,57),(9,146),(11,146)],[zI,zS,zI,zI,.nil 9 1,zS,zI,zI,.nil 9 1,zI,.nil 3 1,zI,.nil 3 1],none,0,false⟩),
 (148,⟨true,13,0,184,[(0,3),(1,57),(5,57),(9,146),(11,146)],[zI,zS,zI,zI,.nil 9 1,zS,zI,zI,.nil 9 1,zI,.nil 3 1,zI,.nil 3 1],none,0,false⟩),
 (149,⟨true,21,0,304,[(0,90),(1,4),(2,57),(6,146),(8,148)],[.nil 257 17,zB,zS,zI,zI,.nil 9 1,zI,.nil 3 1,zI,zS,zI,zI,.nil 9 1,zS,zI,zI,.nil 9 1,zI,.nil 3 1,zI,.nil 3 1],none,0,false⟩),
 (150,⟨true,21,0,304,[(0,90),(1,4),(2,57),(6,146),(8,148)],[.nil 257 17,zB,zS,zI,zI,.nil 9 1,zI,.nil 3 1,zI,zS,zI,zI,.nil 9 1,zS,zI,zI,.nil 9 1,zI,.nil 3 1,zI,.nil 3 1],none,0,false⟩),
 (154,⟨true,2,0,16,[(0,3),(1,3)],[zI,zI],none,0,true⟩),
 (155,⟨true,2,0,16,[(0,3),(1,3)],[zI,zI],none,0,true⟩),
 (194,⟨true,1,0,24,[(0,58)],[.nil 3 1],none,0,false⟩),
 (195,⟨true,1,0,24,[(0,58)],[.nil 3 1],none,0,false⟩),
 (196,⟨true,3,0,72,[(0,93),(2,58)],[.nil 257 17,.nil 57 4,.nil 3 1],none,0,false⟩),
 (197,⟨true,3,0,72,[(0,93),(2,58)],[.nil 257 17,.nil 57 4,.nil 3 1],none,0,false⟩),
 (202,⟨true,4,0,56,[(0,9),(1,3),(2,3),(3,22)],[zS,zI,zI,.nil 9 1],none,0,false⟩),
 (213,⟨true,2,0,32,[(0,3),(1,58)],[zI,.nil 3 1],none,0,false⟩),
 (214,⟨true,13,0,184,[(0,3),(1,202),(5,202),(9,213),(11,213)],[zI,zS,zI,zI,.nil 9 1,zS,zI,zI,.nil 9 1,zI,.nil 3 1,zI,.nil 3 1],none,0,false⟩),
 (215,⟨true,13,0,184,[(0,3),(1,202),(5,202),(9,213),(11,213)],[zI,zS,zI,zI,.nil 9 1,zS,zI,zI,.nil 9 1,zI,.nil 3 1,zI,.nil 3 1],none,0,false⟩),
 (216,⟨true,21,0,304,[(0,75),(1,4),(2,202),(6,213),(8,215)],[.nil 241 17,zB,zS,zI,zI,.nil 9 1,zI,.nil 3 1,zI,zS,zI,zI,.nil 9 1,zS,zI,zI,.nil 9 1,zI,.nil 3 1,zI,.nil 3 1],none,0,false⟩),
 (217,⟨true,21,0,304,[(0,75),(1,4),(2,202),(6,213),(8,215)],[.nil 241 17,zB,zS,zI,zI,.nil 9 1,zI,.nil 3 1,zI,zS,zI,zI,.nil 9 1,zS,zI,zI,.nil 9 1,zI,.nil 3 1,zI,.nil 3 1],none,0,false⟩),
 (218,⟨true,23,0,328,[(0,3),(1,9),(2,217)],[zI,zS,.nil 241 17,zB,zS,zI,zI,.nil 9 1,zI,.nil 3 1,zI,zS,zI,zI,.nil 9 1,zS,zI,zI,.nil 9 1,zI,.nil 3 1,zI,.nil 3 1],none,0,false⟩),
 (219,⟨true,23,0,328,[(0,3),(1,9),(2,217)],[zI,zS,.nil 241 17,zB,zS,zI,zI,.nil 9 1,zI,.nil 3 1,zI,zS,zI,zI,.nil 9 1,zS,zI,zI,.nil 9 1,zI,.nil 3 1,zI,.nil 3 1],none,0,false⟩),
 (220,⟨true,23,0,328,[(0,3),(1,9),(2,150)],[zI,zS,.nil 257 17,zB,zS,zI,zI,.nil 9 1,zI,.nil 3 1,zI,zS,zI,zI,.nil 9 1,zS,zI,zI,.nil 9 1,zI,.nil 3 1,zI,.nil 3 1],none,0,false⟩),
 (221,⟨true,23,0,328,[(0,3),(1,9),(2,150)],[zI,zS,.nil 257 17,zB,zS,zI,zI,.nil 9 1,zI,.nil 3 1,zI,zS,zI,zI,.nil 9 1,zS,zI,zI,.nil 9 1,zI,.nil 3 1,zI,.nil 3 1],none,0,false⟩),
 (237,⟨false,1,5,24,[],[.nil 5 1],none,2,false⟩),
 (239,⟨false,1,358,24,[],[.nil 358 2],none,0,false⟩),
 (240,⟨true,17,0,200,[(0,111),(16,239)],[zI,zI,zI,zI,zI,zI,zI,zI,.nil 3 1,zI,.nil 3 1,zI,zI,.nil 3 1,zI,zB,.nil 358 2],none,0,false⟩),
 (241,⟨true,17,0,200,[(0,111),(16,239)],[zI,zI,zI,zI,zI,zI,zI,zI,.nil 3 1,zI,.nil 3 1,zI,zI,.nil 3 1,zI,zB,.nil 358 2],none,0,false⟩),
 (242,⟨true,51,0,600,[(0,241),(17,241),(34,241)],[zI,zI,zI,zI,zI,zI,zI,zI,.nil 3 1,zI,.nil 3 1,zI,zI,.nil 3 1,zI,zB,.nil 358 2,zI,zI,zI,zI,zI,zI,zI,zI,.nil 3 1,zI,.nil 3 1,zI,zI,.nil 3 1,zI,zB,.nil 358 2,zI,zI,zI,zI,zI,zI,zI,zI,.nil 3 1,zI,.nil 3 1,zI,zI,.nil 3 1,zI,zB,.nil 358 2],none,0,false⟩),
 (243,⟨true,51,0,600,[(0,241),(17,241),(34,241)],[zI,zI,zI,zI,zI,zI,zI,zI,.nil 3 1,zI,.nil 3 1,zI,zI,.nil 3 1,zI,zB,.nil 358 2,zI,zI,zI,zI,zI,zI,zI,zI,.nil 3 1,zI,.nil 3 1,zI,zI,.nil 3 1,zI,zB,.nil 358 2,zI,zI,zI,zI,zI,zI,zI,zI,.nil 3 1,zI,.nil 3 1,zI,zI,.nil 3 1,zI,zB,.nil 358 2],none,0,false⟩),
 (255,⟨false,1,317,24,[],[.nil 317 2],none,0,false⟩),
 (256,⟨true,17,0,200,[(0,117),(16,255)],[zI,zI,zI,zI,zI,zI,zI,zI,.nil 3 1,zI,.nil 3 1,zI,zI,.nil 3 1,zI,zB,.nil 317 2],none,0,false⟩),
 (257,⟨true,17,0,200,[(0,117),(16,255)],[zI,zI,zI,zI,zI,zI,zI,zI,.nil 3 1,zI,.nil 3 1,zI,zI,.nil 3 1,zI,zB,.nil 317 2],none,0,false⟩),
 (258,⟨true,51,0,600,[(0,257),(17,257),(34,257)],[zI,zI,zI,zI,zI,zI,zI,zI,.nil 3 1,zI,.nil 3 1,zI,zI,.nil 3 1,zI,zB,.nil 317 2,zI,zI,zI,zI,zI,zI,zI,zI,.nil 3 1,zI,.nil 3 1,zI,zI,.nil 3 1,zI,zB,.nil 317 2,zI,zI,zI,zI,zI,zI,zI,zI,.nil 3 1,zI,.nil 3 1,zI,zI,.nil 3 1,zI,zB,.nil 317 2],none,0,false⟩),
 (259,⟨true,51,0,600,[(0,257),(17,257),(34,257)],[zI,zI,zI,zI,zI,zI,zI,zI,.nil 3 1,zI,.nil 3 1,zI,zI,.nil 3 1,zI,zB,.nil 317 2,zI,zI,zI,zI,zI,zI,zI,zI,.nil 3 1,zI,.nil 3 1,zI,zI,.nil 3 1,zI,zB,.nil 317 2,zI,zI,zI,zI,zI,zI,zI,zI,.nil 3 1,zI,.nil 3 1,zI,zI,.nil 3 1,zI,zB,.nil 317 2],none,0,false⟩),
 (264,⟨true,1,0,24,[(0,58)],[.nil 3 1],none,0,false⟩),
 (266,⟨true,3,0,72,[(0,78),(2,58)],[.nil 241 17,.nil 202 4,.nil 3 1],none,0,false⟩),
 (267,⟨true,3,0,72,[(0,78),(2,58)],[.nil 241 17,.nil 202 4,.nil 3 1],none,0,false⟩),
 (316,⟨true,2,0,16,[(0,3),(1,3)],[zI,zI],none,0,true⟩),
 (317,⟨true,2,0,16,[(0,3),(1,3)],[zI,zI],none,0,true⟩),
 (358,⟨true,2,0,16,[(0,3),(1,3)],[zI,zI],none,0,true⟩),
 (390,⟨false,1,58,24,[],[.nil 58 1],none,0,false⟩),
 (401,⟨false,1,0,4,[],[.pv (.int .u32 0)],some .u32,0,false⟩),
 (402,⟨false,1,0,1,[],[.pv (.int .u8 0)],some .u8,0,false⟩),
 (403,⟨false,1,0,1,[],[.pv (.int .u8 0)],some .u8,0,false⟩),
 (406,⟨false,1,0,4,[],[.pv (.int .i32 0)],some .i32,0,false⟩),
 (407,⟨false,1,0,4,[],[.pv (.int .i32 0)],some .i32,0,false⟩)],
 [(0,[]),(1,[]),(2,[]),(3,[.one (.sc)]),(4,[.one (.sc)]),(5,[.one (.sc)]),(6,[.one (.sc)]),(7,[.one (.sc)]),(8,[.one (.sc)]),(9,[.one (.sc)]),(10,[.one (.sc)]),(11,[.one (.sc)]),(12,[.agg [.sc,.own true 9 1,.own true 221 23]]),(13,[.one (.sc)]),(14,[.one (.sc)]),(15,[.one (.sc)]),(16,[.one (.sc)]),(17,[.agg [.sc,.pv,.pv],.one (.sc)]),(18,[.one (.own true 136 2)]),(19,[.one (.own true 9 1)]),(20,[.agg [.sc,.own true 9 1,.own true 221 23],.one (.sc)]),(21,[.one (.sc)]),(22,[.one (.sc)]),(23,[.agg []]),(24,[.agg []]),(25,[.agg []]),(26,[.one (.sc)]),(27,[.one (.sc)]),(28,[.agg [.pv,.pv,.sc,.sc,.sc,.sc,.pv,.sc,.pv]]),(29,[.agg [.own true 90 1,.own true 259 51]]),(30,[.agg [.own true 90 1,.own true 259 51,.sc,.sc,.sc,.sc,.own true 9 1,.sc,.own true 3 1]]),(31,[.one (.sc)]),(32,[.one (.sc)]),(33,[.agg []]),(34,[.agg []]),(35,[.one (.sc)]),(36,[.one (.sc)]),(37,[.one (.sc)]),(38,[.agg [.sc,.pv,.own false 93 2,.own false 197 3,.own false 136 2,.own false 90 1,.own false 259 51,.own false 221 23]]),(39,[.agg [.sc,.own true 195 1,.own true 93 2,.own true 197 3,.own true 136 2,.own true 90 1,.own true 259 51,.own true 221 23]]),(40,[.agg [.own true 257 17,.own true 57 4]]),(41,[.agg [.sc,.own true 195 1,.own true 93 2,.own true 197 3,.own true 136 2,.own true 90 1,.own true 259 51,.own true 221 23]]),(42,[.one (.sc)]),(43,[.one (.sc)]),(44,[.agg []]),(45,[.agg []]),(46,[.one (.sc)]),(47,[.agg [.sc,.own true 195 1,.own true 93 2,.own true 197 3,.own true 136 2,.own true 90 1,.own true 259 51,.own true 221 23],.one (.sc)]),(48,[.agg [.sc,.own true 195 1,.own true 93 2,.own true 197 3,.own true 136 2,.own true 90 1,.own true 259 51,.own true 221 23],.one (.sc)]),(49,[.agg [.pv,.pv,.sc,.sc,.sc,.sc,.pv,.pv,.sc]]),(50,[.agg [.own true 90 1,.own true 259 51,.sc,.sc,.sc,.sc,.own true 9 1,.own true 3 1,.sc]]),(51,[.one (.sc)]),(52,[.agg []]),(53,[.one (.sc)]),(54,[.one (.sc)]),(55,[.one (.sc)]),(56,[.agg [.sc,.own true 195 1,.own true 93 2,.own true 197 3,.own true 136 2,.own true 90 1,.own true 259 51,.own true 221 23],.one (.sc)]),(57,[.agg [.sc,.sc,.sc,.sc,.sc,.sc,.sc,.sc,.own true 3 1,.sc,.own true 3 1,.sc,.sc,.own true 3 1,.sc,.sc]]),(58,[.one (.own true 57 4)]),(59,[.agg [.sc,.own true 195 1,.own true 93 2,.own true 197 3,.own true 136 2,.own true 90 1,.own true 259 51,.own true 221 23],.one (.sc)]),(60,[.one (.sc)]),(61,[.one (.sc)]),(62,[.agg []]),(63,[.agg []]),(64,[.one (.sc)]),(65,[.one (.own true 221 23)]),(66,[.one (.sc)]),(67,[.one (.sc)]),(68,[.one (.sc)]),(69,[.agg [.pv,.pv,.sc,.sc,.sc,.sc,.pv,.pv,.sc,.pv]]),(70,[.one (.own false 9 1)]),(71,[.agg [.own true 93 2,.sc]]),(72,[.agg [.own true 90 1,.own true 259 51,.sc,.sc,.sc,.sc,.own true 9 1,.own true 3 1,.sc,.own true 221 23]]),(73,[.one (.own true 9 1)]),(74,[.one (.sc)]),(75,[.agg []]),(76,[.one (.sc)]),(77,[.agg []]),(78,[.one (.sc)]),(79,[.one (.sc)]),(80,[.one (.sc)]),(81,[.one (.sc)]),(82,[.agg [.pv,.sc,.sc,.sc,.sc,.pv,.sc,.pv,.sc,.sc,.sc,.sc,.pv,.sc,.sc,.sc,.pv,.sc,.pv,.sc,.pv],.one (.sc)]),(83,[.one (.pv)]),(84,[.agg [.sc,.sc]]),(85,[.agg [.pv,.pv,.sc,.sc,.sc,.sc,.pv,.sc,.pv]]),(86,[.one (.own true 90 1)]),(87,[.one (.own true 259 51)]),(88,[.agg [.own true 257 17,.sc,.sc,.sc,.sc,.own true 9 1,.sc,.own true 3 1,.sc,.sc,.sc,.sc,.own true 9 1,.sc,.sc,.sc,.own true 9 1,.sc,.own true 3 1,.sc,.own true 3 1],.one (.sc)]),(89,[.one (.own true 150 21)]),(90,[.agg [.sc,.sc]]),(91,[.agg [.own true 90 1,.own true 259 51,.sc,.sc,.sc,.sc,.own true 9 1,.sc,.own true 3 1]]),(92,[.one (.sc)]),(93,[.one (.sc)]),(94,[.one (.sc)]),(95,[.one (.sc)]),(96,[.agg []]),(97,[.agg []]),(98,[.agg []]),(99,[.agg []]),(100,[.one (.sc)]),(101,[.one (.sc)]),(102,[.one (.sc)]),(103,[.one (.sc)]),(104,[.one (.sc)]),(105,[.one (.sc)]),(106,[.one (.sc)]),(107,[.one (.sc)]),(108,[.agg [.sc,.pv,.own false 93 2,.own false 197 3,.own false 136 2,.own false 90 1,.own false 259 51,.own false 221 23]]),(109,[.one (.sc)]),(110,[.one (.sc)]),(111,[.agg [.pv,.pv]]),(112,[.one (.own true 195 1)]),(113,[.one (.own true 93 2)]),(114,[.one (.own true 197 3)]),(115,[.agg [.own true 221 23]]),(116,[.one (.own true 257 17)]),(117,[.agg [.sc,.own true 195 1,.own true 93 2,.own true 197 3,.own true 136 2,.own true 90 1,.own true 259 51,.own true 221 23]]),(118,[]),(119,[.one (.sc)]),(120,[.one (.sc)]),(121,[.one (.sc)]),(122,[.one (.sc)]),(123,[.one (.sc)]),(124,[.agg []]),(125,[.agg []]),(126,[.agg []]),(127,[.agg []]),(128,[.one (.sc)]),(129,[.one (.sc)]),(130,[.one (.sc)]),(131,[.one (.sc)]),(132,[.one (.sc)]),(133,[.one (.sc)]),(134,[.one (.sc)]),(135,[.one (.sc)]),(136,[.agg [.pv,.pv,.sc,.sc,.sc,.sc,.pv,.pv,.sc]]),(137,[.agg [.own true 90 1,.own true 259 51,.sc,.sc,.sc,.sc,.own true 9 1,.own true 3 1,.sc]]),(138,[.one (.sc)]),(139,[.one (.sc)]),(140,[.agg [.pv,.pv],.one (.sc)]),(141,[.agg [.own true 257 17,.own true 57 4],.one (.sc)]),(142,[.agg [.own true 3 1,.sc]]),(143,[.agg [.sc,.sc,.sc,.own true 9 1]]),(144,[.one (.sc)]),(145,[.one (.sc)]),(146,[.agg []]),(147,[.one (.sc)]),(148,[.agg [.sc,.sc,.own true 257 17,.sc,.sc,.sc,.sc,.own true 9 1,.sc,.own true 3 1,.sc,.sc,.sc,.sc,.own true 9 1,.sc,.sc,.sc,.own true 9 1,.sc,.own true 3 1,.sc,.own true 3 1]]),(149,[.one (.sc)]),(150,[.agg [.own false 90 1,.own false 259 51]]),(151,[.agg [.own false 221 23]]),(152,[.one (.sc)]),(153,[.agg [.pv,.sc,.sc,.sc,.sc,.pv,.sc,.pv,.sc,.sc,.sc,.sc,.pv,.sc,.sc,.sc,.pv,.sc,.pv,.sc,.pv]]),(154,[.one (.pv)]),(155,[.agg [.pv]]),(156,[.agg [.sc,.sc,.sc,.pv],.one (.sc)]),(157,[.one (.sc)]),(158,[.agg [.own true 221 23]]),(159,[.agg [.own true 90 1,.own true 259 51,.sc,.sc,.sc,.sc,.own true 9 1,.own true 3 1,.sc]]),(160,[.agg [.own true 90 1,.own true 259 51,.sc,.sc,.sc,.sc,.own true 9 1,.sc,.own true 3 1]]),(161,[.agg [.own true 257 17,.sc,.sc,.sc,.sc,.own true 9 1,.sc,.own true 3 1,.sc,.sc,.sc,.sc,.own true 9 1,.sc,.sc,.sc,.own true 9 1,.sc,.own true 3 1,.sc,.own true 3 1]]),(162,[.one (.own true 150 21)]),(163,[.agg [.own true 90 1,.own true 259 51,.sc,.sc,.sc,.sc,.own true 9 1,.sc,.own true 3 1],.one (.sc)]),(164,[.agg [.own true 221 23]]),(165,[.one (.sc)]),(166,[.one (.sc)]),(167,[.agg [.pv,.sc,.sc,.sc,.sc,.pv,.sc,.pv,.sc,.sc,.sc,.sc,.pv,.sc,.sc,.sc,.pv,.sc,.pv,.sc,.pv]]),(168,[.one (.sc)]),(169,[.one (.sc)]),(170,[.agg [.pv,.sc,.sc,.sc,.sc,.pv,.sc,.pv,.sc,.sc,.sc,.sc,.pv,.sc,.sc,.sc,.pv,.sc,.pv,.sc,.pv]]),(171,[.agg [.sc,.sc,.sc,.sc,.sc,.sc,.sc,.sc,.pv,.sc,.pv,.sc,.sc,.pv,.sc,.sc],.one (.sc)]),(172,[.agg [.pv,.pv],.one (.sc)]),(173,[.one (.sc)]),(174,[.one (.sc)]),(175,[.agg [.sc,.sc,.sc,.pv]]),(176,[.agg [.sc,.sc,.sc,.sc,.sc,.sc,.sc,.sc,.own true 3 1,.sc,.own true 3 1,.sc,.sc,.own true 3 1,.sc,.sc,.own true 317 2,.sc,.sc,.sc,.sc,.sc,.sc,.sc,.sc,.own true 3 1,.sc,.own true 3 1,.sc,.sc,.own true 3 1,.sc,.sc,.own true 317 2,.sc,.sc,.sc,.sc,.sc,.sc,.sc,.sc,.own true 3 1,.sc,.own true 3 1,.sc,.sc,.own true 3 1,.sc,.sc,.own true 317 2]]),(177,[.agg [.own true 257 17,.sc,.sc,.sc,.sc,.own true 9 1,.sc,.own true 3 1,.sc,.sc,.sc,.sc,.own true 9 1,.sc,.sc,.sc,.own true 9 1,.sc,.own true 3 1,.sc,.own true 3 1]]),(178,[.one (.sc)]),(179,[.one (.sc)]),(180,[.agg [.own true 257 17,.sc,.sc,.sc,.sc,.own true 9 1,.sc,.own true 3 1,.sc,.sc,.sc,.sc,.own true 9 1,.sc,.sc,.sc,.own true 9 1,.sc,.own true 3 1,.sc,.own true 3 1]]),(181,[.one (.sc)]),(182,[.agg []]),(183,[.one (.sc)]),(184,[.one (.sc)]),(185,[.one (.sc)]),(186,[.one (.sc)]),(187,[.one (.sc)]),(188,[.one (.pv)]),(189,[.agg [.own false 93 2,.sc]]),(190,[.one (.sc)]),(191,[.one (.pv)]),(192,[.one (.pv)]),(193,[.agg [.own true 3 1]]),(194,[.agg [.own true 257 17,.own true 57 4,.own true 3 1]]),(195,[.agg [.sc,.sc,.sc,.sc,.sc,.sc,.sc,.sc,.own true 3 1,.sc,.own true 3 1,.sc,.sc,.own true 3 1,.sc,.sc,.own true 317 2]]),(196,[.one (.own true 195 1)]),(197,[.one (.own true 136 2)]),(198,[.agg [.own true 90 1,.own true 259 51]]),(199,[.agg [.own true 257 17,.own true 57 4]]),(200,[.one (.own true 3 1)]),(201,[.one (.sc)]),(202,[.one (.sc)]),(203,[.one (.sc)]),(204,[.one (.sc)]),(205,[.one (.sc)]),(206,[.one (.sc)]),(207,[.one (.sc)]),(208,[.one (.sc)]),(209,[.one (.sc)]),(210,[.one (.sc)]),(211,[.one (.sc)]),(212,[.one (.sc)]),(213,[.one (.own true 257 17),.one (.sc)]),(214,[.agg [.sc,.sc,.sc,.sc,.sc,.sc,.sc,.sc,.own true 3 1,.sc,.own true 3 1,.sc,.sc,.own true 3 1,.sc,.sc,.own true 317 2]]),(215,[.one (.own true 3 1)]),(216,[.one (.sc)]),(217,[.agg [.own true 257 17,.own true 57 4],.one (.sc)]),(218,[.one (.sc)]),(219,[.agg [.own true 257 17,.sc,.sc,.sc,.sc,.own true 9 1,.sc,.own true 3 1,.sc,.sc,.sc,.sc,.own true 9 1,.sc,.sc,.sc,.own true 9 1,.sc,.own true 3 1,.sc,.own true 3 1]]),(220,[.one (.sc)]),(221,[.agg [.sc,.sc,.sc,.sc,.sc,.sc,.sc,.sc,.pv,.sc,.pv,.sc,.sc,.pv,.sc,.sc,.pv,.sc,.sc,.sc,.sc,.sc,.sc,.sc,.sc,.pv,.sc,.pv,.sc,.sc,.pv,.sc,.sc,.pv,.sc,.sc,.sc,.sc,.sc,.sc,.sc,.sc,.pv,.sc,.pv,.sc,.sc,.pv,.sc,.sc,.pv]]),(222,[.one (.sc)]),(223,[.one (.sc)]),(224,[.agg [.sc,.sc,.own true 257 17,.sc,.sc,.sc,.sc,.own true 9 1,.sc,.own true 3 1,.sc,.sc,.sc,.sc,.own true 9 1,.sc,.sc,.sc,.own true 9 1,.sc,.own true 3 1,.sc,.own true 3 1]]),(225,[.one (.sc)]),(226,[.one (.sc),.one (.own true 9 1)]),(227,[.one (.sc)]),(228,[.one (.sc)]),(229,[.agg [.sc,.sc,.sc,.own true 9 1]]),(230,[.one (.sc)]),(231,[.one (.sc)]),(232,[.agg [.sc,.pv]]),(233,[.agg [.sc,.sc,.sc,.sc,.pv,.sc,.sc,.sc,.pv,.sc,.pv,.sc,.pv]]),(234,[.one (.sc)]),(235,[.one (.own true 3 1)]),(236,[.agg [.pv,.sc,.sc,.sc,.sc,.pv,.sc,.pv,.sc,.sc,.sc,.sc,.pv,.sc,.sc,.sc,.pv,.sc,.pv,.sc,.pv]]),(237,[.one (.sc)]),(238,[.agg [.sc,.sc,.sc,.sc,.sc,.sc,.sc,.sc,.pv,.sc,.pv,.sc,.sc,.pv,.sc,.sc]]),(239,[.one (.sc)]),(240,[.one (.sc)]),(241,[.agg [.sc,.sc,.sc,.sc,.sc,.sc,.sc,.sc,.pv,.sc,.pv,.sc,.sc,.pv,.sc,.sc,.pv,.sc,.sc,.sc,.sc,.sc,.sc,.sc,.sc,.pv,.sc,.pv,.sc,.sc,.pv,.sc,.sc,.pv,.sc,.sc,.sc,.sc,.sc,.sc,.sc,.sc,.pv,.sc,.pv,.sc,.sc,.pv,.sc,.sc,.pv],.one (.sc)]),(242,[.one (.sc)]),(243,[.one (.sc)]),(244,[.one (.sc)]),(245,[.one (.own true 257 17)]),(246,[.agg [.sc,.own true 3 1]]),(247,[.agg [.sc,.sc,.sc,.sc,.own true 9 1,.sc,.sc,.sc,.own true 9 1,.sc,.own true 3 1,.sc,.own true 3 1]]),(248,[.one (.sc)]),(249,[.one (.sc)]),(250,[.one (.sc)]),(251,[.one (.own true 3 1)]),(252,[.agg [.own true 257 17,.sc,.sc,.sc,.sc,.own true 9 1,.sc,.own true 3 1,.sc,.sc,.sc,.sc,.own true 9 1,.sc,.sc,.sc,.own true 9 1,.sc,.own true 3 1,.sc,.own true 3 1]]),(253,[.one (.sc)]),(254,[.one (.sc)]),(255,[.one (.sc)]),(256,[.agg [.sc,.sc,.sc,.sc,.sc,.sc,.sc,.sc,.pv,.sc,.pv,.sc,.sc,.pv,.sc,.sc,.pv]]),(257,[.one (.own true 317 2)]),(258,[.agg [.own true 93 2,.sc]]),(259,[.agg [.sc,.sc,.sc,.sc,.sc,.sc,.sc,.sc,.own true 3 1,.sc,.own true 3 1,.sc,.sc,.own true 3 1,.sc,.sc,.own true 317 2,.sc,.sc,.sc,.sc,.sc,.sc,.sc,.sc,.own true 3 1,.sc,.own true 3 1,.sc,.sc,.own true 3 1,.sc,.sc,.own true 317 2,.sc,.sc,.sc,.sc,.sc,.sc,.sc,.sc,.own true 3 1,.sc,.own true 3 1,.sc,.sc,.own true 3 1,.sc,.sc,.own true 317 2]]),(260,[.one (.own true 57 4)]),(261,[.agg [.sc,.sc,.sc,.sc,.sc,.sc,.sc,.sc,.pv,.sc,.pv,.sc,.sc,.pv,.sc,.sc]]),(262,[.one (.sc)]),(263,[.one (.sc)]),(264,[.one (.sc)]),(265,[.one (.sc)]),(266,[.one (.sc)]),(267,[.one (.sc)]),(268,[.one (.sc)]),(269,[.one (.sc)]),(270,[.agg [.pv,.sc]]),(271,[.one (.sc)]),(272,[.agg [.sc,.sc,.sc,.sc,.sc,.sc,.sc,.sc,.own true 3 1,.sc,.own true 3 1,.sc,.sc,.own true 3 1,.sc,.sc,.own true 317 2]]),(273,[.one (.own true 257 17),.one (.sc)]),(274,[.agg [.sc,.sc,.sc,.sc,.sc,.sc,.sc,.sc,.own true 3 1,.sc,.own true 3 1,.sc,.sc,.own true 3 1,.sc,.sc,.own true 317 2]]),(275,[.one (.sc)]),(276,[.one (.sc)]),(277,[.agg [.sc,.own true 3 1]]),(278,[.agg [.sc,.sc,.sc,.sc,.own true 9 1,.sc,.sc,.sc,.own true 9 1,.sc,.own true 3 1,.sc,.own true 3 1]]),(279,[.one (.sc)]),(280,[.one (.sc)]),(281,[.one (.sc)]),(282,[.one (.sc)]),(283,[.one (.sc)]),(284,[.one (.sc)]),(285,[.one (.sc)]),(286,[.agg [.own true 90 1,.own true 259 51],.one (.sc)]),(287,[.one (.sc)]),(288,[.agg [.sc,.sc,.sc,.sc,.sc,.sc,.sc,.sc,.own true 3 1,.sc,.own true 3 1,.sc,.sc,.own true 3 1,.sc,.sc],.one (.sc)]),(289,[.one (.sc)]),(290,[.one (.sc)]),(291,[.one (.sc)]),(292,[.one (.own true 3 1)]),(293,[.one (.sc)]),(294,[.agg [.sc,.pv],.one (.sc)]),(295,[.agg [.sc,.sc,.sc,.sc,.pv,.sc,.sc,.sc,.pv,.sc,.pv,.sc,.pv],.one (.sc)]),(296,[.one (.sc)]),(297,[.agg [.pv,.sc]]),(298,[.one (.sc)]),(299,[.one (.sc)]),(300,[.one (.sc)]),(301,[.one (.sc)]),(302,[.one (.sc)]),(303,[.one (.sc)]),(304,[.one (.sc)]),(305,[.agg [.sc,.sc,.sc,.sc,.sc,.sc,.sc,.sc,.own true 3 1,.sc,.own true 3 1,.sc,.sc,.own true 3 1,.sc,.sc,.own true 317 2]]),(306,[.one (.sc)]),(307,[.one (.own true 3 1)]),(308,[.one (.sc)]),(309,[.agg [.sc,.own true 3 1],.one (.sc)]),(310,[.agg [.sc,.sc,.sc,.sc,.own true 9 1,.sc,.sc,.sc,.own true 9 1,.sc,.own true 3 1,.sc,.own true 3 1],.one (.sc)]),(311,[.one (.sc)]),(312,[.one (.sc)]),(313,[.one (.sc)]),(314,[.one (.sc)]),(315,[.one (.own true 3 1)]),(316,[.agg [.sc,.sc]]),(317,[.one (.sc)]),(318,[.one (.sc)]),(319,[.one (.sc)]),(320,[.one (.sc)]),(321,[.one (.sc)]),(322,[.one (.sc)]),(323,[.one (.sc)]),(324,[.one (.sc)]),(325,[.one (.sc)]),(326,[.one (.sc)]),(327,[.one (.sc)]),(328,[.one (.sc)]),(329,[.one (.own true 3 1)]),(330,[.one (.own true 317 2)]),(331,[.one (.sc)]),(332,[.agg [.sc,.sc,.sc,.sc,.sc,.sc,.sc,.sc,.own true 3 1,.sc,.own true 3 1,.sc,.sc,.own true 3 1,.sc,.sc,.own true 317 2]]),(333,[.one (.sc)]),(334,[.one (.sc)]),(335,[.one (.sc)]),(336,[.agg [.sc,.sc,.sc,.sc,.sc,.sc,.sc,.sc,.own true 3 1,.sc,.own true 3 1,.sc,.sc,.own true 3 1,.sc,.sc,.own true 317 2,.sc,.sc,.sc,.sc,.sc,.sc,.sc,.sc,.own true 3 1,.sc,.own true 3 1,.sc,.sc,.own true 3 1,.sc,.sc,.own true 317 2,.sc,.sc,.sc,.sc,.sc,.sc,.sc,.sc,.own true 3 1,.sc,.own true 3 1,.sc,.sc,.own true 3 1,.sc,.sc,.own true 317 2],.one (.sc)]),(337,[.one (.sc)]),(338,[.one (.sc)]),(339,[.one (.sc)]),(340,[.agg [.sc,.sc,.sc,.sc,.sc,.sc,.sc,.sc,.own true 3 1,.sc,.own true 3 1,.sc,.sc,.own true 3 1,.sc,.sc]]),(341,[.one (.sc)]),(342,[.one (.sc)]),(343,[.one (.sc)]),(344,[.one (.sc)]),(345,[.one (.sc)]),(346,[.one (.own true 3 1)]),(347,[.one (.sc)]),(348,[.one (.sc)]),(349,[.one (.sc)]),(350,[.one (.sc)]),(351,[.one (.sc),.one (.sc)]),(352,[.one (.sc)]),(353,[.one (.sc)]),(354,[.one (.sc)]),(355,[.one (.sc)]),(356,[.one (.own true 317 2)]),(357,[.one (.sc)]),(358,[.one (.sc)]),(359,[.one (.own true 3 1)]),(360,[.one (.own true 3 1)]),(361,[.one (.sc)]),(362,[.one (.own true 3 1)]),(363,[.one (.sc)]),(364,[.one (.sc)]),(365,[.one (.sc)]),(366,[.one (.sc)]),(367,[.one (.sc)]),(368,[.one (.sc)]),(369,[.one (.sc)]),(370,[.one (.sc)]),(371,[.one (.sc)]),(372,[.one (.sc)]),(373,[.one (.sc)]),(374,[.one (.sc)]),(375,[.one (.sc)]),(376,[.one (.own true 3 1)]),(377,[.one (.sc)]),(378,[.one (.sc)]),(379,[.one (.sc)]),(380,[.one (.sc)]),(381,[.one (.sc)]),(382,[.one (.sc)]),(383,[.one (.own true 317 2)]),(384,[.one (.own true 3 1)]),(385,[.one (.sc)]),(386,[.one (.sc)]),(387,[.one (.sc)]),(388,[.one (.sc)]),(389,[.one (.sc)]),(390,[.one (.sc)]),(391,[.agg [.own true 3 1,.sc]]),(392,[.one (.sc),.one (.sc)]),(393,[.one (.sc)]),(394,[.one (.sc)]),(395,[.one (.sc)]),(396,[.one (.sc)]),(397,[.one (.sc)]),(398,[.one (.sc)]),(399,[.one (.own true 3 1)]),(400,[.one (.sc)]),(401,[.one (.own true 3 1)]),(402,[.one (.sc)]),(403,[.one (.sc)]),(404,[.one (.sc)]),(405,[.one (.sc)]),(406,[.one (.sc)]),(407,[.one (.sc)]),(408,[.one (.sc)]),(409,[.one (.sc)]),(410,[.one (.sc)]),(411,[.one (.sc)]),(412,[.one (.sc)]),(413,[.one (.sc)]),(414,[.one (.sc)]),(415,[.one (.sc)]),(416,[.one (.sc)]),(417,[.one (.own true 3 1)]),(418,[.one (.own true 3 1)]),(419,[.one (.sc)]),(420,[.one (.sc)]),(421,[.one (.sc)]),(422,[.one (.sc)]),(423,[.one (.own true 3 1)]),(424,[.one (.sc)]),(425,[.one (.sc)]),(426,[.one (.sc)]),(427,[.one (.sc)]),(428,[.one (.own true 3 1)]),(429,[.one (.sc)]),(430,[.one (.sc)]),(431,[.one (.sc)]),(432,[.one (.sc)]),(433,[.one (.sc)]),(434,[.one (.sc)]),(435,[.one (.sc)]),(436,[.one (.sc)]),(437,[]),(438,[.one (.sc)]),(439,[]),(440,[.one (.sc)]),(441,[]),(442,[.one (.sc)]),(443,[]),(444,[.one (.sc)]),(445,[]),(446,[.one (.sc)]),(447,[]),(448,[.one (.sc)]),(449,[.one (.sc)]),(450,[]),(451,[.one (.sc)]),(452,[.one (.sc)]),(453,[.one (.sc)])],false,[428],[174],[257,57,93,90,259,221,197,195,136,150,9],[(118,(Tryz.f118,[])),(228,(Tryz.f228,[])),(135,(Tryz.f135,[])),(144,(Tryz.f144,[])),(159,(Tryz.f159,[(2,false),(3,false),(8,false),(9,false),(10,false)])),(160,(Tryz.f160,[])),(226,(Tryz.f226,[]))],0,false⟩
theorem tabok:TabOK Tryz.prog TT:=tabB_ok (by kernel_rfl) (by kernel_rfl) ⟨⟨by kernel_rfl,by kernel_rfl⟩,⟨by kernel_rfl,by kernel_rfl⟩,⟨by kernel_rfl,by kernel_rfl⟩,⟨by kernel_rfl,by kernel_rfl⟩,⟨by kernel_rfl,by kernel_rfl⟩,⟨by kernel_rfl,by kernel_rfl⟩,⟨by kernel_rfl,by kernel_rfl⟩,True.intro⟩
end Go.Ev
/- The library's comparison of strings, by the shelf's contract. -/
set_option maxRecDepth 100000
namespace Go.Ev
open Go.Proofs
def rhoC:Go.Shelf.Ren:=⟨fun n=>match n with | 106=>405 | 213=>426 | 265=>431 | _=>0,fun t=>t,fun g=>g⟩
theorem laysC:Go.Proofs.Lays.n213 Tryz.prog rhoC where
 mixed:=by kernel_rfl
 f213:=by kernel_rfl
 f265:=by kernel_rfl
 t3:=by kernel_rfl
 a3:=fun w=>by kernel_rfl
 z3:=fun w=>by kernel_rfl
 v3:=fun w=>by kernel_rfl
 t9:=by kernel_rfl
 a9:=fun w=>by kernel_rfl
 z9:=fun w=>by kernel_rfl
 v9:=fun w=>by kernel_rfl
def Qkp:GM
 | [.one (.str s),.one (.str t)],k=>k [I (Go.Lib.compareBytes s.data.toList t.data.toList)]
 | _,_=>False
abbrev Qkp_e:Ent:=⟨[426],Qkp⟩
theorem Qkp_w:EntOK Tryz.prog TT Qkp_e:=by
 intro f av out hk hg sg hsg
 injection hk with hk hn
 subst hk
 have hs:lk TT.sig 426=some [.one .sc]:=by kernel_rfl
 rw [hs] at hsg
 injection hsg with hsg
 subst hsg
 change Qkp av _ at hg
 unfold Qkp at hg
 split at hg
 ·rename_i s t
  subst hg
  refine ⟨fun _=>⟨⟨Tryz.f426,Tryz.func426,by kernel_rfl,by kernel_rfl⟩,fun w S vals _ hS hv=>?_⟩,fun h=>nomatch h⟩
  obtain ⟨v1,r,rfl,h1,v2,r2,rfl,h2,h3⟩:=hv
  have h3:r2=[]:=h3
  subst h3
  have e1:v1=.string s:=RepS.str_inv h1
  have e2:v2=.string t:=RepS.str_inv h2
  subst e1;subst e2
  refine (Any.bytealg_CompareString laysC s t w).mono ?_
  rintro e w' ⟨rfl,rfl⟩
  refine ⟨_,S,fun _=>none,[.int .i64 (Go.Lib.compareBytes s.data.toList t.data.toList)],rfl,rfl,.refl _ _,fun _ h=>h,fun x hx=>⟨rfl,hS x hx,.inl hx⟩,fun x i h=>(nomatch h),rfl,rfl,fun i ck v h4 h5=>?_,fun x i h=>nomatch h⟩
  cases i with
  | zero =>
   simp [allCks,RS.cks] at h4 h5
   subst h4;subst h5
   exact RepS.int
  | succ i=>simp [allCks,RS.cks] at h4
 ·exact hg.elim
end Go.Ev
set_option maxRecDepth 100000
set_option linter.unusedVariables false
namespace Go.Ev
open Go.Proofs
def Qaa:GM
 | [.one a0,.one a1],k =>
  lenP a0 fun r0 =>
  binP .sub a1 r0 fun r1 =>
  binP .lss r1 (I 0) fun r2 =>
  iteP r2
   (rt [.sc] [(I (-1))] k)
   (rt [.sc] [r1] k)
 | _,_=>False
abbrev Qaa_e:Ent:=⟨[212],Qaa⟩
theorem Qaa_w:EntOK Tryz.prog TT Qaa_e:=okF_ tabok (L:=[]) trivial (keep:=[]) (l:=[]) Tryz.func212 trivial fun av k h=>by
 unfold Qaa at h;split at h
 ·exact km h
 ·exact h.elim
def Qab:GM
 | [.agg u0,.one a2],k=>un 2 (fun a0 a1 =>
  call Qaa [.one a0,.one a2] fun o0 =>
  binP .lss (atP o0 0) (I 0) fun r1 =>
  iteP r1
   (rt [.sc] [(I (-1))] k)
   (rt [.sc] [(atP o0 0)] k)) u0
 | _,_=>False
abbrev Qab_e:Ent:=⟨[138],Qab⟩
theorem Qab_w:EntOK Tryz.prog TT Qab_e:=okF_ tabok (L:=[Qaa_e]) ⟨Qaa_w,trivial⟩ (keep:=[]) (l:=[]) Tryz.func138 trivial fun av k h=>by
 unfold Qab at h;split at h
 ·apply un_all h;clear h;intro a0 a1 h;exact km h
 ·exact h.elim
def Qac:GM
 | [.agg u0,.one a16],k=>un 16 (fun a0 a1 a2 a3 a4 a5 a6 a7 a8 a9 a10 a11 a12 a13 a14 a15 =>
  call Qab [.agg [a8,a9],.one a16] fun o0 =>
  binP .lss (atP o0 0) (I 0) fun r1 =>
  iteP r1
   (rt [.sc] [(I (-1))] k)
   (call Qab [.agg [a10,a11],.one (atP o0 0)] fun o2 =>
   binP .lss (atP o2 0) (I 0) fun r3 =>
   iteP r3
    (rt [.sc] [(I (-1))] k)
    (call Qab [.agg [a13,a14],.one (atP o2 0)] fun o4 =>
    binP .lss (atP o4 0) (I 0) fun r5 =>
    iteP r5
     (rt [.sc] [(I (-1))] k)
     (rt [.sc] [(atP o4 0)] k)))) u0
 | _,_=>False
abbrev Qac_e:Ent:=⟨[54],Qac⟩
theorem Qac_w:EntOK Tryz.prog TT Qac_e:=okF_ tabok (L:=[Qab_e]) ⟨Qab_w,trivial⟩ (keep:=[]) (l:=[]) Tryz.func54 trivial fun av k h=>by
 unfold Qac at h;split at h
 ·apply un_all h;clear h;intro a0 a1 a2 a3 a4 a5 a6 a7 a8 a9 a10 a11 a12 a13 a14 a15 h;exact km h
 ·exact h.elim
def Qad:GM
 | [.one a0,.one a1],k =>
  lenP a0 fun r0 =>
  binP .sub a1 r0 fun r1 =>
  binP .lss r1 (I 0) fun r2 =>
  iteP r2
   (rt [.sc] [(I (-1))] k)
   (rt [.sc] [r1] k)
 | _,_=>False
abbrev Qad_e:Ent:=⟨[253],Qad⟩
theorem Qad_w:EntOK Tryz.prog TT Qad_e:=okF_ tabok (L:=[]) trivial (keep:=[]) (l:=[]) Tryz.func253 trivial fun av k h=>by
 unfold Qad at h;split at h
 ·exact km h
 ·exact h.elim
def Qae:GM
 | [.agg u0,.one a17],k=>un 17 (fun a0 a1 a2 a3 a4 a5 a6 a7 a8 a9 a10 a11 a12 a13 a14 a15 a16 =>
  call Qac [.agg [a0,a1,a2,a3,a4,a5,a6,a7,a8,a9,a10,a11,a12,a13,a14,a15],.one a17] fun o0 =>
  binP .lss (atP o0 0) (I 0) fun r1 =>
  iteP r1
   (rt [.sc] [(I (-1))] k)
   (call Qad [.one a16,.one (atP o0 0)] fun o2 =>
   binP .lss (atP o2 0) (I 0) fun r3 =>
   iteP r3
    (rt [.sc] [(I (-1))] k)
    (rt [.sc] [(atP o2 0)] k))) u0
 | _,_=>False
abbrev Qae_e:Ent:=⟨[187],Qae⟩
theorem Qae_w:EntOK Tryz.prog TT Qae_e:=okF_ tabok (L:=[Qac_e,Qad_e]) ⟨Qac_w,Qad_w,trivial⟩ (keep:=[]) (l:=[]) Tryz.func187 trivial fun av k h=>by
 unfold Qae at h;split at h
 ·apply un_all h;clear h;intro a0 a1 a2 a3 a4 a5 a6 a7 a8 a9 a10 a11 a12 a13 a14 a15 a16 h;exact km h
 ·exact h.elim
def Qaf_r0 (v:List PV) (K:List PV→Prop) (x0k:Prop) (x1k:PV→PV→PV→PV→Prop):Prop :=
 un 4 (fun v0 v1 v2 v3 =>
  lenP v0 fun r0 =>
  binP .lss v3 r0 fun r1 =>
  iteP r1
   (elemP 17 v0 v3 fun c2 =>
   call Qae [.agg [(atP c2 0),(atP c2 1),(atP c2 2),(atP c2 3),(atP c2 4),(atP c2 5),(atP c2 6),(atP c2 7),(atP c2 8),(atP c2 9),(atP c2 10),(atP c2 11),(atP c2 12),(atP c2 13),(atP c2 14),(atP c2 15),(atP c2 16)],.one v1] fun o3 =>
   binP .lss (atP o3 0) (I 0) fun r4 =>
   iteP r4
    (x0k)
    (binP .add v3 (I 1) fun r5 =>
    K [v0,(atP o3 0),v2,r5]))
   (x1k v0 v1 v2 v3)) v
def Qaf:GM
 | [.one a0,.one a1],k =>
  lenP a0 fun r0 =>
  binP .sub a1 r0 fun r1 =>
  binP .lss r1 (I 0) fun r2 =>
  iteP r2
   (rt [.sc] [(I (-1))] k)
   (lp (fun L w=>Qaf_r0 w L
    (rt [.sc] [(I (-1))] k)
    (fun q6 q7 q8 q9=>rt [.sc] [q7] k)) [a0,r1,(I 0),(I 0)])
 | _,_=>False
abbrev Qaf_e:Ent:=⟨[107],Qaf⟩
def Qaf_l:List LE:=[⟨none,0,⟨[(0,.one zB),(1,.one zB),(4,.one zB),(5,.one zB)],[],[],0,27,[]⟩,fun K k v=>Qaf_r0 v K (k .ret ⟨[(4,.one (.pv (I (-1))))],[],[],1,27,[]⟩) (fun x0 x1 x2 x3=>k (.exit 0) ⟨[(0,.one (.pv x0)),(1,.one (.pv x1)),(4,.one (.pv x2)),(5,.one (.pv x3))],[],[],0,27,[]⟩)⟩]
theorem Qaf_s:LEsOK [Qae_e] TT.nofl (kk [0,1,4,5]) Qaf_l Tryz.f107 Qaf_l:=⟨fun v K k h=>by
 apply un_all h;exact fun v0 v1 v2 v3 h=>km h
 ,trivial⟩
theorem Qaf_w:EntOK Tryz.prog TT Qaf_e:=okF_ tabok (L:=[Qae_e]) ⟨Qae_w,trivial⟩ (keep:=(kk [0,1,4,5])) (l:=Qaf_l) Tryz.func107 Qaf_s fun av k h=>by
 unfold Qaf at h;split at h
 ·exact km h
 ·exact h.elim
def Qag_r0 (v:List PV) (K:List PV→Prop) (x0k:Prop) (x1k:PV→PV→PV→PV→Prop):Prop :=
 un 4 (fun v0 v1 v2 v3 =>
  lenP v0 fun r0 =>
  binP .lss v3 r0 fun r1 =>
  iteP r1
   (elemP 1 v0 v3 fun c2 =>
   lenS (atP c2 0) fun r3 =>
   binP .sub v1 r3 fun r4 =>
   binP .lss r4 (I 0) fun r5 =>
   iteP r5
    (x0k)
    (binP .add v3 (I 1) fun r6 =>
    K [v0,r4,v2,r6]))
   (x1k v0 v1 v2 v3)) v
def Qag:GM
 | [.one a0,.one a1],k =>
  lenP a0 fun r0 =>
  binP .sub a1 r0 fun r1 =>
  binP .lss r1 (I 0) fun r2 =>
  iteP r2
   (rt [.sc] [(I (-1))] k)
   (lp (fun L w=>Qag_r0 w L
    (rt [.sc] [(I (-1))] k)
    (fun q7 q8 q9 q10=>rt [.sc] [q8] k)) [a0,r1,(I 0),(I 0)])
 | _,_=>False
abbrev Qag_e:Ent:=⟨[16],Qag⟩
def Qag_l:List LE:=[⟨none,0,⟨[(0,.one zB),(1,.one zB),(4,.one zB),(5,.one zB)],[],[],0,28,[]⟩,fun K k v=>Qag_r0 v K (k .ret ⟨[(4,.one (.pv (I (-1))))],[],[],0,28,[]⟩) (fun x0 x1 x2 x3=>k (.exit 0) ⟨[(0,.one (.pv x0)),(1,.one (.pv x1)),(4,.one (.pv x2)),(5,.one (.pv x3))],[],[],0,28,[]⟩)⟩]
theorem Qag_s:LEsOK [] TT.nofl (kk [0,1,4,5]) Qag_l Tryz.f16 Qag_l:=⟨fun v K k h=>by
 apply un_all h;exact fun v0 v1 v2 v3 h=>km h
 ,trivial⟩
theorem Qag_w:EntOK Tryz.prog TT Qag_e:=okF_ tabok (L:=[]) trivial (keep:=(kk [0,1,4,5])) (l:=Qag_l) Tryz.func16 Qag_s fun av k h=>by
 unfold Qag at h;split at h
 ·exact km h
 ·exact h.elim
def Qah:GM
 | [.agg u0,.one a4],k=>un 4 (fun a0 a1 a2 a3 =>
  lenS a0 fun r0 =>
  binP .sub a4 r0 fun r1 =>
  binP .lss r1 (I 0) fun r2 =>
  iteP r2
   (rt [.sc] [(I (-1))] k)
   (call Qag [.one a3,.one r1] fun o3 =>
   binP .lss (atP o3 0) (I 0) fun r4 =>
   iteP r4
    (rt [.sc] [(I (-1))] k)
    (rt [.sc] [(atP o3 0)] k))) u0
 | _,_=>False
abbrev Qah_e:Ent:=⟨[139],Qah⟩
theorem Qah_w:EntOK Tryz.prog TT Qah_e:=okF_ tabok (L:=[Qag_e]) ⟨Qag_w,trivial⟩ (keep:=[]) (l:=[]) Tryz.func139 trivial fun av k h=>by
 unfold Qah at h;split at h
 ·apply un_all h;clear h;intro a0 a1 a2 a3 h;exact km h
 ·exact h.elim
def Qai:GM
 | [.agg u0,.one a2],k=>un 2 (fun a0 a1 =>
  call Qaa [.one a1,.one a2] fun o0 =>
  binP .lss (atP o0 0) (I 0) fun r1 =>
  iteP r1
   (rt [.sc] [(I (-1))] k)
   (rt [.sc] [(atP o0 0)] k)) u0
 | _,_=>False
abbrev Qai_e:Ent:=⟨[275],Qai⟩
theorem Qai_w:EntOK Tryz.prog TT Qai_e:=okF_ tabok (L:=[Qaa_e]) ⟨Qaa_w,trivial⟩ (keep:=[]) (l:=[]) Tryz.func275 trivial fun av k h=>by
 unfold Qai at h;split at h
 ·apply un_all h;clear h;intro a0 a1 h;exact km h
 ·exact h.elim
def Qaj:GM
 | [.agg u0,.one a13],k=>un 13 (fun a0 a1 a2 a3 a4 a5 a6 a7 a8 a9 a10 a11 a12 =>
  call Qah [.agg [a1,a2,a3,a4],.one a13] fun o0 =>
  binP .lss (atP o0 0) (I 0) fun r1 =>
  iteP r1
   (rt [.sc] [(I (-1))] k)
   (call Qah [.agg [a5,a6,a7,a8],.one (atP o0 0)] fun o2 =>
   binP .lss (atP o2 0) (I 0) fun r3 =>
   iteP r3
    (rt [.sc] [(I (-1))] k)
    (call Qai [.agg [a9,a10],.one (atP o2 0)] fun o4 =>
    binP .lss (atP o4 0) (I 0) fun r5 =>
    iteP r5
     (rt [.sc] [(I (-1))] k)
     (call Qai [.agg [a11,a12],.one (atP o4 0)] fun o6 =>
     binP .lss (atP o6 0) (I 0) fun r7 =>
     iteP r7
      (rt [.sc] [(I (-1))] k)
      (rt [.sc] [(atP o6 0)] k))))) u0
 | _,_=>False
abbrev Qaj_e:Ent:=⟨[276],Qaj⟩
theorem Qaj_w:EntOK Tryz.prog TT Qaj_e:=okF_ tabok (L:=[Qah_e,Qai_e]) ⟨Qah_w,Qai_w,trivial⟩ (keep:=[]) (l:=[]) Tryz.func276 trivial fun av k h=>by
 unfold Qaj at h;split at h
 ·apply un_all h;clear h;intro a0 a1 a2 a3 a4 a5 a6 a7 a8 a9 a10 a11 a12 h;exact km h
 ·exact h.elim
def Qak:GM
 | [.agg u0,.one a21],k=>un 21 (fun a0 a1 a2 a3 a4 a5 a6 a7 a8 a9 a10 a11 a12 a13 a14 a15 a16 a17 a18 a19 a20 =>
  call Qaf [.one a0,.one a21] fun o0 =>
  binP .lss (atP o0 0) (I 0) fun r1 =>
  iteP r1
   (rt [.sc] [(I (-1))] k)
   (call Qah [.agg [a2,a3,a4,a5],.one (atP o0 0)] fun o2 =>
   binP .lss (atP o2 0) (I 0) fun r3 =>
   iteP r3
    (rt [.sc] [(I (-1))] k)
    (call Qai [.agg [a6,a7],.one (atP o2 0)] fun o4 =>
    binP .lss (atP o4 0) (I 0) fun r5 =>
    iteP r5
     (rt [.sc] [(I (-1))] k)
     (call Qaj [.agg [a8,a9,a10,a11,a12,a13,a14,a15,a16,a17,a18,a19,a20],.one (atP o4 0)] fun o6 =>
     binP .lss (atP o6 0) (I 0) fun r7 =>
     iteP r7
      (rt [.sc] [(I (-1))] k)
      (rt [.sc] [(atP o6 0)] k))))) u0
 | _,_=>False
abbrev Qak_e:Ent:=⟨[218],Qak⟩
theorem Qak_w:EntOK Tryz.prog TT Qak_e:=okF_ tabok (L:=[Qaf_e,Qah_e,Qai_e,Qaj_e]) ⟨Qaf_w,Qah_w,Qai_w,Qaj_w,trivial⟩ (keep:=[]) (l:=[]) Tryz.func218 trivial fun av k h=>by
 unfold Qak at h;split at h
 ·apply un_all h;clear h;intro a0 a1 a2 a3 a4 a5 a6 a7 a8 a9 a10 a11 a12 a13 a14 a15 a16 a17 a18 a19 a20 h;exact km h
 ·exact h.elim
def Qal:GM
 | [.agg u0,.one a23],k=>un 23 (fun a0 a1 a2 a3 a4 a5 a6 a7 a8 a9 a10 a11 a12 a13 a14 a15 a16 a17 a18 a19 a20 a21 a22 =>
  lenS a1 fun r0 =>
  binP .sub a23 r0 fun r1 =>
  binP .lss r1 (I 0) fun r2 =>
  iteP r2
   (rt [.sc] [(I (-1))] k)
   (call Qak [.agg [a2,a3,a4,a5,a6,a7,a8,a9,a10,a11,a12,a13,a14,a15,a16,a17,a18,a19,a20,a21,a22],.one r1] fun o3 =>
   binP .lss (atP o3 0) (I 0) fun r4 =>
   iteP r4
    (rt [.sc] [(I (-1))] k)
    (rt [.sc] [(atP o3 0)] k))) u0
 | _,_=>False
abbrev Qal_e:Ent:=⟨[147],Qal⟩
theorem Qal_w:EntOK Tryz.prog TT Qal_e:=okF_ tabok (L:=[Qak_e]) ⟨Qak_w,trivial⟩ (keep:=[]) (l:=[]) Tryz.func147 trivial fun av k h=>by
 unfold Qal at h;split at h
 ·apply un_all h;clear h;intro a0 a1 a2 a3 a4 a5 a6 a7 a8 a9 a10 a11 a12 a13 a14 a15 a16 a17 a18 a19 a20 a21 a22 h;exact km h
 ·exact h.elim
def Qam_r0 (v:List PV) (K:List PV→Prop) (x0k:Prop) (x1k:PV→PV→PV→PV→Prop):Prop :=
 un 4 (fun v0 v1 v2 v3 =>
  lenP v0 fun r0 =>
  binP .lss v3 r0 fun r1 =>
  iteP r1
   (elemP 23 v0 v3 fun c2 =>
   call Qal [.agg [(atP c2 0),(atP c2 1),(atP c2 2),(atP c2 3),(atP c2 4),(atP c2 5),(atP c2 6),(atP c2 7),(atP c2 8),(atP c2 9),(atP c2 10),(atP c2 11),(atP c2 12),(atP c2 13),(atP c2 14),(atP c2 15),(atP c2 16),(atP c2 17),(atP c2 18),(atP c2 19),(atP c2 20),(atP c2 21),(atP c2 22)],.one v1] fun o3 =>
   binP .lss (atP o3 0) (I 0) fun r4 =>
   iteP r4
    (x0k)
    (binP .add v3 (I 1) fun r5 =>
    K [v0,(atP o3 0),v2,r5]))
   (x1k v0 v1 v2 v3)) v
def Qam:GM
 | [.one a0,.one a1],k =>
  lenP a0 fun r0 =>
  binP .sub a1 r0 fun r1 =>
  binP .lss r1 (I 0) fun r2 =>
  iteP r2
   (rt [.sc] [(I (-1))] k)
   (lp (fun L w=>Qam_r0 w L
    (rt [.sc] [(I (-1))] k)
    (fun q6 q7 q8 q9=>rt [.sc] [q7] k)) [a0,r1,(I 0),(I 0)])
 | _,_=>False
abbrev Qam_e:Ent:=⟨[64],Qam⟩
def Qam_l:List LE:=[⟨none,0,⟨[(0,.one zB),(1,.one zB),(4,.one zB),(5,.one zB)],[],[],0,27,[]⟩,fun K k v=>Qam_r0 v K (k .ret ⟨[(4,.one (.pv (I (-1))))],[],[],1,27,[]⟩) (fun x0 x1 x2 x3=>k (.exit 0) ⟨[(0,.one (.pv x0)),(1,.one (.pv x1)),(4,.one (.pv x2)),(5,.one (.pv x3))],[],[],0,27,[]⟩)⟩]
theorem Qam_s:LEsOK [Qal_e] TT.nofl (kk [0,1,4,5]) Qam_l Tryz.f64 Qam_l:=⟨fun v K k h=>by
 apply un_all h;exact fun v0 v1 v2 v3 h=>km h
 ,trivial⟩
theorem Qam_w:EntOK Tryz.prog TT Qam_e:=okF_ tabok (L:=[Qal_e]) ⟨Qal_w,trivial⟩ (keep:=(kk [0,1,4,5])) (l:=Qam_l) Tryz.func64 Qam_s fun av k h=>by
 unfold Qam at h;split at h
 ·exact km h
 ·exact h.elim
def Qan_r0 (v:List PV) (K:List PV→Prop) (x0k:PV→PV→PV→PV→Prop):Prop :=
 un 4 (fun v0 v1 v2 v3 =>
  lenP v0 fun r0 =>
  binP .lss v1 r0 fun r1 =>
  iteP r1
   (elemP 1 v0 v1 fun c2 =>
   boundP 1 v3 v1 fun n3 =>
   (flatCond [.pv (I 0)] [.pv (atP c2 0)])∧setP v3 n3 0 [(atP c2 0)] fun r4 =>
   binP .add v1 (I 1) fun r5 =>
   K [v0,r5,v2,r4])
   (x0k v0 v1 v2 v3)) v
def Qan:GM
 | [.one a0],k =>
  lenP a0 fun r0 =>
  (r0=r0)∧(1=1)∧makeP 1 r0 [(I 0)] fun r1 =>
  lp (fun L w=>Qan_r0 w L
   (fun q6 q7 q8 q9=>rt [.own true 3 1] [q9] k)) [a0,(I 0),(.list 1 []),r1]
 | _,_=>False
abbrev Qan_e:Ent:=⟨[215],Qan⟩
def Qan_l:List LE:=[⟨none,0,⟨[(0,.one zB),(2,.one (.own 1)),(3,.one (.own 0)),(4,.one zB)],[],[(1,⟨.deep,3,1,(.bool false)⟩),(0,⟨.deep,3,1,(.bool false)⟩)],2,22,[]⟩,fun K k v=>Qan_r0 v K (fun x0 x1 x2 x3=>k (.exit 0) ⟨[(0,.one (.pv x0)),(2,.one (.own 1)),(3,.one (.own 0)),(4,.one (.pv x1))],[],[(1,⟨.deep,3,1,x2⟩),(0,⟨.deep,3,1,x3⟩)],2,22,[]⟩)⟩]
theorem Qan_s:LEsOK [] TT.nofl (kk [0,2,3,4]) Qan_l Tryz.f215 Qan_l:=⟨fun v K k h=>by
 apply un_all h;exact fun v0 v1 v2 v3 h=>km h
 ,trivial⟩
theorem Qan_w:EntOK Tryz.prog TT Qan_e:=okF_ tabok (L:=[]) trivial (keep:=(kk [0,2,3,4])) (l:=Qan_l) Tryz.func215 Qan_s fun av k h=>by
 unfold Qan at h;split at h
 ·exact km h
 ·exact h.elim
def Qao:GM
 | [.agg u0],k=>un 2 (fun a0 a1 =>
  call Qan [.one a0] fun o0 =>
  rt [.own true 3 1,.sc] [(atP o0 0),a1] k) u0
 | _,_=>False
abbrev Qao_e:Ent:=⟨[142],Qao⟩
theorem Qao_w:EntOK Tryz.prog TT Qao_e:=okF_ tabok (L:=[Qan_e]) ⟨Qan_w,trivial⟩ (keep:=[]) (l:=[]) Tryz.func142 trivial fun av k h=>by
 unfold Qao at h;split at h
 ·apply un_all h;clear h;intro a0 a1 h;exact km h
 ·exact h.elim
def Qap:GM
 | [.agg u0],k=>un 16 (fun a0 a1 a2 a3 a4 a5 a6 a7 a8 a9 a10 a11 a12 a13 a14 a15 =>
  call Qao [.agg [a8,a9]] fun o0 =>
  call Qao [.agg [a10,a11]] fun o1 =>
  call Qao [.agg [a13,a14]] fun o2 =>
  rt [.sc,.sc,.sc,.sc,.sc,.sc,.sc,.sc,.own true 3 1,.sc,.own true 3 1,.sc,.sc,.own true 3 1,.sc,.sc] [a0,a1,a2,a3,a4,a5,a6,a7,(atP o0 0),(atP o0 1),(atP o1 0),(atP o1 1),a12,(atP o2 0),(atP o2 1),a15] k) u0
 | _,_=>False
abbrev Qap_e:Ent:=⟨[57],Qap⟩
theorem Qap_w:EntOK Tryz.prog TT Qap_e:=okF_ tabok (L:=[Qao_e]) ⟨Qao_w,trivial⟩ (keep:=[]) (l:=[]) Tryz.func57 trivial fun av k h=>by
 unfold Qap at h;split at h
 ·apply un_all h;clear h;intro a0 a1 a2 a3 a4 a5 a6 a7 a8 a9 a10 a11 a12 a13 a14 a15 h;exact km h
 ·exact h.elim
def Qaq:GM
 | [.agg u0],k=>un 2 (fun a0 a1 =>
  rt [.sc,.sc] [a0,a1] k) u0
 | _,_=>False
abbrev Qaq_e:Ent:=⟨[316],Qaq⟩
theorem Qaq_w:EntOK Tryz.prog TT Qaq_e:=okF_ tabok (L:=[]) trivial (keep:=[]) (l:=[]) Tryz.func316 trivial fun av k h=>by
 unfold Qaq at h;split at h
 ·apply un_all h;clear h;intro a0 a1 h;exact km h
 ·exact h.elim
def Qar_r0 (v:List PV) (K:List PV→Prop) (x0k:PV→PV→PV→PV→Prop):Prop :=
 un 4 (fun v0 v1 v2 v3 =>
  lenP v0 fun r0 =>
  binP .lss v1 r0 fun r1 =>
  iteP r1
   (elemP 2 v0 v1 fun c2 =>
   call Qaq [.agg [(atP c2 0),(atP c2 1)]] fun o3 =>
   boundP 2 v3 v1 fun n4 =>
   (flatCond [.pv (I 0),.pv (I 0)] [.pv (atP o3 0),.pv (atP o3 1)])∧setP v3 n4 0 [(atP o3 0),(atP o3 1)] fun r5 =>
   binP .add v1 (I 1) fun r6 =>
   K [v0,r6,v2,r5])
   (x0k v0 v1 v2 v3)) v
def Qar:GM
 | [.one a0],k =>
  lenP a0 fun r0 =>
  (r0=r0)∧(2=2)∧makeP 2 r0 [(I 0),(I 0)] fun r1 =>
  lp (fun L w=>Qar_r0 w L
   (fun q7 q8 q9 q10=>rt [.own true 317 2] [q10] k)) [a0,(I 0),(.list 2 []),r1]
 | _,_=>False
abbrev Qar_e:Ent:=⟨[257],Qar⟩
def Qar_l:List LE:=[⟨none,0,⟨[(0,.one zB),(2,.one (.own 1)),(3,.one (.own 0)),(4,.one zB)],[],[(1,⟨.deep,317,2,(.bool false)⟩),(0,⟨.deep,317,2,(.bool false)⟩)],2,23,[]⟩,fun K k v=>Qar_r0 v K (fun x0 x1 x2 x3=>k (.exit 0) ⟨[(0,.one (.pv x0)),(2,.one (.own 1)),(3,.one (.own 0)),(4,.one (.pv x1))],[],[(1,⟨.deep,317,2,x2⟩),(0,⟨.deep,317,2,x3⟩)],2,23,[]⟩)⟩]
theorem Qar_s:LEsOK [Qaq_e] TT.nofl (kk [0,2,3,4]) Qar_l Tryz.f257 Qar_l:=⟨fun v K k h=>by
 apply un_all h;exact fun v0 v1 v2 v3 h=>km h
 ,trivial⟩
theorem Qar_w:EntOK Tryz.prog TT Qar_e:=okF_ tabok (L:=[Qaq_e]) ⟨Qaq_w,trivial⟩ (keep:=(kk [0,2,3,4])) (l:=Qar_l) Tryz.func257 Qar_s fun av k h=>by
 unfold Qar at h;split at h
 ·exact km h
 ·exact h.elim
def Qas:GM
 | [.agg u0],k=>un 17 (fun a0 a1 a2 a3 a4 a5 a6 a7 a8 a9 a10 a11 a12 a13 a14 a15 a16 =>
  call Qap [.agg [a0,a1,a2,a3,a4,a5,a6,a7,a8,a9,a10,a11,a12,a13,a14,a15]] fun o0 =>
  call Qar [.one a16] fun o1 =>
  rt [.sc,.sc,.sc,.sc,.sc,.sc,.sc,.sc,.own true 3 1,.sc,.own true 3 1,.sc,.sc,.own true 3 1,.sc,.sc,.own true 317 2] [(atP o0 0),(atP o0 1),(atP o0 2),(atP o0 3),(atP o0 4),(atP o0 5),(atP o0 6),(atP o0 7),(atP o0 8),(atP o0 9),(atP o0 10),(atP o0 11),(atP o0 12),(atP o0 13),(atP o0 14),(atP o0 15),(atP o1 0)] k) u0
 | _,_=>False
abbrev Qas_e:Ent:=⟨[195],Qas⟩
theorem Qas_w:EntOK Tryz.prog TT Qas_e:=okF_ tabok (L:=[Qap_e,Qar_e]) ⟨Qap_w,Qar_w,trivial⟩ (keep:=[]) (l:=[]) Tryz.func195 trivial fun av k h=>by
 unfold Qas at h;split at h
 ·apply un_all h;clear h;intro a0 a1 a2 a3 a4 a5 a6 a7 a8 a9 a10 a11 a12 a13 a14 a15 a16 h;exact km h
 ·exact h.elim
def Qat_r0 (v:List PV) (K:List PV→Prop) (x0k:PV→PV→PV→PV→Prop):Prop :=
 un 4 (fun v0 v1 v2 v3 =>
  lenP v0 fun r0 =>
  binP .lss v1 r0 fun r1 =>
  iteP r1
   (elemP 17 v0 v1 fun c2 =>
   call Qas [.agg [(atP c2 0),(atP c2 1),(atP c2 2),(atP c2 3),(atP c2 4),(atP c2 5),(atP c2 6),(atP c2 7),(atP c2 8),(atP c2 9),(atP c2 10),(atP c2 11),(atP c2 12),(atP c2 13),(atP c2 14),(atP c2 15),(atP c2 16)]] fun o3 =>
   boundP 17 v3 v1 fun n4 =>
   (flatCond [.pv (I 0),.pv (I 0),.pv (I 0),.pv (I 0),.pv (I 0),.pv (I 0),.pv (I 0),.pv (I 0),.nil 3 1,.pv (I 0),.nil 3 1,.pv (I 0),.pv (I 0),.nil 3 1,.pv (I 0),zB,.nil 317 2] [.pv (atP o3 0),.pv (atP o3 1),.pv (atP o3 2),.pv (atP o3 3),.pv (atP o3 4),.pv (atP o3 5),.pv (atP o3 6),.pv (atP o3 7),.own 10,.pv (atP o3 9),.own 12,.pv (atP o3 11),.pv (atP o3 12),.own 15,.pv (atP o3 14),.pv (atP o3 15),.own 18])∧setP v3 n4 0 [(atP o3 0),(atP o3 1),(atP o3 2),(atP o3 3),(atP o3 4),(atP o3 5),(atP o3 6),(atP o3 7),(atP o3 8),(atP o3 9),(atP o3 10),(atP o3 11),(atP o3 12),(atP o3 13),(atP o3 14),(atP o3 15),(atP o3 16)] fun r5 =>
   binP .add v1 (I 1) fun r6 =>
   K [v0,r6,v2,r5])
   (x0k v0 v1 v2 v3)) v
def Qat:GM
 | [.one a0],k =>
  lenP a0 fun r0 =>
  (r0=r0)∧(17=17)∧makeP 17 r0 [(I 0),(I 0),(I 0),(I 0),(I 0),(I 0),(I 0),(I 0),(.list 1 []),(I 0),(.list 1 []),(I 0),(I 0),(.list 1 []),(I 0),(.bool false),(.list 2 [])] fun r1 =>
  lp (fun L w=>Qat_r0 w L
   (fun q7 q8 q9 q10=>rt [.own true 257 17] [q10] k)) [a0,(I 0),(.list 17 []),r1]
 | _,_=>False
abbrev Qat_e:Ent:=⟨[116],Qat⟩
def Qat_l:List LE:=[⟨none,0,⟨[(0,.one zB),(2,.one (.own 1)),(3,.one (.own 0)),(4,.one zB)],[],[(1,⟨.deep,257,17,(.bool false)⟩),(0,⟨.deep,257,17,(.bool false)⟩)],2,23,[]⟩,fun K k v=>Qat_r0 v K (fun x0 x1 x2 x3=>k (.exit 0) ⟨[(0,.one (.pv x0)),(2,.one (.own 1)),(3,.one (.own 0)),(4,.one (.pv x1))],[],[(1,⟨.deep,257,17,x2⟩),(0,⟨.deep,257,17,x3⟩)],2,23,[]⟩)⟩]
theorem Qat_s:LEsOK [Qas_e] TT.nofl (kk [0,2,3,4]) Qat_l Tryz.f116 Qat_l:=⟨fun v K k h=>by
 apply un_all h;exact fun v0 v1 v2 v3 h=>km h
 ,trivial⟩
theorem Qat_w:EntOK Tryz.prog TT Qat_e:=okF_ tabok (L:=[Qas_e]) ⟨Qas_w,trivial⟩ (keep:=(kk [0,2,3,4])) (l:=Qat_l) Tryz.func116 Qat_s fun av k h=>by
 unfold Qat at h;split at h
 ·exact km h
 ·exact h.elim
def Qau_r0 (v:List PV) (K:List PV→Prop) (x0k:PV→PV→PV→PV→Prop):Prop :=
 un 4 (fun v0 v1 v2 v3 =>
  lenP v0 fun r0 =>
  binP .lss v1 r0 fun r1 =>
  iteP r1
   (elemP 1 v0 v1 fun c2 =>
   boundP 1 v3 v1 fun n3 =>
   (flatCond [.pv (.str ⟨#[]⟩)] [.pv (atP c2 0)])∧setP v3 n3 0 [(atP c2 0)] fun r4 =>
   binP .add v1 (I 1) fun r5 =>
   K [v0,r5,v2,r4])
   (x0k v0 v1 v2 v3)) v
def Qau:GM
 | [.one a0],k =>
  lenP a0 fun r0 =>
  (r0=r0)∧(1=1)∧makeP 1 r0 [(.str ⟨#[]⟩)] fun r1 =>
  lp (fun L w=>Qau_r0 w L
   (fun q6 q7 q8 q9=>rt [.own true 9 1] [q9] k)) [a0,(I 0),(.list 1 []),r1]
 | _,_=>False
abbrev Qau_e:Ent:=⟨[19],Qau⟩
def Qau_l:List LE:=[⟨none,0,⟨[(0,.one zB),(2,.one (.own 1)),(3,.one (.own 0)),(4,.one zB)],[],[(1,⟨.deep,9,1,(.bool false)⟩),(0,⟨.deep,9,1,(.bool false)⟩)],2,22,[]⟩,fun K k v=>Qau_r0 v K (fun x0 x1 x2 x3=>k (.exit 0) ⟨[(0,.one (.pv x0)),(2,.one (.own 1)),(3,.one (.own 0)),(4,.one (.pv x1))],[],[(1,⟨.deep,9,1,x2⟩),(0,⟨.deep,9,1,x3⟩)],2,22,[]⟩)⟩]
theorem Qau_s:LEsOK [] TT.nofl (kk [0,2,3,4]) Qau_l Tryz.f19 Qau_l:=⟨fun v K k h=>by
 apply un_all h;exact fun v0 v1 v2 v3 h=>km h
 ,trivial⟩
theorem Qau_w:EntOK Tryz.prog TT Qau_e:=okF_ tabok (L:=[]) trivial (keep:=(kk [0,2,3,4])) (l:=Qau_l) Tryz.func19 Qau_s fun av k h=>by
 unfold Qau at h;split at h
 ·exact km h
 ·exact h.elim
def Qav:GM
 | [.agg u0],k=>un 4 (fun a0 a1 a2 a3 =>
  call Qau [.one a3] fun o0 =>
  rt [.sc,.sc,.sc,.own true 9 1] [a0,a1,a2,(atP o0 0)] k) u0
 | _,_=>False
abbrev Qav_e:Ent:=⟨[143],Qav⟩
theorem Qav_w:EntOK Tryz.prog TT Qav_e:=okF_ tabok (L:=[Qau_e]) ⟨Qau_w,trivial⟩ (keep:=[]) (l:=[]) Tryz.func143 trivial fun av k h=>by
 unfold Qav at h;split at h
 ·apply un_all h;clear h;intro a0 a1 a2 a3 h;exact km h
 ·exact h.elim
def Qaw:GM
 | [.agg u0],k=>un 2 (fun a0 a1 =>
  call Qan [.one a1] fun o0 =>
  rt [.sc,.own true 3 1] [a0,(atP o0 0)] k) u0
 | _,_=>False
abbrev Qaw_e:Ent:=⟨[277],Qaw⟩
theorem Qaw_w:EntOK Tryz.prog TT Qaw_e:=okF_ tabok (L:=[Qan_e]) ⟨Qan_w,trivial⟩ (keep:=[]) (l:=[]) Tryz.func277 trivial fun av k h=>by
 unfold Qaw at h;split at h
 ·apply un_all h;clear h;intro a0 a1 h;exact km h
 ·exact h.elim
def Qax:GM
 | [.agg u0],k=>un 13 (fun a0 a1 a2 a3 a4 a5 a6 a7 a8 a9 a10 a11 a12 =>
  call Qav [.agg [a1,a2,a3,a4]] fun o0 =>
  call Qav [.agg [a5,a6,a7,a8]] fun o1 =>
  call Qaw [.agg [a9,a10]] fun o2 =>
  call Qaw [.agg [a11,a12]] fun o3 =>
  rt [.sc,.sc,.sc,.sc,.own true 9 1,.sc,.sc,.sc,.own true 9 1,.sc,.own true 3 1,.sc,.own true 3 1] [a0,(atP o0 0),(atP o0 1),(atP o0 2),(atP o0 3),(atP o1 0),(atP o1 1),(atP o1 2),(atP o1 3),(atP o2 0),(atP o2 1),(atP o3 0),(atP o3 1)] k) u0
 | _,_=>False
abbrev Qax_e:Ent:=⟨[278],Qax⟩
theorem Qax_w:EntOK Tryz.prog TT Qax_e:=okF_ tabok (L:=[Qav_e,Qaw_e]) ⟨Qav_w,Qaw_w,trivial⟩ (keep:=[]) (l:=[]) Tryz.func278 trivial fun av k h=>by
 unfold Qax at h;split at h
 ·apply un_all h;clear h;intro a0 a1 a2 a3 a4 a5 a6 a7 a8 a9 a10 a11 a12 h;exact km h
 ·exact h.elim
def Qay:GM
 | [.agg u0],k=>un 21 (fun a0 a1 a2 a3 a4 a5 a6 a7 a8 a9 a10 a11 a12 a13 a14 a15 a16 a17 a18 a19 a20 =>
  call Qat [.one a0] fun o0 =>
  call Qav [.agg [a2,a3,a4,a5]] fun o1 =>
  call Qaw [.agg [a6,a7]] fun o2 =>
  call Qax [.agg [a8,a9,a10,a11,a12,a13,a14,a15,a16,a17,a18,a19,a20]] fun o3 =>
  rt [.own true 257 17,.sc,.sc,.sc,.sc,.own true 9 1,.sc,.own true 3 1,.sc,.sc,.sc,.sc,.own true 9 1,.sc,.sc,.sc,.own true 9 1,.sc,.own true 3 1,.sc,.own true 3 1] [(atP o0 0),a1,(atP o1 0),(atP o1 1),(atP o1 2),(atP o1 3),(atP o2 0),(atP o2 1),(atP o3 0),(atP o3 1),(atP o3 2),(atP o3 3),(atP o3 4),(atP o3 5),(atP o3 6),(atP o3 7),(atP o3 8),(atP o3 9),(atP o3 10),(atP o3 11),(atP o3 12)] k) u0
 | _,_=>False
abbrev Qay_e:Ent:=⟨[219],Qay⟩
theorem Qay_w:EntOK Tryz.prog TT Qay_e:=okF_ tabok (L:=[Qat_e,Qav_e,Qaw_e,Qax_e]) ⟨Qat_w,Qav_w,Qaw_w,Qax_w,trivial⟩ (keep:=[]) (l:=[]) Tryz.func219 trivial fun av k h=>by
 unfold Qay at h;split at h
 ·apply un_all h;clear h;intro a0 a1 a2 a3 a4 a5 a6 a7 a8 a9 a10 a11 a12 a13 a14 a15 a16 a17 a18 a19 a20 h;exact km h
 ·exact h.elim
def Qaz:GM
 | [.agg u0],k=>un 23 (fun a0 a1 a2 a3 a4 a5 a6 a7 a8 a9 a10 a11 a12 a13 a14 a15 a16 a17 a18 a19 a20 a21 a22 =>
  call Qay [.agg [a2,a3,a4,a5,a6,a7,a8,a9,a10,a11,a12,a13,a14,a15,a16,a17,a18,a19,a20,a21,a22]] fun o0 =>
  rt [.sc,.sc,.own true 257 17,.sc,.sc,.sc,.sc,.own true 9 1,.sc,.own true 3 1,.sc,.sc,.sc,.sc,.own true 9 1,.sc,.sc,.sc,.own true 9 1,.sc,.own true 3 1,.sc,.own true 3 1] [a0,a1,(atP o0 0),(atP o0 1),(atP o0 2),(atP o0 3),(atP o0 4),(atP o0 5),(atP o0 6),(atP o0 7),(atP o0 8),(atP o0 9),(atP o0 10),(atP o0 11),(atP o0 12),(atP o0 13),(atP o0 14),(atP o0 15),(atP o0 16),(atP o0 17),(atP o0 18),(atP o0 19),(atP o0 20)] k) u0
 | _,_=>False
abbrev Qaz_e:Ent:=⟨[148],Qaz⟩
theorem Qaz_w:EntOK Tryz.prog TT Qaz_e:=okF_ tabok (L:=[Qay_e]) ⟨Qay_w,trivial⟩ (keep:=[]) (l:=[]) Tryz.func148 trivial fun av k h=>by
 unfold Qaz at h;split at h
 ·apply un_all h;clear h;intro a0 a1 a2 a3 a4 a5 a6 a7 a8 a9 a10 a11 a12 a13 a14 a15 a16 a17 a18 a19 a20 a21 a22 h;exact km h
 ·exact h.elim
def Qba_r0 (v:List PV) (K:List PV→Prop) (x0k:PV→PV→PV→PV→Prop):Prop :=
 un 4 (fun v0 v1 v2 v3 =>
  lenP v0 fun r0 =>
  binP .lss v1 r0 fun r1 =>
  iteP r1
   (elemP 23 v0 v1 fun c2 =>
   call Qaz [.agg [(atP c2 0),(atP c2 1),(atP c2 2),(atP c2 3),(atP c2 4),(atP c2 5),(atP c2 6),(atP c2 7),(atP c2 8),(atP c2 9),(atP c2 10),(atP c2 11),(atP c2 12),(atP c2 13),(atP c2 14),(atP c2 15),(atP c2 16),(atP c2 17),(atP c2 18),(atP c2 19),(atP c2 20),(atP c2 21),(atP c2 22)]] fun o3 =>
   boundP 23 v3 v1 fun n4 =>
   (flatCond [.pv (I 0),.pv (.str ⟨#[]⟩),.nil 257 17,zB,.pv (.str ⟨#[]⟩),.pv (I 0),.pv (I 0),.nil 9 1,.pv (I 0),.nil 3 1,.pv (I 0),.pv (.str ⟨#[]⟩),.pv (I 0),.pv (I 0),.nil 9 1,.pv (.str ⟨#[]⟩),.pv (I 0),.pv (I 0),.nil 9 1,.pv (I 0),.nil 3 1,.pv (I 0),.nil 3 1] [.pv (atP o3 0),.pv (atP o3 1),.own 4,.pv (atP o3 3),.pv (atP o3 4),.pv (atP o3 5),.pv (atP o3 6),.own 9,.pv (atP o3 8),.own 11,.pv (atP o3 10),.pv (atP o3 11),.pv (atP o3 12),.pv (atP o3 13),.own 16,.pv (atP o3 15),.pv (atP o3 16),.pv (atP o3 17),.own 20,.pv (atP o3 19),.own 22,.pv (atP o3 21),.own 24])∧setP v3 n4 0 [(atP o3 0),(atP o3 1),(atP o3 2),(atP o3 3),(atP o3 4),(atP o3 5),(atP o3 6),(atP o3 7),(atP o3 8),(atP o3 9),(atP o3 10),(atP o3 11),(atP o3 12),(atP o3 13),(atP o3 14),(atP o3 15),(atP o3 16),(atP o3 17),(atP o3 18),(atP o3 19),(atP o3 20),(atP o3 21),(atP o3 22)] fun r5 =>
   binP .add v1 (I 1) fun r6 =>
   K [v0,r6,v2,r5])
   (x0k v0 v1 v2 v3)) v
def Qba:GM
 | [.one a0],k =>
  lenP a0 fun r0 =>
  (r0=r0)∧(23=23)∧makeP 23 r0 [(I 0),(.str ⟨#[]⟩),(.list 17 []),(.bool false),(.str ⟨#[]⟩),(I 0),(I 0),(.list 1 []),(I 0),(.list 1 []),(I 0),(.str ⟨#[]⟩),(I 0),(I 0),(.list 1 []),(.str ⟨#[]⟩),(I 0),(I 0),(.list 1 []),(I 0),(.list 1 []),(I 0),(.list 1 [])] fun r1 =>
  lp (fun L w=>Qba_r0 w L
   (fun q7 q8 q9 q10=>rt [.own true 221 23] [q10] k)) [a0,(I 0),(.list 23 []),r1]
 | _,_=>False
abbrev Qba_e:Ent:=⟨[65],Qba⟩
def Qba_l:List LE:=[⟨none,0,⟨[(0,.one zB),(2,.one (.own 1)),(3,.one (.own 0)),(4,.one zB)],[],[(1,⟨.deep,221,23,(.bool false)⟩),(0,⟨.deep,221,23,(.bool false)⟩)],2,23,[]⟩,fun K k v=>Qba_r0 v K (fun x0 x1 x2 x3=>k (.exit 0) ⟨[(0,.one (.pv x0)),(2,.one (.own 1)),(3,.one (.own 0)),(4,.one (.pv x1))],[],[(1,⟨.deep,221,23,x2⟩),(0,⟨.deep,221,23,x3⟩)],2,23,[]⟩)⟩]
theorem Qba_s:LEsOK [Qaz_e] TT.nofl (kk [0,2,3,4]) Qba_l Tryz.f65 Qba_l:=⟨fun v K k h=>by
 apply un_all h;exact fun v0 v1 v2 v3 h=>km h
 ,trivial⟩
theorem Qba_w:EntOK Tryz.prog TT Qba_e:=okF_ tabok (L:=[Qaz_e]) ⟨Qaz_w,trivial⟩ (keep:=(kk [0,2,3,4])) (l:=Qba_l) Tryz.func65 Qba_s fun av k h=>by
 unfold Qba at h;split at h
 ·exact km h
 ·exact h.elim
def Qbb:GM
 | [.agg u0],k=>un 2 (fun a0 a1 =>
  catP 1 a0 (.list 1 []) fun r0 =>
  rt [.pv,.sc] [r0,a1] k) u0
 | _,_=>False
abbrev Qbb_e:Ent:=⟨[297],Qbb⟩
theorem Qbb_w:EntOK Tryz.prog TT Qbb_e:=ok_ tabok (L:=[]) trivial (keep:=[]) (l:=[]) Tryz.func297 trivial fun av k h=>by
 unfold Qbb at h;split at h
 ·apply un_all h;clear h;intro a0 a1 h;exact km h
 ·exact h.elim
def Qbc:GM
 | [.agg u0],k=>un 16 (fun a0 a1 a2 a3 a4 a5 a6 a7 a8 a9 a10 a11 a12 a13 a14 a15 =>
  call Qbb [.agg [a8,a9]] fun o0 =>
  call Qbb [.agg [a10,a11]] fun o1 =>
  call Qbb [.agg [a13,a14]] fun o2 =>
  rt [.sc,.sc,.sc,.sc,.sc,.sc,.sc,.sc,.pv,.sc,.pv,.sc,.sc,.pv,.sc,.sc] [a0,a1,a2,a3,a4,a5,a6,a7,(atP o0 0),(atP o0 1),(atP o1 0),(atP o1 1),a12,(atP o2 0),(atP o2 1),a15] k) u0
 | _,_=>False
abbrev Qbc_e:Ent:=⟨[238],Qbc⟩
theorem Qbc_w:EntOK Tryz.prog TT Qbc_e:=ok_ tabok (L:=[Qbb_e]) ⟨Qbb_w,trivial⟩ (keep:=[]) (l:=[]) Tryz.func238 trivial fun av k h=>by
 unfold Qbc at h;split at h
 ·apply un_all h;clear h;intro a0 a1 a2 a3 a4 a5 a6 a7 a8 a9 a10 a11 a12 a13 a14 a15 h;exact km h
 ·exact h.elim
def Qbd:GM
 | [.agg u0],k=>un 17 (fun a0 a1 a2 a3 a4 a5 a6 a7 a8 a9 a10 a11 a12 a13 a14 a15 a16 =>
  call Qbc [.agg [a0,a1,a2,a3,a4,a5,a6,a7,a8,a9,a10,a11,a12,a13,a14,a15]] fun o0 =>
  catP 2 a16 (.list 2 []) fun r1 =>
  rt [.sc,.sc,.sc,.sc,.sc,.sc,.sc,.sc,.pv,.sc,.pv,.sc,.sc,.pv,.sc,.sc,.pv] [(atP o0 0),(atP o0 1),(atP o0 2),(atP o0 3),(atP o0 4),(atP o0 5),(atP o0 6),(atP o0 7),(atP o0 8),(atP o0 9),(atP o0 10),(atP o0 11),(atP o0 12),(atP o0 13),(atP o0 14),(atP o0 15),r1] k) u0
 | _,_=>False
abbrev Qbd_e:Ent:=⟨[256],Qbd⟩
theorem Qbd_w:EntOK Tryz.prog TT Qbd_e:=ok_ tabok (L:=[Qbc_e]) ⟨Qbc_w,trivial⟩ (keep:=[]) (l:=[]) Tryz.func256 trivial fun av k h=>by
 unfold Qbd at h;split at h
 ·apply un_all h;clear h;intro a0 a1 a2 a3 a4 a5 a6 a7 a8 a9 a10 a11 a12 a13 a14 a15 a16 h;exact km h
 ·exact h.elim
def Qbe_r0 (v:List PV) (K:List PV→Prop) (x0k:PV→PV→PV→PV→Prop):Prop :=
 un 4 (fun v0 v1 v2 v3 =>
  lenP v0 fun r0 =>
  binP .lss v1 r0 fun r1 =>
  iteP r1
   (elemP 17 v0 v1 fun c2 =>
   call Qbd [.agg [(atP c2 0),(atP c2 1),(atP c2 2),(atP c2 3),(atP c2 4),(atP c2 5),(atP c2 6),(atP c2 7),(atP c2 8),(atP c2 9),(atP c2 10),(atP c2 11),(atP c2 12),(atP c2 13),(atP c2 14),(atP c2 15),(atP c2 16)]] fun o3 =>
   (1=1)∧(17≤16777216)∧(17=17)∧(0=0)∧(17=17)∧catP 17 v3 (.list 17 [[(atP o3 0),(atP o3 1),(atP o3 2),(atP o3 3),(atP o3 4),(atP o3 5),(atP o3 6),(atP o3 7),(atP o3 8),(atP o3 9),(atP o3 10),(atP o3 11),(atP o3 12),(atP o3 13),(atP o3 14),(atP o3 15),(atP o3 16)]]) fun r4 =>
   binP .add v1 (I 1) fun r5 =>
   K [v0,r5,v2,r4])
   (x0k v0 v1 v2 v3)) v
def Qbe:GM
 | [.one a0],k =>
  (0=0)∧(0≤16777216)∧(17=17)∧lp (fun L w=>Qbe_r0 w L
   (fun q6 q7 q8 q9=>rt [.pv] [q9] k)) [a0,(I 0),(.list 17 []),(.list 17 [])]
 | _,_=>False
abbrev Qbe_e:Ent:=⟨[191],Qbe⟩
def Qbe_l:List LE:=[⟨none,0,⟨[(0,.one zB),(2,.one (.own 1)),(3,.one (.own 0)),(4,.one zB)],[],[(1,⟨.flat,257,17,(.bool false)⟩),(0,⟨.flat,257,17,(.bool false)⟩)],2,21,[]⟩,fun K k v=>Qbe_r0 v K (fun x0 x1 x2 x3=>k (.exit 0) ⟨[(0,.one (.pv x0)),(2,.one (.own 1)),(3,.one (.own 0)),(4,.one (.pv x1))],[],[(1,⟨.flat,257,17,x2⟩),(0,⟨.flat,257,17,x3⟩)],2,21,[]⟩)⟩]
theorem Qbe_s:LEsOK [Qbd_e] TT (kk [0,2,3,4,999999]) Qbe_l Tryz.f191 Qbe_l:=⟨fun v K k h=>by
 apply un_all h;exact fun v0 v1 v2 v3 h=>km h
 ,trivial⟩
theorem Qbe_w:EntOK Tryz.prog TT Qbe_e:=ok_ tabok (L:=[Qbd_e]) ⟨Qbd_w,trivial⟩ (keep:=(kk [0,2,3,4,999999])) (l:=Qbe_l) Tryz.func191 Qbe_s fun av k h=>by
 unfold Qbe at h;split at h
 ·exact km h
 ·exact h.elim
def Qbf:GM
 | [.agg u0],k=>un 51 (fun a0 a1 a2 a3 a4 a5 a6 a7 a8 a9 a10 a11 a12 a13 a14 a15 a16 a17 a18 a19 a20 a21 a22 a23 a24 a25 a26 a27 a28 a29 a30 a31 a32 a33 a34 a35 a36 a37 a38 a39 a40 a41 a42 a43 a44 a45 a46 a47 a48 a49 a50 =>
  call Qbd [.agg [a0,a1,a2,a3,a4,a5,a6,a7,a8,a9,a10,a11,a12,a13,a14,a15,a16]] fun o0 =>
  call Qbd [.agg [a17,a18,a19,a20,a21,a22,a23,a24,a25,a26,a27,a28,a29,a30,a31,a32,a33]] fun o1 =>
  call Qbd [.agg [a34,a35,a36,a37,a38,a39,a40,a41,a42,a43,a44,a45,a46,a47,a48,a49,a50]] fun o2 =>
  rt [.sc,.sc,.sc,.sc,.sc,.sc,.sc,.sc,.pv,.sc,.pv,.sc,.sc,.pv,.sc,.sc,.pv,.sc,.sc,.sc,.sc,.sc,.sc,.sc,.sc,.pv,.sc,.pv,.sc,.sc,.pv,.sc,.sc,.pv,.sc,.sc,.sc,.sc,.sc,.sc,.sc,.sc,.pv,.sc,.pv,.sc,.sc,.pv,.sc,.sc,.pv] [(atP o0 0),(atP o0 1),(atP o0 2),(atP o0 3),(atP o0 4),(atP o0 5),(atP o0 6),(atP o0 7),(atP o0 8),(atP o0 9),(atP o0 10),(atP o0 11),(atP o0 12),(atP o0 13),(atP o0 14),(atP o0 15),(atP o0 16),(atP o1 0),(atP o1 1),(atP o1 2),(atP o1 3),(atP o1 4),(atP o1 5),(atP o1 6),(atP o1 7),(atP o1 8),(atP o1 9),(atP o1 10),(atP o1 11),(atP o1 12),(atP o1 13),(atP o1 14),(atP o1 15),(atP o1 16),(atP o2 0),(atP o2 1),(atP o2 2),(atP o2 3),(atP o2 4),(atP o2 5),(atP o2 6),(atP o2 7),(atP o2 8),(atP o2 9),(atP o2 10),(atP o2 11),(atP o2 12),(atP o2 13),(atP o2 14),(atP o2 15),(atP o2 16)] k) u0
 | _,_=>False
abbrev Qbf_e:Ent:=⟨[221],Qbf⟩
theorem Qbf_w:EntOK Tryz.prog TT Qbf_e:=ok_ tabok (L:=[Qbd_e]) ⟨Qbd_w,trivial⟩ (keep:=[]) (l:=[]) Tryz.func221 trivial fun av k h=>by
 unfold Qbf at h;split at h
 ·apply un_all h;clear h;intro a0 a1 a2 a3 a4 a5 a6 a7 a8 a9 a10 a11 a12 a13 a14 a15 a16 a17 a18 a19 a20 a21 a22 a23 a24 a25 a26 a27 a28 a29 a30 a31 a32 a33 a34 a35 a36 a37 a38 a39 a40 a41 a42 a43 a44 a45 a46 a47 a48 a49 a50 h;exact km h
 ·exact h.elim
def Qbg_r0 (v:List PV) (K:List PV→Prop) (x0k:PV→PV→PV→PV→PV→PV→PV→Prop):Prop :=
 un 7 (fun v0 v1 v2 v3 v4 v5 v6 =>
  lenP v1 fun r0 =>
  binP .lss v0 r0 fun r1 =>
  iteP r1
   (elemP 1 v1 v0 fun c2 =>
   call Qbe [.one (atP c2 0)] fun o3 =>
   (1=1)∧(1≤16777216)∧(1=1)∧(0=0)∧(1=1)∧catP 1 v6 (.list 1 [[(atP o3 0)]]) fun r4 =>
   binP .add v0 (I 1) fun r5 =>
   K [r5,v1,v2,v3,v4,v5,r4])
   (x0k v0 v1 v2 v3 v4 v5 v6)) v
def Qbg_r1 (v:List PV) (K:List PV→Prop) (x0k:PV→PV→PV→PV→PV→PV→PV→PV→Prop):Prop :=
 un 8 (fun v0 v1 v2 v3 v4 v5 v6 v7 =>
  lenP v3 fun r0 =>
  binP .lss v1 r0 fun r1 =>
  iteP r1
   (elemP 51 v3 v1 fun c2 =>
   call Qbf [.agg [(atP c2 0),(atP c2 1),(atP c2 2),(atP c2 3),(atP c2 4),(atP c2 5),(atP c2 6),(atP c2 7),(atP c2 8),(atP c2 9),(atP c2 10),(atP c2 11),(atP c2 12),(atP c2 13),(atP c2 14),(atP c2 15),(atP c2 16),(atP c2 17),(atP c2 18),(atP c2 19),(atP c2 20),(atP c2 21),(atP c2 22),(atP c2 23),(atP c2 24),(atP c2 25),(atP c2 26),(atP c2 27),(atP c2 28),(atP c2 29),(atP c2 30),(atP c2 31),(atP c2 32),(atP c2 33),(atP c2 34),(atP c2 35),(atP c2 36),(atP c2 37),(atP c2 38),(atP c2 39),(atP c2 40),(atP c2 41),(atP c2 42),(atP c2 43),(atP c2 44),(atP c2 45),(atP c2 46),(atP c2 47),(atP c2 48),(atP c2 49),(atP c2 50)]] fun o3 =>
   (1=1)∧(51≤16777216)∧(51=51)∧(0=0)∧(51=51)∧catP 51 v6 (.list 51 [[(atP o3 0),(atP o3 1),(atP o3 2),(atP o3 3),(atP o3 4),(atP o3 5),(atP o3 6),(atP o3 7),(atP o3 8),(atP o3 9),(atP o3 10),(atP o3 11),(atP o3 12),(atP o3 13),(atP o3 14),(atP o3 15),(atP o3 16),(atP o3 17),(atP o3 18),(atP o3 19),(atP o3 20),(atP o3 21),(atP o3 22),(atP o3 23),(atP o3 24),(atP o3 25),(atP o3 26),(atP o3 27),(atP o3 28),(atP o3 29),(atP o3 30),(atP o3 31),(atP o3 32),(atP o3 33),(atP o3 34),(atP o3 35),(atP o3 36),(atP o3 37),(atP o3 38),(atP o3 39),(atP o3 40),(atP o3 41),(atP o3 42),(atP o3 43),(atP o3 44),(atP o3 45),(atP o3 46),(atP o3 47),(atP o3 48),(atP o3 49),(atP o3 50)]]) fun r4 =>
   binP .add v1 (I 1) fun r5 =>
   K [v0,r5,v2,v3,v4,v5,r4,v7])
   (x0k v0 v1 v2 v3 v4 v5 v6 v7)) v
def Qbg:GM
 | [.agg u0],k=>un 2 (fun a0 a1 =>
  lp (fun L w=>Qbg_r0 w L
   (fun q6 q7 q8 q9 q10 q11 q12=>lp (fun L w=>Qbg_r1 w L
    (fun q13 q14 q15 q16 q17 q18 q19 q20=>rt [.own false 90 1,.own false 259 51] [q20,q19] k)) [q6,(I 0),q7,q8,q9,q10,q11,q12])) [(I 0),a0,a1,(.list 51 []),(.list 1 []),(.list 51 []),(.list 1 [])]) u0
 | _,_=>False
abbrev Qbg_e:Ent:=⟨[150],Qbg⟩
def Qbg_l:List LE:=[⟨none,0,⟨[(1,.one (.ptr 0 0)),(2,.one (.ptr 1 0)),(3,.one (.ptr 2 0)),(4,.one zB)],[(2,[.own 3,.own 4]),(1,[.own 5,.own 6]),(0,[zB,zB])],[(6,⟨.flat,259,51,(.bool false)⟩),(5,⟨.flat,90,1,(.bool false)⟩),(4,⟨.flat,259,51,(.bool false)⟩),(3,⟨.flat,90,1,(.bool false)⟩)],7,44,[]⟩,fun K k v=>Qbg_r0 v K (fun x0 x1 x2 x3 x4 x5 x6=>k (.exit 0) ⟨[(1,.one (.ptr 0 0)),(2,.one (.ptr 1 0)),(3,.one (.ptr 2 0)),(4,.one (.pv x0))],[(2,[.own 3,.own 4]),(1,[.own 5,.own 6]),(0,[.pv x1,.pv x2])],[(6,⟨.flat,259,51,x3⟩),(5,⟨.flat,90,1,x4⟩),(4,⟨.flat,259,51,x5⟩),(3,⟨.flat,90,1,x6⟩)],7,44,[]⟩)⟩,
 ⟨none,1,⟨[(1,.one (.ptr 0 0)),(2,.one (.ptr 1 0)),(3,.one (.ptr 2 0)),(4,.one zB),(5,.one zB)],[(2,[.own 3,.own 4]),(1,[.own 5,.own 6]),(0,[zB,zB])],[(6,⟨.flat,259,51,(.bool false)⟩),(5,⟨.flat,90,1,(.bool false)⟩),(4,⟨.flat,259,51,(.bool false)⟩),(3,⟨.flat,90,1,(.bool false)⟩)],7,44,[]⟩,fun K k v=>Qbg_r1 v K (fun x0 x1 x2 x3 x4 x5 x6 x7=>k (.exit 2) ⟨[(1,.one (.ptr 0 0)),(2,.one (.ptr 1 0)),(3,.one (.ptr 2 0)),(4,.one (.pv x0)),(5,.one (.pv x1))],[(2,[.own 3,.own 4]),(1,[.own 5,.own 6]),(0,[.pv x2,.pv x3])],[(6,⟨.flat,259,51,x4⟩),(5,⟨.flat,90,1,x5⟩),(4,⟨.flat,259,51,x6⟩),(3,⟨.flat,90,1,x7⟩)],7,44,[]⟩)⟩]
theorem Qbg_s:LEsOK [Qbe_e,Qbf_e] TT (kk [1,2,3,4,5,999999]) Qbg_l Tryz.f150 Qbg_l:=⟨fun v K k h=>by
 apply un_all h;exact fun v0 v1 v2 v3 v4 v5 v6 h=>km h
 ,fun v K k h=>by
 apply un_all h;exact fun v0 v1 v2 v3 v4 v5 v6 v7 h=>km h
 ,trivial⟩
theorem Qbg_w:EntOK Tryz.prog TT Qbg_e:=ok_ tabok (L:=[Qbe_e,Qbf_e]) ⟨Qbe_w,Qbf_w,trivial⟩ (keep:=(kk [1,2,3,4,5,999999])) (l:=Qbg_l) Tryz.func150 Qbg_s fun av k h=>by
 unfold Qbg at h;split at h
 ·apply un_all h;clear h;intro a0 a1 h;exact km h
 ·exact h.elim
def Qbh:GM
 | [.one a0],k =>
  (0=0)∧(0≤16777216)∧(1=1)∧(flatRows a0)∧catP 1 (.list 1 []) a0 fun r0 =>
  rt [.own false 9 1] [r0] k
 | _,_=>False
abbrev Qbh_e:Ent:=⟨[70],Qbh⟩
theorem Qbh_w:EntOK Tryz.prog TT Qbh_e:=okM_ tabok (L:=[]) trivial (keep:=[]) (l:=[]) Tryz.func70 trivial fun av k h=>by
 unfold Qbh at h;split at h
 ·exact km h
 ·exact h.elim
def Qbi:GM
 | [.agg u0],k=>un 4 (fun a0 a1 a2 a3 =>
  call Qbh [.one a3] fun o0 =>
  rt [.sc,.sc,.sc,.pv] [a0,a1,a2,(atP o0 0)] k) u0
 | _,_=>False
abbrev Qbi_e:Ent:=⟨[175],Qbi⟩
theorem Qbi_w:EntOK Tryz.prog TT Qbi_e:=ok_ tabok (L:=[Qbh_e]) ⟨Qbh_w,trivial⟩ (keep:=[]) (l:=[]) Tryz.func175 trivial fun av k h=>by
 unfold Qbi at h;split at h
 ·apply un_all h;clear h;intro a0 a1 a2 a3 h;exact km h
 ·exact h.elim
def Qbj:GM
 | [.agg u0],k=>un 2 (fun a0 a1 =>
  catP 1 a1 (.list 1 []) fun r0 =>
  rt [.sc,.pv] [a0,r0] k) u0
 | _,_=>False
abbrev Qbj_e:Ent:=⟨[232],Qbj⟩
theorem Qbj_w:EntOK Tryz.prog TT Qbj_e:=ok_ tabok (L:=[]) trivial (keep:=[]) (l:=[]) Tryz.func232 trivial fun av k h=>by
 unfold Qbj at h;split at h
 ·apply un_all h;clear h;intro a0 a1 h;exact km h
 ·exact h.elim
def Qbk:GM
 | [.agg u0],k=>un 13 (fun a0 a1 a2 a3 a4 a5 a6 a7 a8 a9 a10 a11 a12 =>
  call Qbi [.agg [a1,a2,a3,a4]] fun o0 =>
  call Qbi [.agg [a5,a6,a7,a8]] fun o1 =>
  call Qbj [.agg [a9,a10]] fun o2 =>
  call Qbj [.agg [a11,a12]] fun o3 =>
  rt [.sc,.sc,.sc,.sc,.pv,.sc,.sc,.sc,.pv,.sc,.pv,.sc,.pv] [a0,(atP o0 0),(atP o0 1),(atP o0 2),(atP o0 3),(atP o1 0),(atP o1 1),(atP o1 2),(atP o1 3),(atP o2 0),(atP o2 1),(atP o3 0),(atP o3 1)] k) u0
 | _,_=>False
abbrev Qbk_e:Ent:=⟨[233],Qbk⟩
theorem Qbk_w:EntOK Tryz.prog TT Qbk_e:=ok_ tabok (L:=[Qbi_e,Qbj_e]) ⟨Qbi_w,Qbj_w,trivial⟩ (keep:=[]) (l:=[]) Tryz.func233 trivial fun av k h=>by
 unfold Qbk at h;split at h
 ·apply un_all h;clear h;intro a0 a1 a2 a3 a4 a5 a6 a7 a8 a9 a10 a11 a12 h;exact km h
 ·exact h.elim
def Qbl:GM
 | [.agg u0],k=>un 21 (fun a0 a1 a2 a3 a4 a5 a6 a7 a8 a9 a10 a11 a12 a13 a14 a15 a16 a17 a18 a19 a20 =>
  call Qbe [.one a0] fun o0 =>
  call Qbi [.agg [a2,a3,a4,a5]] fun o1 =>
  call Qbj [.agg [a6,a7]] fun o2 =>
  call Qbk [.agg [a8,a9,a10,a11,a12,a13,a14,a15,a16,a17,a18,a19,a20]] fun o3 =>
  rt [.pv,.sc,.sc,.sc,.sc,.pv,.sc,.pv,.sc,.sc,.sc,.sc,.pv,.sc,.sc,.sc,.pv,.sc,.pv,.sc,.pv] [(atP o0 0),a1,(atP o1 0),(atP o1 1),(atP o1 2),(atP o1 3),(atP o2 0),(atP o2 1),(atP o3 0),(atP o3 1),(atP o3 2),(atP o3 3),(atP o3 4),(atP o3 5),(atP o3 6),(atP o3 7),(atP o3 8),(atP o3 9),(atP o3 10),(atP o3 11),(atP o3 12)] k) u0
 | _,_=>False
abbrev Qbl_e:Ent:=⟨[167],Qbl⟩
theorem Qbl_w:EntOK Tryz.prog TT Qbl_e:=ok_ tabok (L:=[Qbe_e,Qbi_e,Qbj_e,Qbk_e]) ⟨Qbe_w,Qbi_w,Qbj_w,Qbk_w,trivial⟩ (keep:=[]) (l:=[]) Tryz.func167 trivial fun av k h=>by
 unfold Qbl at h;split at h
 ·apply un_all h;clear h;intro a0 a1 a2 a3 a4 a5 a6 a7 a8 a9 a10 a11 a12 a13 a14 a15 a16 a17 a18 a19 a20 h;exact km h
 ·exact h.elim
def Qbm_r0 (v:List PV) (K:List PV→Prop) (x0k:PV→PV→PV→PV→Prop):Prop :=
 un 4 (fun v0 v1 v2 v3 =>
  lenP v1 fun r0 =>
  binP .lss v0 r0 fun r1 =>
  iteP r1
   (elemP 23 v1 v0 fun c2 =>
   elemP 23 v1 v0 fun c3 =>
   elemP 23 v1 v0 fun c4 =>
   call Qbl [.agg [(atP c4 2),(atP c4 3),(atP c4 4),(atP c4 5),(atP c4 6),(atP c4 7),(atP c4 8),(atP c4 9),(atP c4 10),(atP c4 11),(atP c4 12),(atP c4 13),(atP c4 14),(atP c4 15),(atP c4 16),(atP c4 17),(atP c4 18),(atP c4 19),(atP c4 20),(atP c4 21),(atP c4 22)]] fun o5 =>
   (1=1)∧(23≤16777216)∧(23=23)∧(0=0)∧(23=23)∧catP 23 v3 (.list 23 [[(atP c2 0),(atP c3 1),(atP o5 0),(atP o5 1),(atP o5 2),(atP o5 3),(atP o5 4),(atP o5 5),(atP o5 6),(atP o5 7),(atP o5 8),(atP o5 9),(atP o5 10),(atP o5 11),(atP o5 12),(atP o5 13),(atP o5 14),(atP o5 15),(atP o5 16),(atP o5 17),(atP o5 18),(atP o5 19),(atP o5 20)]]) fun r6 =>
   binP .add v0 (I 1) fun r7 =>
   K [r7,v1,v2,r6])
   (x0k v0 v1 v2 v3)) v
def Qbm:GM
 | [.agg u0],k=>un 1 (fun a0 =>
  lp (fun L w=>Qbm_r0 w L
   (fun q8 q9 q10 q11=>rt [.own false 221 23] [q11] k)) [(I 0),a0,(.list 23 []),(.list 23 [])]) u0
 | _,_=>False
abbrev Qbm_e:Ent:=⟨[151],Qbm⟩
def Qbm_l:List LE:=[⟨none,0,⟨[(1,.one (.ptr 0 0)),(2,.one (.ptr 1 0)),(3,.one (.ptr 2 0)),(4,.one zB)],[(2,[.own 3]),(1,[.own 4]),(0,[zB])],[(4,⟨.flat,221,23,(.bool false)⟩),(3,⟨.flat,221,23,(.bool false)⟩)],5,39,[]⟩,fun K k v=>Qbm_r0 v K (fun x0 x1 x2 x3=>k (.exit 0) ⟨[(1,.one (.ptr 0 0)),(2,.one (.ptr 1 0)),(3,.one (.ptr 2 0)),(4,.one (.pv x0))],[(2,[.own 3]),(1,[.own 4]),(0,[.pv x1])],[(4,⟨.flat,221,23,x2⟩),(3,⟨.flat,221,23,x3⟩)],5,39,[]⟩)⟩]
theorem Qbm_s:LEsOK [Qbl_e] TT (kk [1,2,3,4,999999]) Qbm_l Tryz.f151 Qbm_l:=⟨fun v K k h=>by
 apply un_all h;exact fun v0 v1 v2 v3 h=>km h
 ,trivial⟩
theorem Qbm_w:EntOK Tryz.prog TT Qbm_e:=ok_ tabok (L:=[Qbl_e]) ⟨Qbl_w,trivial⟩ (keep:=(kk [1,2,3,4,999999])) (l:=Qbm_l) Tryz.func151 Qbm_s fun av k h=>by
 unfold Qbm at h;split at h
 ·apply un_all h;clear h;intro a0 h;exact km h
 ·exact h.elim
def Qbn:GM
 | [.one a0,.one a1,.one a2],k =>
  binP .geq a0 a1 fun r0 =>
  iteP r0
   (binP .leq a0 a2 fun r1 =>
   rt [.sc] [r1] k)
   (rt [.sc] [(.bool false)] k)
 | _,_=>False
abbrev Qbn_e:Ent:=⟨[133],Qbn⟩
theorem Qbn_w:EntOK Tryz.prog TT Qbn_e:=ok_ tabok (L:=[]) trivial (keep:=[]) (l:=[]) Tryz.func133 trivial fun av k h=>by
 unfold Qbn at h;split at h
 ·exact km h
 ·exact h.elim
def Qbo_r0 (v:List PV) (K:List PV→Prop) (x0k:Prop) (x1k:PV→PV→PV→PV→Prop):Prop :=
 un 4 (fun v0 v1 v2 v3 =>
  lenP v2 fun r0 =>
  binP .lss v1 r0 fun r1 =>
  iteP r1
   (elemP 1 v2 v1 fun c2 =>
   call Qbn [.one (atP c2 0),.one (I 1),.one (I 99)] fun o3 =>
   unP .not (atP o3 0) fun r4 =>
   iteP r4
    (x0k)
    (binP .gtr v1 (I 0) fun r5 =>
    iteP r5
     (binP .sub v1 (I 1) fun r6 =>
     elemP 1 v2 r6 fun c7 =>
     elemP 1 v2 v1 fun c8 =>
     binP .geq (atP c7 0) (atP c8 0) fun r9 =>
     iteP r9
      (x0k)
      (binP .add v1 (I 1) fun r10 =>
      K [v0,r10,v2,v3]))
     (binP .add v1 (I 1) fun r11 =>
     K [v0,r11,v2,v3])))
   (x1k v0 v1 v2 v3)) v
def Qbo:GM
 | [.agg u0],k=>un 2 (fun a0 a1 =>
  lp (fun L w=>Qbo_r0 w L
   (rt [.sc] [(.bool false)] k)
   (fun q12 q13 q14 q15=>lenP q14 fun r16 =>
    call Qbn [.one r16,.one (I 1),.one (I 4)] fun o17 =>
    iteP (atP o17 0)
     (lenP q14 fun r18 =>
     call Qbn [.one q15,.one (I 1),.one r18] fun o19 =>
     rt [.sc] [(atP o19 0)] k)
     (rt [.sc] [(.bool false)] k))) [(.bool false),(I 0),a0,a1]) u0
 | _,_=>False
abbrev Qbo_e:Ent:=⟨[265],Qbo⟩
def Qbo_l:List LE:=[⟨none,0,⟨[(1,.one (.ptr 0 0)),(2,.one zB),(3,.one zB)],[(0,[zB,zB])],[],1,48,[]⟩,fun K k v=>Qbo_r0 v K (k .ret ⟨[(2,.one (.kb false))],[],[],2,48,[]⟩) (fun x0 x1 x2 x3=>k (.exit 0) ⟨[(1,.one (.ptr 0 0)),(2,.one (.pv x0)),(3,.one (.pv x1))],[(0,[.pv x2,.pv x3])],[],1,48,[]⟩)⟩]
theorem Qbo_s:LEsOK [Qbn_e] TT (kk [1,2,3,19,20,21,22,23,24,25,26,27,28,29,30,31,32,33,34,41,42,43,44,45,46,999999]) Qbo_l Tryz.f265 Qbo_l:=⟨fun v K k h=>by
 apply un_all h;exact fun v0 v1 v2 v3 h=>km h
 ,trivial⟩
theorem Qbo_w:EntOK Tryz.prog TT Qbo_e:=ok_ tabok (L:=[Qbn_e]) ⟨Qbn_w,trivial⟩ (keep:=(kk [1,2,3,19,20,21,22,23,24,25,26,27,28,29,30,31,32,33,34,41,42,43,44,45,46,999999])) (l:=Qbo_l) Tryz.func265 Qbo_s fun av k h=>by
 unfold Qbo at h;split at h
 ·apply un_all h;clear h;intro a0 a1 h;exact km h
 ·exact h.elim
def Qbp:GM
 | [.agg u0],k=>un 2 (fun a0 a1 =>
  binP .eql a1 (I 0) fun r0 =>
  iteP r0
   (lenP a0 fun r1 =>
   binP .eql r1 (I 0) fun r2 =>
   rt [.sc] [r2] k)
   (rt [.sc] [(.bool false)] k)) u0
 | _,_=>False
abbrev Qbp_e:Ent:=⟨[372],Qbp⟩
theorem Qbp_w:EntOK Tryz.prog TT Qbp_e:=ok_ tabok (L:=[]) trivial (keep:=[]) (l:=[]) Tryz.func372 trivial fun av k h=>by
 unfold Qbp at h;split at h
 ·apply un_all h;clear h;intro a0 a1 h;exact km h
 ·exact h.elim
def Qbq:GM
 | [.agg u0],k=>un 16 (fun a0 a1 a2 a3 a4 a5 a6 a7 a8 a9 a10 a11 a12 a13 a14 a15 =>
  call Qbn [.one a0,.one (I 0),.one (I 2147483646)] fun o0 =>
  unP .not (atP o0 0) fun r1 =>
  iteP r1
   (rt [.sc] [(.bool false)] k)
   (call Qbn [.one a6,.one (I 0),.one (I 2147483646)] fun o2 =>
   unP .not (atP o2 0) fun r3 =>
   iteP r3
    (rt [.sc] [(.bool false)] k)
    (call Qbn [.one a7,.one (I 0),.one (I 2147483646)] fun o4 =>
    unP .not (atP o4 0) fun r5 =>
    iteP r5
     (rt [.sc] [(.bool false)] k)
     (call Qbn [.one a1,.one (I 0),.one (I 200)] fun o6 =>
     unP .not (atP o6 0) fun r7 =>
     iteP r7
      (rt [.sc] [(.bool false)] k)
      (call Qbn [.one a2,.one (I 1),.one (I 3)] fun o8 =>
      unP .not (atP o8 0) fun r9 =>
      iteP r9
       (rt [.sc] [(.bool false)] k)
       (call Qbn [.one a3,.one (I 0),.one (I 100000)] fun o10 =>
       unP .not (atP o10 0) fun r11 =>
       iteP r11
        (rt [.sc] [(.bool false)] k)
        (call Qbn [.one a4,.one a3,.one (I 100000)] fun o12 =>
        unP .not (atP o12 0) fun r13 =>
        iteP r13
         (rt [.sc] [(.bool false)] k)
         (binP .sub a4 a3 fun r14 =>
         binP .gtr r14 (I 200) fun r15 =>
         iteP r15
          (rt [.sc] [(.bool false)] k)
          (call Qbn [.one a5,.one (I 0),.one (I 12)] fun o16 =>
          unP .not (atP o16 0) fun r17 =>
          iteP r17
           (rt [.sc] [(.bool false)] k)
           (call Qbo [.agg [a8,a9]] fun o18 =>
           unP .not (atP o18 0) fun r19 =>
           iteP r19
            (rt [.sc] [(.bool false)] k)
            (call Qbp [.agg [a10,a11]] fun o20 =>
            iteP (atP o20 0)
             (binP .neq a12 (I 0) fun r21 =>
             iteP r21
              (rt [.sc] [(.bool false)] k)
              (call Qbo [.agg [a13,a14]] fun o22 =>
              iteP (atP o22 0)
               (rt [.sc] [(.bool true)] k)
               (call Qbp [.agg [a13,a14]] fun o23 =>
               iteP (atP o23 0)
                (unP .not a15 fun r24 =>
                rt [.sc] [r24] k)
                (rt [.sc] [(.bool false)] k))))
             (call Qbo [.agg [a10,a11]] fun o25 =>
             unP .not (atP o25 0) fun r26 =>
             iteP r26
              (rt [.sc] [(.bool false)] k)
              (call Qbn [.one a12,.one (I 1),.one (I 500)] fun o27 =>
              unP .not (atP o27 0) fun r28 =>
              iteP r28
               (rt [.sc] [(.bool false)] k)
               (call Qbo [.agg [a13,a14]] fun o29 =>
               iteP (atP o29 0)
                (rt [.sc] [(.bool true)] k)
                (call Qbp [.agg [a13,a14]] fun o30 =>
                iteP (atP o30 0)
                 (unP .not a15 fun r31 =>
                 rt [.sc] [r31] k)
                 (rt [.sc] [(.bool false)] k)))))))))))))))) u0
 | _,_=>False
abbrev Qbq_e:Ent:=⟨[323],Qbq⟩
theorem Qbq_w:EntOK Tryz.prog TT Qbq_e:=ok_ tabok (L:=[Qbn_e,Qbo_e,Qbp_e]) ⟨Qbn_w,Qbo_w,Qbp_w,trivial⟩ (keep:=[]) (l:=[]) Tryz.func323 trivial fun av k h=>by
 unfold Qbq at h;split at h
 ·apply un_all h;clear h;intro a0 a1 a2 a3 a4 a5 a6 a7 a8 a9 a10 a11 a12 a13 a14 a15 h;exact km h
 ·exact h.elim
def Qbr:GM
 | [.agg u0],k=>un 2 (fun a0 a1 =>
  lenP a0 fun r0 =>
  (2=2)∧(2≤16777216)∧(1=1)∧(0=0)∧(1=1)∧(flatCond [.pv (I 0)] [.pv a1])∧(1=1)∧(1=1)∧(flatCond [.pv (I 0)] [.pv r0])∧(flatRows a0)∧catP 1 (.list 1 [[a1],[r0]]) a0 fun r1 =>
  rt [.own true 3 1] [r1] k) u0
 | _,_=>False
abbrev Qbr_e:Ent:=⟨[376],Qbr⟩
theorem Qbr_w:EntOK Tryz.prog TT Qbr_e:=ok_ tabok (L:=[]) trivial (keep:=[]) (l:=[]) Tryz.func376 trivial fun av k h=>by
 unfold Qbr at h;split at h
 ·apply un_all h;clear h;intro a0 a1 h;exact km h
 ·exact h.elim
def Qbs:GM
 | [.one a0,.one a1],k =>
  call Qbn [.one a1,.one (I 1),.one (I 1000000000000)] fun o0 =>
  unP .not (atP o0 0) fun r1 =>
  iteP r1
   (rt [.sc] [(I 0)] k)
   (binP .rem a0 a1 fun r2 =>
   binP .add r2 a1 fun r3 =>
   binP .rem r3 a1 fun r4 =>
   rt [.sc] [r4] k)
 | _,_=>False
abbrev Qbs_e:Ent:=⟨[291],Qbs⟩
theorem Qbs_w:EntOK Tryz.prog TT Qbs_e:=ok_ tabok (L:=[Qbn_e]) ⟨Qbn_w,trivial⟩ (keep:=[]) (l:=[]) Tryz.func291 trivial fun av k h=>by
 unfold Qbs at h;split at h
 ·exact km h
 ·exact h.elim
def Qbt_r0 (v:List PV) (K:List PV→Prop) (x0k:PV→PV→PV→PV→Prop):Prop :=
 un 4 (fun v0 v1 v2 v3 =>
  lenP v0 fun r0 =>
  binP .lss v3 r0 fun r1 =>
  iteP r1
   (binP .mul v2 (I 1000003) fun r2 =>
   elemP 1 v0 v3 fun c3 =>
   call Qbs [.one (atP c3 0),.one (I 2147483647)] fun o4 =>
   binP .add r2 (atP o4 0) fun r5 =>
   binP .add r5 (I 13) fun r6 =>
   binP .rem r6 (I 2147483647) fun r7 =>
   binP .add v3 (I 1) fun r8 =>
   K [v0,v1,r7,r8])
   (x0k v0 v1 v2 v3)) v
def Qbt:GM
 | [.one a0],k =>
  lp (fun L w=>Qbt_r0 w L
   (fun q9 q10 q11 q12=>rt [.sc] [q11] k)) [a0,(I 0),(I 11),(I 0)]
 | _,_=>False
abbrev Qbt_e:Ent:=⟨[234],Qbt⟩
def Qbt_l:List LE:=[⟨none,0,⟨[(0,.one zB),(2,.one zB),(3,.one zB),(4,.one zB)],[],[],0,22,[]⟩,fun K k v=>Qbt_r0 v K (fun x0 x1 x2 x3=>k (.exit 0) ⟨[(0,.one (.pv x0)),(2,.one (.pv x1)),(3,.one (.pv x2)),(4,.one (.pv x3))],[],[],0,22,[]⟩)⟩]
theorem Qbt_s:LEsOK [Qbs_e] TT (kk [0,2,3,4,999999]) Qbt_l Tryz.f234 Qbt_l:=⟨fun v K k h=>by
 apply un_all h;exact fun v0 v1 v2 v3 h=>km h
 ,trivial⟩
theorem Qbt_w:EntOK Tryz.prog TT Qbt_e:=ok_ tabok (L:=[Qbs_e]) ⟨Qbs_w,trivial⟩ (keep:=(kk [0,2,3,4,999999])) (l:=Qbt_l) Tryz.func234 Qbt_s fun av k h=>by
 unfold Qbt at h;split at h
 ·exact km h
 ·exact h.elim
def Qbu:GM
 | [.agg u0,.one a2],k=>un 2 (fun a0 a1 =>
  (2=2)∧(2≤16777216)∧(1=1)∧(0=0)∧(1=1)∧(flatCond [.pv (I 0)] [.pv (I 239)])∧(1=1)∧(1=1)∧(flatCond [.pv (I 0)] [.pv a2])∧call Qbr [.agg [a0,a1]] fun o0 =>
  catP 1 (.list 1 [[(I 239)],[a2]]) (atP o0 0) fun r1 =>
  call Qbt [.one r1] fun o2 =>
  rt [.sc] [(atP o2 0)] k) u0
 | _,_=>False
abbrev Qbu_e:Ent:=⟨[397],Qbu⟩
theorem Qbu_w:EntOK Tryz.prog TT Qbu_e:=ok_ tabok (L:=[Qbr_e,Qbt_e]) ⟨Qbr_w,Qbt_w,trivial⟩ (keep:=[]) (l:=[]) Tryz.func397 trivial fun av k h=>by
 unfold Qbu at h;split at h
 ·apply un_all h;clear h;intro a0 a1 h;exact km h
 ·exact h.elim
def Qbv:GM
 | [.agg u0],k=>un 16 (fun a0 a1 a2 a3 a4 a5 a6 a7 a8 a9 a10 a11 a12 a13 a14 a15 =>
  (8=8)∧(8≤16777216)∧(1=1)∧(0=0)∧(1=1)∧(flatCond [.pv (I 0)] [.pv a0])∧(1=1)∧(1=1)∧(flatCond [.pv (I 0)] [.pv a1])∧(2=2)∧(1=1)∧(flatCond [.pv (I 0)] [.pv a2])∧(3=3)∧(1=1)∧(flatCond [.pv (I 0)] [.pv a3])∧(4=4)∧(1=1)∧(flatCond [.pv (I 0)] [.pv a4])∧(5=5)∧(1=1)∧(flatCond [.pv (I 0)] [.pv a5])∧(6=6)∧(1=1)∧(flatCond [.pv (I 0)] [.pv a6])∧(7=7)∧(1=1)∧(flatCond [.pv (I 0)] [.pv a7])∧call Qbr [.agg [a8,a9]] fun o0 =>
  catP 1 (.list 1 [[a0],[a1],[a2],[a3],[a4],[a5],[a6],[a7]]) (atP o0 0) fun r1 =>
  call Qbr [.agg [a10,a11]] fun o2 =>
  catP 1 r1 (atP o2 0) fun r3 =>
  (1=1)∧(1≤16777216)∧(1=1)∧(0=0)∧(1=1)∧(flatCond [.pv (I 0)] [.pv a12])∧catP 1 r3 (.list 1 [[a12]]) fun r4 =>
  call Qbr [.agg [a13,a14]] fun o5 =>
  catP 1 r4 (atP o5 0) fun r6 =>
  iteP a15
   ((1=1)∧(1≤16777216)∧(1=1)∧(0=0)∧(1=1)∧(flatCond [.pv (I 0)] [.pv (I 1)])∧catP 1 r6 (.list 1 [[(I 1)]]) fun r7 =>
   rt [.own true 3 1] [r7] k)
   ((1=1)∧(1≤16777216)∧(1=1)∧(0=0)∧(1=1)∧(flatCond [.pv (I 0)] [.pv (I 0)])∧catP 1 r6 (.list 1 [[(I 0)]]) fun r8 =>
   rt [.own true 3 1] [r8] k)) u0
 | _,_=>False
abbrev Qbv_e:Ent:=⟨[329],Qbv⟩
theorem Qbv_w:EntOK Tryz.prog TT Qbv_e:=ok_ tabok (L:=[Qbr_e]) ⟨Qbr_w,trivial⟩ (keep:=[]) (l:=[]) Tryz.func329 trivial fun av k h=>by
 unfold Qbv at h;split at h
 ·apply un_all h;clear h;intro a0 a1 a2 a3 a4 a5 a6 a7 a8 a9 a10 a11 a12 a13 a14 a15 h;exact km h
 ·exact h.elim
def Qbw:GM
 | [.one a0,.one a1],k =>
  (1=1)∧(1≤16777216)∧(1=1)∧(0=0)∧(1=1)∧(flatCond [.pv (I 0)] [.pv a0])∧(flatRows a1)∧catP 1 (.list 1 [[a0]]) a1 fun r0 =>
  (1=1)∧(1≤16777216)∧(1=1)∧(0=0)∧(1=1)∧(flatCond [.pv (I 0)] [.pv a0])∧catP 1 r0 (.list 1 [[a0]]) fun r1 =>
  call Qbt [.one r1] fun o2 =>
  rt [.sc] [(atP o2 0)] k
 | _,_=>False
abbrev Qbw_e:Ent:=⟨[408],Qbw⟩
theorem Qbw_w:EntOK Tryz.prog TT Qbw_e:=ok_ tabok (L:=[Qbt_e]) ⟨Qbt_w,trivial⟩ (keep:=[]) (l:=[]) Tryz.func408 trivial fun av k h=>by
 unfold Qbw at h;split at h
 ·exact km h
 ·exact h.elim
def Qbx:GM
 | [.one a0,.one a1],k =>
  (1=1)∧(1≤16777216)∧(1=1)∧(0=0)∧(1=1)∧(flatCond [.pv (I 0)] [.pv (I 223)])∧(flatRows a1)∧catP 1 (.list 1 [[(I 223)]]) a1 fun r0 =>
  call Qbw [.one a0,.one r0] fun o1 =>
  rt [.sc] [(atP o1 0)] k
 | _,_=>False
abbrev Qbx_e:Ent:=⟨[377],Qbx⟩
theorem Qbx_w:EntOK Tryz.prog TT Qbx_e:=ok_ tabok (L:=[Qbw_e]) ⟨Qbw_w,trivial⟩ (keep:=[]) (l:=[]) Tryz.func377 trivial fun av k h=>by
 unfold Qbx at h;split at h
 ·exact km h
 ·exact h.elim
def Qby:GM
 | [.agg u0,.one a2],k=>un 2 (fun a0 a1 =>
  call Qbn [.one a0,.one (I 1),.one (I 99)] fun o0 =>
  iteP (atP o0 0)
   (call Qbx [.one a0,.one a2] fun o1 =>
   binP .eql a1 (atP o1 0) fun r2 =>
   rt [.sc] [r2] k)
   (rt [.sc] [(.bool false)] k)) u0
 | _,_=>False
abbrev Qby_e:Ent:=⟨[407],Qby⟩
theorem Qby_w:EntOK Tryz.prog TT Qby_e:=ok_ tabok (L:=[Qbn_e,Qbx_e]) ⟨Qbn_w,Qbx_w,trivial⟩ (keep:=[]) (l:=[]) Tryz.func407 trivial fun av k h=>by
 unfold Qby at h;split at h
 ·apply un_all h;clear h;intro a0 a1 h;exact km h
 ·exact h.elim
def Qbz_r1 (v:List PV) (K:List PV→Prop) (x0k:PV→PV→PV→PV→PV→PV→PV→PV→PV→PV→PV→Prop) (x1k:PV→PV→PV→PV→PV→PV→PV→PV→Prop):Prop :=
 un 8 (fun v0 v1 v2 v3 v4 v5 v6 v7 =>
  lenP v1 fun r0 =>
  binP .lss v5 r0 fun r1 =>
  iteP r1
   (elemP 2 v1 v5 fun c2 =>
   elemP 1 v6 v4 fun c3 =>
   binP .eql (atP c2 0) (atP c3 0) fun r4 =>
   iteP r4
    (elemP 2 v1 v5 fun c5 =>
    call Qby [.agg [(atP c5 0),(atP c5 1)],.one v0] fun o6 =>
    iteP (atP o6 0)
     (binP .add v3 (I 1) fun r7 =>
     x0k v0 v1 v2 r7 v4 v5 (atP c5 0) (atP c5 1) (atP o6 0) v6 v7)
     (binP .add v5 (I 1) fun r8 =>
     K [v0,v1,v2,v3,v4,r8,v6,v7]))
    (binP .add v5 (I 1) fun r9 =>
    K [v0,v1,v2,v3,v4,r9,v6,v7]))
   (x1k v0 v1 v2 v3 v4 v5 v6 v7)) v
def Qbz_r0 (v:List PV) (K:List PV→Prop) (x0k:PV→PV→PV→PV→PV→PV→PV→Prop):Prop :=
 un 7 (fun v0 v1 v2 v3 v4 v5 v6 =>
  lenP v5 fun r0 =>
  binP .lss v4 r0 fun r1 =>
  iteP r1
   (lp (fun L w=>Qbz_r1 w L
    (fun q10 q11 q12 q13 q14 q15 q16 q17 q18 q19 q20=>binP .add q14 (I 1) fun r21 =>
     K [q10,q11,q12,q13,r21,q19,q20])
    (fun q22 q23 q24 q25 q26 q27 q28 q29=>binP .add q26 (I 1) fun r30 =>
     K [q22,q23,q24,q25,r30,q28,q29])) [v0,v1,v2,v3,v4,(I 0),v5,v6])
   (x0k v0 v1 v2 v3 v4 v5 v6)) v
def Qbz:GM
 | [.agg u0,.one a2,.one a3],k=>un 2 (fun a0 a1 =>
  lp (fun L w=>Qbz_r0 w L
   (fun q31 q32 q33 q34 q35 q36 q37=>rt [.sc] [q34] k)) [a2,a3,(I 0),(I 0),(I 0),a0,a1]) u0
 | _,_=>False
abbrev Qbz_e:Ent:=⟨[375],Qbz⟩
def Qbz_l:List LE:=[⟨none,1,⟨[(1,.one zB),(2,.one zB),(3,.one (.ptr 0 0)),(6,.one zB),(7,.one zB),(8,.one zB),(9,.one zB)],[(0,[zB,zB])],[],1,45,[]⟩,fun K k v=>Qbz_r1 v K (fun x0 x1 x2 x3 x4 x5 x6 x7 x8 x9 x10=>k (.exit 2) ⟨[(1,.one (.pv x0)),(2,.one (.pv x1)),(3,.one (.ptr 0 0)),(6,.one (.pv x2)),(7,.one (.pv x3)),(8,.one (.pv x4)),(9,.one (.pv x5)),(35,.one (.pv x1)),(36,.one (.pv x5)),(37,.one (.sptr [x6,x7])),(38,.agg [.pv x6,.pv x7]),(39,.one (.pv x0)),(40,.one (.pv x8))],[(0,[.pv x9,.pv x10])],[],2,45,[]⟩) (fun x0 x1 x2 x3 x4 x5 x6 x7=>k (.exit 2) ⟨[(1,.one (.pv x0)),(2,.one (.pv x1)),(3,.one (.ptr 0 0)),(6,.one (.pv x2)),(7,.one (.pv x3)),(8,.one (.pv x4)),(9,.one (.pv x5))],[(0,[.pv x6,.pv x7])],[],1,45,[]⟩)⟩,
 ⟨none,0,⟨[(1,.one zB),(2,.one zB),(3,.one (.ptr 0 0)),(6,.one zB),(7,.one zB),(8,.one zB)],[(0,[zB,zB])],[],1,45,[]⟩,fun K k v=>Qbz_r0 v K (fun x0 x1 x2 x3 x4 x5 x6=>k (.exit 0) ⟨[(1,.one (.pv x0)),(2,.one (.pv x1)),(3,.one (.ptr 0 0)),(6,.one (.pv x2)),(7,.one (.pv x3)),(8,.one (.pv x4))],[(0,[.pv x5,.pv x6])],[],1,45,[]⟩)⟩]
theorem Qbz_s:LEsOK [Qby_e] TT (kk [1,2,3,6,7,8,9,35,36,37,38,39,40,999999]) Qbz_l Tryz.f375 Qbz_l:=⟨fun v K k h=>by
 apply un_all h;exact fun v0 v1 v2 v3 v4 v5 v6 v7 h=>km h
 ,fun v K k h=>by
 apply un_all h;exact fun v0 v1 v2 v3 v4 v5 v6 h=>km h
 ,trivial⟩
theorem Qbz_w:EntOK Tryz.prog TT Qbz_e:=ok_ tabok (L:=[Qby_e]) ⟨Qby_w,trivial⟩ (keep:=(kk [1,2,3,6,7,8,9,35,36,37,38,39,40,999999])) (l:=Qbz_l) Tryz.func375 Qbz_s fun av k h=>by
 unfold Qbz at h;split at h
 ·apply un_all h;clear h;intro a0 a1 h;exact km h
 ·exact h.elim
def Qca:GM
 | [.agg u0,.one a2,.one a3],k=>un 2 (fun a0 a1 =>
  call Qbo [.agg [a0,a1]] fun o0 =>
  iteP (atP o0 0)
   (call Qbz [.agg [a0,a1],.one a2,.one a3] fun o1 =>
   binP .geq (atP o1 0) a1 fun r2 =>
   rt [.sc] [r2] k)
   (rt [.sc] [(.bool false)] k)) u0
 | _,_=>False
abbrev Qca_e:Ent:=⟨[328],Qca⟩
theorem Qca_w:EntOK Tryz.prog TT Qca_e:=ok_ tabok (L:=[Qbo_e,Qbz_e]) ⟨Qbo_w,Qbz_w,trivial⟩ (keep:=[]) (l:=[]) Tryz.func328 trivial fun av k h=>by
 unfold Qca at h;split at h
 ·apply un_all h;clear h;intro a0 a1 h;exact km h
 ·exact h.elim
def Qcb:GM
 | [.agg u0],k=>un 17 (fun a0 a1 a2 a3 a4 a5 a6 a7 a8 a9 a10 a11 a12 a13 a14 a15 a16 =>
  call Qbq [.agg [a0,a1,a2,a3,a4,a5,a6,a7,a8,a9,a10,a11,a12,a13,a14,a15]] fun o0 =>
  iteP (atP o0 0)
   (binP .eql a1 (I 0) fun r1 =>
   iteP r1
    (binP .eql a2 (I 1) fun r2 =>
    iteP r2
     (unP .not a15 fun r3 =>
     iteP r3
      (call Qbu [.agg [a8,a9],.one a7] fun o4 =>
      binP .eql a0 (atP o4 0) fun r5 =>
      iteP r5
       (call Qbv [.agg [a0,a1,a2,a3,a4,a5,a6,a7,a8,a9,a10,a11,a12,a13,a14,a15]] fun o6 =>
       call Qca [.agg [a8,a9],.one (atP o6 0),.one a16] fun o7 =>
       rt [.sc] [(atP o7 0)] k)
       (rt [.sc] [(.bool false)] k))
      (rt [.sc] [(.bool false)] k))
     (rt [.sc] [(.bool false)] k))
    (rt [.sc] [(.bool false)] k))
   (rt [.sc] [(.bool false)] k)) u0
 | _,_=>False
abbrev Qcb_e:Ent:=⟨[348],Qcb⟩
theorem Qcb_w:EntOK Tryz.prog TT Qcb_e:=ok_ tabok (L:=[Qbq_e,Qbu_e,Qbv_e,Qca_e]) ⟨Qbq_w,Qbu_w,Qbv_w,Qca_w,trivial⟩ (keep:=[]) (l:=[]) Tryz.func348 trivial fun av k h=>by
 unfold Qcb at h;split at h
 ·apply un_all h;clear h;intro a0 a1 a2 a3 a4 a5 a6 a7 a8 a9 a10 a11 a12 a13 a14 a15 a16 h;exact km h
 ·exact h.elim
def Qcc:GM
 | [.agg u0],k=>un 16 (fun a0 a1 a2 a3 a4 a5 a6 a7 a8 a9 a10 a11 a12 a13 a14 a15 =>
  (1=1)∧(1≤16777216)∧(1=1)∧(0=0)∧(1=1)∧(flatCond [.pv (I 0)] [.pv (I 233)])∧call Qbv [.agg [a0,a1,a2,a3,a4,a5,a6,a7,a8,a9,a10,a11,a12,a13,a14,a15]] fun o0 =>
  catP 1 (.list 1 [[(I 233)]]) (atP o0 0) fun r1 =>
  call Qbt [.one r1] fun o2 =>
  rt [.sc] [(atP o2 0)] k) u0
 | _,_=>False
abbrev Qcc_e:Ent:=⟨[324],Qcc⟩
theorem Qcc_w:EntOK Tryz.prog TT Qcc_e:=ok_ tabok (L:=[Qbv_e,Qbt_e]) ⟨Qbv_w,Qbt_w,trivial⟩ (keep:=[]) (l:=[]) Tryz.func324 trivial fun av k h=>by
 unfold Qcc at h;split at h
 ·apply un_all h;clear h;intro a0 a1 a2 a3 a4 a5 a6 a7 a8 a9 a10 a11 a12 a13 a14 a15 h;exact km h
 ·exact h.elim
def Qcd:GM
 | [.agg u0,.agg u1],k=>un 16 (fun a0 a1 a2 a3 a4 a5 a6 a7 a8 a9 a10 a11 a12 a13 a14 a15=>un 16 (fun a16 a17 a18 a19 a20 a21 a22 a23 a24 a25 a26 a27 a28 a29 a30 a31 =>
  iteP a15
   (rt [.sc] [(I 4)] k)
   (iteP a31
    (rt [.sc] [(I 6)] k)
    (rt [.sc] [(I 1)] k))) u1) u0
 | _,_=>False
abbrev Qcd_e:Ent:=⟨[325],Qcd⟩
theorem Qcd_w:EntOK Tryz.prog TT Qcd_e:=ok_ tabok (L:=[]) trivial (keep:=[]) (l:=[]) Tryz.func325 trivial fun av k h=>by
 unfold Qcd at h;split at h
 ·apply un_all h;clear h;intro a0 a1 a2 a3 a4 a5 a6 a7 a8 a9 a10 a11 a12 a13 a14 a15 h;apply un_all h;clear h;intro a16 a17 a18 a19 a20 a21 a22 a23 a24 a25 a26 a27 a28 a29 a30 a31 h;exact km h
 ·exact h.elim
def Qce_r0 (v:List PV) (K:List PV→Prop) (x0k:Prop) (x1k:PV→PV→PV→PV→Prop):Prop :=
 un 4 (fun v0 v1 v2 v3 =>
  lenP v0 fun r0 =>
  binP .lss v3 r0 fun r1 =>
  iteP r1
   (elemP 1 v0 v3 fun c2 =>
   elemP 1 v1 v3 fun c3 =>
   binP .neq (atP c2 0) (atP c3 0) fun r4 =>
   iteP r4
    (x0k)
    (binP .add v3 (I 1) fun r5 =>
    K [v0,v1,v2,r5]))
   (x1k v0 v1 v2 v3)) v
def Qce:GM
 | [.one a0,.one a1],k =>
  lenP a0 fun r0 =>
  lenP a1 fun r1 =>
  binP .neq r0 r1 fun r2 =>
  iteP r2
   (rt [.sc] [(.bool false)] k)
   (lp (fun L w=>Qce_r0 w L
    (rt [.sc] [(.bool false)] k)
    (fun q6 q7 q8 q9=>rt [.sc] [(.bool true)] k)) [a0,a1,(.bool false),(I 0)])
 | _,_=>False
abbrev Qce_e:Ent:=⟨[350],Qce⟩
def Qce_l:List LE:=[⟨none,0,⟨[(0,.one zB),(1,.one zB),(4,.one zB),(5,.one zB)],[],[],0,26,[]⟩,fun K k v=>Qce_r0 v K (k .ret ⟨[(4,.one (.kb false))],[],[],0,26,[]⟩) (fun x0 x1 x2 x3=>k (.exit 0) ⟨[(0,.one (.pv x0)),(1,.one (.pv x1)),(4,.one (.pv x2)),(5,.one (.pv x3))],[],[],0,26,[]⟩)⟩]
theorem Qce_s:LEsOK [] TT (kk [0,1,4,5,999999]) Qce_l Tryz.f350 Qce_l:=⟨fun v K k h=>by
 apply un_all h;exact fun v0 v1 v2 v3 h=>km h
 ,trivial⟩
theorem Qce_w:EntOK Tryz.prog TT Qce_e:=ok_ tabok (L:=[]) trivial (keep:=(kk [0,1,4,5,999999])) (l:=Qce_l) Tryz.func350 Qce_s fun av k h=>by
 unfold Qce at h;split at h
 ·exact km h
 ·exact h.elim
def Qcf:GM
 | [.agg u0,.agg u1],k=>un 2 (fun a0 a1=>un 2 (fun a2 a3 =>
  binP .eql a1 a3 fun r0 =>
  iteP r0
   (call Qce [.one a0,.one a2] fun o1 =>
   rt [.sc] [(atP o1 0)] k)
   (rt [.sc] [(.bool false)] k)) u1) u0
 | _,_=>False
abbrev Qcf_e:Ent:=⟨[373],Qcf⟩
theorem Qcf_w:EntOK Tryz.prog TT Qcf_e:=ok_ tabok (L:=[Qce_e]) ⟨Qce_w,trivial⟩ (keep:=[]) (l:=[]) Tryz.func373 trivial fun av k h=>by
 unfold Qcf at h;split at h
 ·apply un_all h;clear h;intro a0 a1 h;apply un_all h;clear h;intro a2 a3 h;exact km h
 ·exact h.elim
def Qcg:GM
 | [.agg u0,.agg u1],k=>un 16 (fun a0 a1 a2 a3 a4 a5 a6 a7 a8 a9 a10 a11 a12 a13 a14 a15=>un 16 (fun a16 a17 a18 a19 a20 a21 a22 a23 a24 a25 a26 a27 a28 a29 a30 a31 =>
  binP .eql a5 a21 fun r0 =>
  iteP r0
   (binP .eql a6 a22 fun r1 =>
   rt [.sc] [r1] k)
   (rt [.sc] [(.bool false)] k)) u1) u0
 | _,_=>False
abbrev Qcg_e:Ent:=⟨[374],Qcg⟩
theorem Qcg_w:EntOK Tryz.prog TT Qcg_e:=ok_ tabok (L:=[]) trivial (keep:=[]) (l:=[]) Tryz.func374 trivial fun av k h=>by
 unfold Qcg at h;split at h
 ·apply un_all h;clear h;intro a0 a1 a2 a3 a4 a5 a6 a7 a8 a9 a10 a11 a12 a13 a14 a15 h;apply un_all h;clear h;intro a16 a17 a18 a19 a20 a21 a22 a23 a24 a25 a26 a27 a28 a29 a30 a31 h;exact km h
 ·exact h.elim
def Qch:GM
 | [.agg u0,.agg u1],k=>un 16 (fun a0 a1 a2 a3 a4 a5 a6 a7 a8 a9 a10 a11 a12 a13 a14 a15=>un 16 (fun a16 a17 a18 a19 a20 a21 a22 a23 a24 a25 a26 a27 a28 a29 a30 a31 =>
  iteP a15
   (rt [.sc] [(I 4)] k)
   (call Qbp [.agg [a10,a11]] fun o0 =>
   iteP (atP o0 0)
    (rt [.sc] [(I 5)] k)
    (binP .add a4 a12 fun r1 =>
    binP .lss a19 r1 fun r2 =>
    iteP r2
     (rt [.sc] [(I 5)] k)
     (iteP a31
      (rt [.sc] [(I 6)] k)
      (call Qcf [.agg [a24,a25],.agg [a10,a11]] fun o3 =>
      unP .not (atP o3 0) fun r4 =>
      iteP r4
       (rt [.sc] [(I 6)] k)
       (call Qcg [.agg [a16,a17,a18,a19,a20,a21,a22,a23,a24,a25,a26,a27,a28,a29,a30,a31],.agg [a0,a1,a2,a3,a4,a5,a6,a7,a8,a9,a10,a11,a12,a13,a14,a15]] fun o5 =>
       unP .not (atP o5 0) fun r6 =>
       iteP r6
        (rt [.sc] [(I 6)] k)
        (rt [.sc] [(I 1)] k))))))) u1) u0
 | _,_=>False
abbrev Qch_e:Ent:=⟨[326],Qch⟩
theorem Qch_w:EntOK Tryz.prog TT Qch_e:=ok_ tabok (L:=[Qbp_e,Qcf_e,Qcg_e]) ⟨Qbp_w,Qcf_w,Qcg_w,trivial⟩ (keep:=[]) (l:=[]) Tryz.func326 trivial fun av k h=>by
 unfold Qch at h;split at h
 ·apply un_all h;clear h;intro a0 a1 a2 a3 a4 a5 a6 a7 a8 a9 a10 a11 a12 a13 a14 a15 h;apply un_all h;clear h;intro a16 a17 a18 a19 a20 a21 a22 a23 a24 a25 a26 a27 a28 a29 a30 a31 h;exact km h
 ·exact h.elim
def Qci:GM
 | [.agg u0,.agg u1],k=>un 16 (fun a0 a1 a2 a3 a4 a5 a6 a7 a8 a9 a10 a11 a12 a13 a14 a15=>un 16 (fun a16 a17 a18 a19 a20 a21 a22 a23 a24 a25 a26 a27 a28 a29 a30 a31 =>
  call Qbp [.agg [a13,a14]] fun o0 =>
  iteP (atP o0 0)
   (rt [.sc] [(I 5)] k)
   (boolP .eql a31 a15 fun r1 =>
   iteP r1
    (rt [.sc] [(I 6)] k)
    (call Qcg [.agg [a16,a17,a18,a19,a20,a21,a22,a23,a24,a25,a26,a27,a28,a29,a30,a31],.agg [a0,a1,a2,a3,a4,a5,a6,a7,a8,a9,a10,a11,a12,a13,a14,a15]] fun o2 =>
    unP .not (atP o2 0) fun r3 =>
    iteP r3
     (rt [.sc] [(I 6)] k)
     (call Qcf [.agg [a29,a30],.agg [a13,a14]] fun o4 =>
     unP .not (atP o4 0) fun r5 =>
     iteP r5
      (rt [.sc] [(I 6)] k)
      (call Qcf [.agg [a26,a27],.agg [a10,a11]] fun o6 =>
      unP .not (atP o6 0) fun r7 =>
      iteP r7
       (rt [.sc] [(I 6)] k)
       (binP .neq a28 a12 fun r8 =>
       iteP r8
        (rt [.sc] [(I 6)] k)
        (iteP a31
         (call Qcf [.agg [a24,a25],.agg [a8,a9]] fun o9 =>
         unP .not (atP o9 0) fun r10 =>
         iteP r10
          (rt [.sc] [(I 6)] k)
          (rt [.sc] [(I 1)] k))
         (rt [.sc] [(I 1)] k)))))))) u1) u0
 | _,_=>False
abbrev Qci_e:Ent:=⟨[327],Qci⟩
theorem Qci_w:EntOK Tryz.prog TT Qci_e:=ok_ tabok (L:=[Qbp_e,Qcg_e,Qcf_e]) ⟨Qbp_w,Qcg_w,Qcf_w,trivial⟩ (keep:=[]) (l:=[]) Tryz.func327 trivial fun av k h=>by
 unfold Qci at h;split at h
 ·apply un_all h;clear h;intro a0 a1 a2 a3 a4 a5 a6 a7 a8 a9 a10 a11 a12 a13 a14 a15 h;apply un_all h;clear h;intro a16 a17 a18 a19 a20 a21 a22 a23 a24 a25 a26 a27 a28 a29 a30 a31 h;exact km h
 ·exact h.elim
def Qcj:GM
 | [.agg u0,.agg u1],k=>un 16 (fun a0 a1 a2 a3 a4 a5 a6 a7 a8 a9 a10 a11 a12 a13 a14 a15=>un 17 (fun a16 a17 a18 a19 a20 a21 a22 a23 a24 a25 a26 a27 a28 a29 a30 a31 a32 =>
  call Qbq [.agg [a0,a1,a2,a3,a4,a5,a6,a7,a8,a9,a10,a11,a12,a13,a14,a15]] fun o0 =>
  unP .not (atP o0 0) fun r1 =>
  iteP r1
   (rt [.sc] [(I 2)] k)
   (call Qbq [.agg [a16,a17,a18,a19,a20,a21,a22,a23,a24,a25,a26,a27,a28,a29,a30,a31]] fun o2 =>
   unP .not (atP o2 0) fun r3 =>
   iteP r3
    (rt [.sc] [(I 2)] k)
    (binP .neq a16 a0 fun r4 =>
    iteP r4
     (rt [.sc] [(I 3)] k)
     (binP .add a1 (I 1) fun r5 =>
     binP .neq a17 r5 fun r6 =>
     iteP r6
      (rt [.sc] [(I 3)] k)
      (call Qcc [.agg [a0,a1,a2,a3,a4,a5,a6,a7,a8,a9,a10,a11,a12,a13,a14,a15]] fun o7 =>
      binP .neq a23 (atP o7 0) fun r8 =>
      iteP r8
       (rt [.sc] [(I 3)] k)
       (binP .lss a19 a3 fun r9 =>
       iteP r9
        (rt [.sc] [(I 3)] k)
        (call Qcd [.agg [a0,a1,a2,a3,a4,a5,a6,a7,a8,a9,a10,a11,a12,a13,a14,a15],.agg [a16,a17,a18,a19,a20,a21,a22,a23,a24,a25,a26,a27,a28,a29,a30,a31]] fun o10 =>
        binP .eql a18 (I 2) fun r11 =>
        iteP r11
         (call Qch [.agg [a0,a1,a2,a3,a4,a5,a6,a7,a8,a9,a10,a11,a12,a13,a14,a15],.agg [a16,a17,a18,a19,a20,a21,a22,a23,a24,a25,a26,a27,a28,a29,a30,a31]] fun o12 =>
         binP .eql (atP o12 0) (I 1) fun r13 =>
         iteP r13
          (call Qbv [.agg [a16,a17,a18,a19,a20,a21,a22,a23,a24,a25,a26,a27,a28,a29,a30,a31]] fun o14 =>
          call Qca [.agg [a10,a11],.one (atP o14 0),.one a32] fun o15 =>
          unP .not (atP o15 0) fun r16 =>
          iteP r16
           (rt [.sc] [(I 7)] k)
           (rt [.sc] [(atP o12 0)] k))
          (rt [.sc] [(atP o12 0)] k))
         (binP .eql a18 (I 3) fun r17 =>
         iteP r17
          (call Qci [.agg [a0,a1,a2,a3,a4,a5,a6,a7,a8,a9,a10,a11,a12,a13,a14,a15],.agg [a16,a17,a18,a19,a20,a21,a22,a23,a24,a25,a26,a27,a28,a29,a30,a31]] fun o18 =>
          binP .eql (atP o18 0) (I 1) fun r19 =>
          iteP r19
           (call Qbv [.agg [a16,a17,a18,a19,a20,a21,a22,a23,a24,a25,a26,a27,a28,a29,a30,a31]] fun o20 =>
           call Qca [.agg [a13,a14],.one (atP o20 0),.one a32] fun o21 =>
           unP .not (atP o21 0) fun r22 =>
           iteP r22
            (rt [.sc] [(I 7)] k)
            (rt [.sc] [(atP o18 0)] k))
           (rt [.sc] [(atP o18 0)] k))
          (binP .eql (atP o10 0) (I 1) fun r23 =>
          iteP r23
           (call Qbv [.agg [a16,a17,a18,a19,a20,a21,a22,a23,a24,a25,a26,a27,a28,a29,a30,a31]] fun o24 =>
           call Qca [.agg [a8,a9],.one (atP o24 0),.one a32] fun o25 =>
           unP .not (atP o25 0) fun r26 =>
           iteP r26
            (rt [.sc] [(I 7)] k)
            (rt [.sc] [(atP o10 0)] k))
           (rt [.sc] [(atP o10 0)] k)))))))))) u1) u0
 | _,_=>False
abbrev Qcj_e:Ent:=⟨[271],Qcj⟩
theorem Qcj_w:EntOK Tryz.prog TT Qcj_e:=ok_ tabok (L:=[Qbq_e,Qcc_e,Qcd_e,Qch_e,Qbv_e,Qca_e,Qci_e]) ⟨Qbq_w,Qcc_w,Qcd_w,Qch_w,Qbv_w,Qca_w,Qci_w,trivial⟩ (keep:=[]) (l:=[]) Tryz.func271 trivial fun av k h=>by
 unfold Qcj at h;split at h
 ·apply un_all h;clear h;intro a0 a1 a2 a3 a4 a5 a6 a7 a8 a9 a10 a11 a12 a13 a14 a15 h;apply un_all h;clear h;intro a16 a17 a18 a19 a20 a21 a22 a23 a24 a25 a26 a27 a28 a29 a30 a31 a32 h;exact km h
 ·exact h.elim
def Qck:GM
 | [.agg u0,.agg u1],k=>un 16 (fun a0 a1 a2 a3 a4 a5 a6 a7 a8 a9 a10 a11 a12 a13 a14 a15=>un 17 (fun a16 a17 a18 a19 a20 a21 a22 a23 a24 a25 a26 a27 a28 a29 a30 a31 a32 =>
  call Qcj [.agg [a0,a1,a2,a3,a4,a5,a6,a7,a8,a9,a10,a11,a12,a13,a14,a15],.agg [a16,a17,a18,a19,a20,a21,a22,a23,a24,a25,a26,a27,a28,a29,a30,a31,a32]] fun o0 =>
  binP .eql (atP o0 0) (I 1) fun r1 =>
  rt [.sc] [r1] k) u1) u0
 | _,_=>False
abbrev Qck_e:Ent:=⟨[349],Qck⟩
theorem Qck_w:EntOK Tryz.prog TT Qck_e:=ok_ tabok (L:=[Qcj_e]) ⟨Qcj_w,trivial⟩ (keep:=[]) (l:=[]) Tryz.func349 trivial fun av k h=>by
 unfold Qck at h;split at h
 ·apply un_all h;clear h;intro a0 a1 a2 a3 a4 a5 a6 a7 a8 a9 a10 a11 a12 a13 a14 a15 h;apply un_all h;clear h;intro a16 a17 a18 a19 a20 a21 a22 a23 a24 a25 a26 a27 a28 a29 a30 a31 a32 h;exact km h
 ·exact h.elim
def Qcl_r0 (v:List PV) (K:List PV→Prop) (x0k:PV→Prop) (x1k:PV→Prop) (x2k:PV→PV→PV→Prop):Prop :=
 un 3 (fun v0 v1 v2 =>
  lenP v0 fun r0 =>
  binP .lss v2 r0 fun r1 =>
  iteP r1
   (binP .eql v2 (I 0) fun r2 =>
   iteP r2
    (elemP 17 v0 (I 0) fun c3 =>
    call Qcb [.agg [(atP c3 0),(atP c3 1),(atP c3 2),(atP c3 3),(atP c3 4),(atP c3 5),(atP c3 6),(atP c3 7),(atP c3 8),(atP c3 9),(atP c3 10),(atP c3 11),(atP c3 12),(atP c3 13),(atP c3 14),(atP c3 15),(atP c3 16)]] fun o4 =>
    unP .not (atP o4 0) fun r5 =>
    iteP r5
     (x0k v2)
     (binP .gtr v2 (I 0) fun r6 =>
     iteP r6
      (binP .sub v2 (I 1) fun r7 =>
      elemP 17 v0 r7 fun c8 =>
      elemP 17 v0 v2 fun c9 =>
      call Qck [.agg [(atP c8 0),(atP c8 1),(atP c8 2),(atP c8 3),(atP c8 4),(atP c8 5),(atP c8 6),(atP c8 7),(atP c8 8),(atP c8 9),(atP c8 10),(atP c8 11),(atP c8 12),(atP c8 13),(atP c8 14),(atP c8 15)],.agg [(atP c9 0),(atP c9 1),(atP c9 2),(atP c9 3),(atP c9 4),(atP c9 5),(atP c9 6),(atP c9 7),(atP c9 8),(atP c9 9),(atP c9 10),(atP c9 11),(atP c9 12),(atP c9 13),(atP c9 14),(atP c9 15),(atP c9 16)]] fun o10 =>
      unP .not (atP o10 0) fun r11 =>
      iteP r11
       (x1k v2)
       (binP .add v2 (I 1) fun r12 =>
       K [v0,v1,r12]))
      (binP .add v2 (I 1) fun r13 =>
      K [v0,v1,r13])))
    (binP .gtr v2 (I 0) fun r14 =>
    iteP r14
     (binP .sub v2 (I 1) fun r15 =>
     elemP 17 v0 r15 fun c16 =>
     elemP 17 v0 v2 fun c17 =>
     call Qck [.agg [(atP c16 0),(atP c16 1),(atP c16 2),(atP c16 3),(atP c16 4),(atP c16 5),(atP c16 6),(atP c16 7),(atP c16 8),(atP c16 9),(atP c16 10),(atP c16 11),(atP c16 12),(atP c16 13),(atP c16 14),(atP c16 15)],.agg [(atP c17 0),(atP c17 1),(atP c17 2),(atP c17 3),(atP c17 4),(atP c17 5),(atP c17 6),(atP c17 7),(atP c17 8),(atP c17 9),(atP c17 10),(atP c17 11),(atP c17 12),(atP c17 13),(atP c17 14),(atP c17 15),(atP c17 16)]] fun o18 =>
     unP .not (atP o18 0) fun r19 =>
     iteP r19
      (x0k v2)
      (binP .add v2 (I 1) fun r20 =>
      K [v0,v1,r20]))
     (binP .add v2 (I 1) fun r21 =>
     K [v0,v1,r21])))
   (x2k v0 v1 v2)) v
def Qcl:GM
 | [.one a0],k =>
  lp (fun L w=>Qcl_r0 w L
   (fun q22=>rt [.sc] [q22] k)
   (fun q23=>rt [.sc] [q23] k)
   (fun q24 q25 q26=>rt [.sc] [(I (-1))] k)) [a0,(I 0),(I 0)]
 | _,_=>False
abbrev Qcl_e:Ent:=⟨[296],Qcl⟩
def Qcl_l:List LE:=[⟨none,0,⟨[(0,.one zB),(2,.one zB),(3,.one zB)],[],[],0,38,[]⟩,fun K k v=>Qcl_r0 v K (fun x0=>k .ret ⟨[(2,.one (.pv x0))],[],[],1,38,[]⟩) (fun x0=>k .ret ⟨[(2,.one (.pv x0))],[],[],2,38,[]⟩) (fun x0 x1 x2=>k (.exit 0) ⟨[(0,.one (.pv x0)),(2,.one (.pv x1)),(3,.one (.pv x2))],[],[],0,38,[]⟩)⟩]
theorem Qcl_s:LEsOK [Qcb_e,Qck_e] TT (kk [0,2,3,13,14,15,16,17,20,21,22,23,24,25,26,27,28,29,30,31,32,33,34,35,999999]) Qcl_l Tryz.f296 Qcl_l:=⟨fun v K k h=>by
 apply un_all h;exact fun v0 v1 v2 h=>km h
 ,trivial⟩
theorem Qcl_w:EntOK Tryz.prog TT Qcl_e:=ok_ tabok (L:=[Qcb_e,Qck_e]) ⟨Qcb_w,Qck_w,trivial⟩ (keep:=(kk [0,2,3,13,14,15,16,17,20,21,22,23,24,25,26,27,28,29,30,31,32,33,34,35,999999])) (l:=Qcl_l) Tryz.func296 Qcl_s fun av k h=>by
 unfold Qcl at h;split at h
 ·exact km h
 ·exact h.elim
def Qcm:GM
 | [.one a0],k =>
  lenP a0 fun r0 =>
  call Qbn [.one r0,.one (I 1),.one (I 12)] fun o1 =>
  iteP (atP o1 0)
   (call Qcl [.one a0] fun o2 =>
   binP .lss (atP o2 0) (I 0) fun r3 =>
   rt [.sc] [r3] k)
   (rt [.sc] [(.bool false)] k)
 | _,_=>False
abbrev Qcm_e:Ent:=⟨[237],Qcm⟩
theorem Qcm_w:EntOK Tryz.prog TT Qcm_e:=ok_ tabok (L:=[Qbn_e,Qcl_e]) ⟨Qbn_w,Qcl_w,trivial⟩ (keep:=[]) (l:=[]) Tryz.func237 trivial fun av k h=>by
 unfold Qcm at h;split at h
 ·exact km h
 ·exact h.elim
def Qcn:GM
 | [.one a0],k =>
  call Qcm [.one a0] fun o0 =>
  unP .not (atP o0 0) fun r1 =>
  iteP r1
   (rt [.sc,.sc,.sc,.sc,.sc,.sc,.sc,.sc,.pv,.sc,.pv,.sc,.sc,.pv,.sc,.sc,.sc] [(I 0),(I 0),(I 0),(I 0),(I 0),(I 0),(I 0),(I 0),(.list 1 []),(I 0),(.list 1 []),(I 0),(I 0),(.list 1 []),(I 0),(.bool false),(.bool false)] k)
   (lenP a0 fun r2 =>
   binP .sub r2 (I 1) fun r3 =>
   elemP 17 a0 r3 fun c4 =>
   call Qbc [.agg [(atP c4 0),(atP c4 1),(atP c4 2),(atP c4 3),(atP c4 4),(atP c4 5),(atP c4 6),(atP c4 7),(atP c4 8),(atP c4 9),(atP c4 10),(atP c4 11),(atP c4 12),(atP c4 13),(atP c4 14),(atP c4 15)]] fun o5 =>
   rt [.sc,.sc,.sc,.sc,.sc,.sc,.sc,.sc,.pv,.sc,.pv,.sc,.sc,.pv,.sc,.sc,.sc] [(atP o5 0),(atP o5 1),(atP o5 2),(atP o5 3),(atP o5 4),(atP o5 5),(atP o5 6),(atP o5 7),(atP o5 8),(atP o5 9),(atP o5 10),(atP o5 11),(atP o5 12),(atP o5 13),(atP o5 14),(atP o5 15),(.bool true)] k)
 | _,_=>False
abbrev Qcn_e:Ent:=⟨[171],Qcn⟩
theorem Qcn_w:EntOK Tryz.prog TT Qcn_e:=ok_ tabok (L:=[Qcm_e,Qbc_e]) ⟨Qcm_w,Qbc_w,trivial⟩ (keep:=[]) (l:=[]) Tryz.func171 trivial fun av k h=>by
 unfold Qcn at h;split at h
 ·exact km h
 ·exact h.elim
def Qco_r0 (v:List PV) (K:List PV→Prop) (x0k:Prop) (x1k:PV→PV→PV→Prop):Prop :=
 un 3 (fun v0 v1 v2 =>
  lenS v0 fun r0 =>
  binP .lss v2 r0 fun r1 =>
  iteP r1
   (charP v0 v2 fun r2 =>
   binP .lss r2 (.int .u8 97) fun r3 =>
   iteP r3
    (charP v0 v2 fun r4 =>
    binP .lss r4 (.int .u8 48) fun r5 =>
    iteP r5
     (charP v0 v2 fun r6 =>
     binP .neq r6 (.int .u8 45) fun r7 =>
     iteP r7
      (x0k)
      (binP .add v2 (I 1) fun r8 =>
      K [v0,v1,r8]))
     (charP v0 v2 fun r9 =>
     binP .gtr r9 (.int .u8 57) fun r10 =>
     iteP r10
      (charP v0 v2 fun r11 =>
      binP .neq r11 (.int .u8 45) fun r12 =>
      iteP r12
       (x0k)
       (binP .add v2 (I 1) fun r13 =>
       K [v0,v1,r13]))
      (binP .add v2 (I 1) fun r14 =>
      K [v0,v1,r14])))
    (charP v0 v2 fun r15 =>
    binP .gtr r15 (.int .u8 122) fun r16 =>
    iteP r16
     (charP v0 v2 fun r17 =>
     binP .lss r17 (.int .u8 48) fun r18 =>
     iteP r18
      (charP v0 v2 fun r19 =>
      binP .neq r19 (.int .u8 45) fun r20 =>
      iteP r20
       (x0k)
       (binP .add v2 (I 1) fun r21 =>
       K [v0,v1,r21]))
      (charP v0 v2 fun r22 =>
      binP .gtr r22 (.int .u8 57) fun r23 =>
      iteP r23
       (charP v0 v2 fun r24 =>
       binP .neq r24 (.int .u8 45) fun r25 =>
       iteP r25
        (x0k)
        (binP .add v2 (I 1) fun r26 =>
        K [v0,v1,r26]))
       (binP .add v2 (I 1) fun r27 =>
       K [v0,v1,r27])))
     (binP .add v2 (I 1) fun r28 =>
     K [v0,v1,r28])))
   (x1k v0 v1 v2)) v
def Qco:GM
 | [.one a0],k =>
  lenS a0 fun r0 =>
  call Qbn [.one r0,.one (I 1),.one (I 8)] fun o1 =>
  unP .not (atP o1 0) fun r2 =>
  iteP r2
   (rt [.sc] [(.bool false)] k)
   (charP a0 (I 0) fun r3 =>
   binP .eql r3 (.int .u8 45) fun r4 =>
   iteP r4
    (rt [.sc] [(.bool false)] k)
    (lenS a0 fun r5 =>
    binP .sub r5 (I 1) fun r6 =>
    charP a0 r6 fun r7 =>
    binP .eql r7 (.int .u8 45) fun r8 =>
    iteP r8
     (rt [.sc] [(.bool false)] k)
     (lp (fun L w=>Qco_r0 w L
      (rt [.sc] [(.bool false)] k)
      (fun q29 q30 q31=>rt [.sc] [(.bool true)] k)) [a0,(.bool false),(I 0)])))
 | _,_=>False
abbrev Qco_e:Ent:=⟨[222],Qco⟩
def Qco_l:List LE:=[⟨none,0,⟨[(0,.one zB),(2,.one zB),(3,.one zB)],[],[],1,55,[]⟩,fun K k v=>Qco_r0 v K (k .ret ⟨[(2,.one (.kb false))],[],[],1,55,[]⟩) (fun x0 x1 x2=>k (.exit 0) ⟨[(0,.one (.pv x0)),(2,.one (.pv x1)),(3,.one (.pv x2))],[],[],1,55,[]⟩)⟩]
theorem Qco_s:LEsOK [Qbn_e] TT (kk [0,2,3,32,33,34,35,38,39,40,41,42,43,44,45,46,47,50,51,52,53,999999]) Qco_l Tryz.f222 Qco_l:=⟨fun v K k h=>by
 apply un_all h;exact fun v0 v1 v2 h=>km h
 ,trivial⟩
theorem Qco_w:EntOK Tryz.prog TT Qco_e:=ok_ tabok (L:=[Qbn_e]) ⟨Qbn_w,trivial⟩ (keep:=(kk [0,2,3,32,33,34,35,38,39,40,41,42,43,44,45,46,47,50,51,52,53,999999])) (l:=Qco_l) Tryz.func222 Qco_s fun av k h=>by
 unfold Qco at h;split at h
 ·exact km h
 ·exact h.elim
def Qcp_r0 (v:List PV) (K:List PV→Prop) (x0k:Prop) (x1k:PV→PV→PV→Prop):Prop :=
 un 3 (fun v0 v1 v2 =>
  lenP v0 fun r0 =>
  binP .lss v2 r0 fun r1 =>
  iteP r1
   (elemP 1 v0 v2 fun c2 =>
   call Qco [.one (atP c2 0)] fun o3 =>
   unP .not (atP o3 0) fun r4 =>
   iteP r4
    (x0k)
    (binP .add v2 (I 1) fun r5 =>
    K [v0,v1,r5]))
   (x1k v0 v1 v2)) v
def Qcp:GM
 | [.one a0],k =>
  lp (fun L w=>Qcp_r0 w L
   (rt [.sc] [(.bool false)] k)
   (fun q6 q7 q8=>lenP q6 fun r9 =>
    call Qbn [.one r9,.one (I 1),.one (I 4)] fun o10 =>
    rt [.sc] [(atP o10 0)] k)) [a0,(.bool false),(I 0)]
 | _,_=>False
abbrev Qcp_e:Ent:=⟨[152],Qcp⟩
def Qcp_l:List LE:=[⟨none,0,⟨[(0,.one zB),(2,.one zB),(3,.one zB)],[],[],0,19,[]⟩,fun K k v=>Qcp_r0 v K (k .ret ⟨[(2,.one (.kb false))],[],[],1,19,[]⟩) (fun x0 x1 x2=>k (.exit 0) ⟨[(0,.one (.pv x0)),(2,.one (.pv x1)),(3,.one (.pv x2))],[],[],0,19,[]⟩)⟩]
theorem Qcp_s:LEsOK [Qco_e,Qbn_e] TT (kk [0,2,3,999999]) Qcp_l Tryz.f152 Qcp_l:=⟨fun v K k h=>by
 apply un_all h;exact fun v0 v1 v2 h=>km h
 ,trivial⟩
theorem Qcp_w:EntOK Tryz.prog TT Qcp_e:=ok_ tabok (L:=[Qco_e,Qbn_e]) ⟨Qco_w,Qbn_w,trivial⟩ (keep:=(kk [0,2,3,999999])) (l:=Qcp_l) Tryz.func152 Qcp_s fun av k h=>by
 unfold Qcp at h;split at h
 ·exact km h
 ·exact h.elim
def Qcq:GM
 | [.agg u0],k=>un 4 (fun a0 a1 a2 a3 =>
  binP .eql a1 (I 1) fun r0 =>
  iteP r0
   (call Qco [.one a0] fun o1 =>
   iteP (atP o1 0)
    (call Qbn [.one a2,.one (I 0),.one (I 999999)] fun o2 =>
    iteP (atP o2 0)
     (lenP a3 fun r3 =>
     binP .eql r3 (I 0) fun r4 =>
     rt [.sc] [r4] k)
     (rt [.sc] [(.bool false)] k))
    (rt [.sc] [(.bool false)] k))
   (binP .eql a1 (I 2) fun r5 =>
   iteP r5
    (call Qco [.one a0] fun o6 =>
    iteP (atP o6 0)
     (call Qbn [.one a2,.one (I 0),.one (I 2147483646)] fun o7 =>
     iteP (atP o7 0)
      (lenP a3 fun r8 =>
      binP .eql r8 (I 0) fun r9 =>
      rt [.sc] [r9] k)
      (rt [.sc] [(.bool false)] k))
     (rt [.sc] [(.bool false)] k))
    (binP .eql a1 (I 3) fun r10 =>
    iteP r10
     (call Qco [.one a0] fun o11 =>
     iteP (atP o11 0)
      (call Qbn [.one a2,.one (I 0),.one (I 2147483646)] fun o12 =>
      iteP (atP o12 0)
       (call Qcp [.one a3] fun o13 =>
       rt [.sc] [(atP o13 0)] k)
       (rt [.sc] [(.bool false)] k))
      (rt [.sc] [(.bool false)] k))
     (rt [.sc] [(.bool false)] k)))) u0
 | _,_=>False
abbrev Qcq_e:Ent:=⟨[311],Qcq⟩
theorem Qcq_w:EntOK Tryz.prog TT Qcq_e:=ok_ tabok (L:=[Qco_e,Qbn_e,Qcp_e]) ⟨Qco_w,Qbn_w,Qcp_w,trivial⟩ (keep:=[]) (l:=[]) Tryz.func311 trivial fun av k h=>by
 unfold Qcq at h;split at h
 ·apply un_all h;clear h;intro a0 a1 a2 a3 h;exact km h
 ·exact h.elim
def Qcr:GM
 | [.one a0,.one a1],k =>
  binP .lss a0 a1 fun r0 =>
  iteP r0
   (rt [.sc] [(I (-1))] k)
   (binP .gtr a0 a1 fun r1 =>
   iteP r1
    (rt [.sc] [(I 1)] k)
    (rt [.sc] [(I 0)] k))
 | _,_=>False
abbrev Qcr_e:Ent:=⟨[312],Qcr⟩
theorem Qcr_w:EntOK Tryz.prog TT Qcr_e:=ok_ tabok (L:=[]) trivial (keep:=[]) (l:=[]) Tryz.func312 trivial fun av k h=>by
 unfold Qcr at h;split at h
 ·exact km h
 ·exact h.elim
def Qcs_r0 (v:List PV) (K:List PV→Prop) (x0k:Prop) (x1k:Prop) (x2k:PV→PV→PV→Prop):Prop :=
 un 3 (fun v0 v1 v2 =>
  lenP v0 fun r0 =>
  binP .lss v2 r0 fun r1 =>
  iteP r1
   (elemP 4 v0 v2 fun c2 =>
   call Qcq [.agg [(atP c2 0),(atP c2 1),(atP c2 2),(atP c2 3)]] fun o3 =>
   unP .not (atP o3 0) fun r4 =>
   iteP r4
    (x0k)
    (binP .gtr v2 (I 0) fun r5 =>
    iteP r5
     (binP .sub v2 (I 1) fun r6 =>
     elemP 4 v0 r6 fun c7 =>
     elemP 4 v0 v2 fun c8 =>
     call Qcr [.one (atP c7 0),.one (atP c8 0)] fun o9 =>
     binP .neq (atP o9 0) (I (-1)) fun r10 =>
     iteP r10
      (x1k)
      (binP .add v2 (I 1) fun r11 =>
      K [v0,v1,r11]))
     (binP .add v2 (I 1) fun r12 =>
     K [v0,v1,r12])))
   (x2k v0 v1 v2)) v
def Qcs:GM
 | [.one a0],k =>
  lp (fun L w=>Qcs_r0 w L
   (rt [.sc] [(.bool false)] k)
   (rt [.sc] [(.bool false)] k)
   (fun q13 q14 q15=>lenP q13 fun r16 =>
    binP .leq r16 (I 12) fun r17 =>
    rt [.sc] [r17] k)) [a0,(.bool false),(I 0)]
 | _,_=>False
abbrev Qcs_e:Ent:=⟨[254],Qcs⟩
def Qcs_l:List LE:=[⟨none,0,⟨[(0,.one zB),(2,.one zB),(3,.one zB)],[],[],0,38,[]⟩,fun K k v=>Qcs_r0 v K (k .ret ⟨[(2,.one (.kb false))],[],[],1,38,[]⟩) (k .ret ⟨[(2,.one (.kb false))],[],[],2,38,[]⟩) (fun x0 x1 x2=>k (.exit 0) ⟨[(0,.one (.pv x0)),(2,.one (.pv x1)),(3,.one (.pv x2))],[],[],0,38,[]⟩)⟩]
theorem Qcs_s:LEsOK [Qcq_e,Qcr_e] TT (kk [0,2,3,17,18,19,20,21,22,23,24,25,26,27,28,29,30,31,32,33,999999]) Qcs_l Tryz.f254 Qcs_l:=⟨fun v K k h=>by
 apply un_all h;exact fun v0 v1 v2 h=>km h
 ,trivial⟩
theorem Qcs_w:EntOK Tryz.prog TT Qcs_e:=ok_ tabok (L:=[Qcq_e,Qcr_e]) ⟨Qcq_w,Qcr_w,trivial⟩ (keep:=(kk [0,2,3,17,18,19,20,21,22,23,24,25,26,27,28,29,30,31,32,33,999999])) (l:=Qcs_l) Tryz.func254 Qcs_s fun av k h=>by
 unfold Qcs at h;split at h
 ·exact km h
 ·exact h.elim
def Qct_r0 (v:List PV) (K:List PV→Prop) (x0k:PV→PV→PV→PV→Prop):Prop :=
 un 4 (fun v0 v1 v2 v3 =>
  lenP v0 fun r0 =>
  binP .lss v1 r0 fun r1 =>
  iteP r1
   (elemP 1 v0 v1 fun c2 =>
   convP .i64 (atP c2 0) fun r3 =>
   (1=1)∧(1≤16777216)∧(1=1)∧(0=0)∧(1=1)∧(flatCond [.pv (I 0)] [.pv r3])∧catP 1 v3 (.list 1 [[r3]]) fun r4 =>
   binP .add v1 (I 1) fun r5 =>
   K [v0,r5,v2,r4])
   (x0k v0 v1 v2 v3)) v
def Qct:GM
 | [.one a0],k =>
  lenP a0 fun r0 =>
  (1=1)∧(1≤16777216)∧(1=1)∧(0=0)∧(1=1)∧(flatCond [.pv (I 0)] [.pv r0])∧lp (fun L w=>Qct_r0 w L
   (fun q6 q7 q8 q9=>rt [.own true 3 1] [q9] k)) [a0,(I 0),(.list 1 []),(.list 1 [[r0]])]
 | _,_=>False
abbrev Qct_e:Ent:=⟨[292],Qct⟩
def Qct_l:List LE:=[⟨none,0,⟨[(0,.one zB),(2,.one (.own 1)),(3,.one (.own 0)),(4,.one zB)],[],[(1,⟨.deep,3,1,(.bool false)⟩),(0,⟨.deep,3,1,(.bool false)⟩)],2,23,[]⟩,fun K k v=>Qct_r0 v K (fun x0 x1 x2 x3=>k (.exit 0) ⟨[(0,.one (.pv x0)),(2,.one (.own 1)),(3,.one (.own 0)),(4,.one (.pv x1))],[],[(1,⟨.deep,3,1,x2⟩),(0,⟨.deep,3,1,x3⟩)],2,23,[]⟩)⟩]
theorem Qct_s:LEsOK [] TT (kk [0,2,3,4,999999]) Qct_l Tryz.f292 Qct_l:=⟨fun v K k h=>by
 apply un_all h;exact fun v0 v1 v2 v3 h=>km h
 ,trivial⟩
theorem Qct_w:EntOK Tryz.prog TT Qct_e:=ok_ tabok (L:=[]) trivial (keep:=(kk [0,2,3,4,999999])) (l:=Qct_l) Tryz.func292 Qct_s fun av k h=>by
 unfold Qct at h;split at h
 ·exact km h
 ·exact h.elim
def Qcu:GM
 | [.one a0],k =>
  bytesP a0 fun r0 =>
  call Qct [.one r0] fun o1 =>
  rt [.own true 3 1] [(atP o1 0)] k
 | _,_=>False
abbrev Qcu_e:Ent:=⟨[235],Qcu⟩
theorem Qcu_w:EntOK Tryz.prog TT Qcu_e:=ok_ tabok (L:=[Qct_e]) ⟨Qct_w,trivial⟩ (keep:=[]) (l:=[]) Tryz.func235 trivial fun av k h=>by
 unfold Qcu at h;split at h
 ·exact km h
 ·exact h.elim
def Qcv_r0 (v:List PV) (K:List PV→Prop) (x0k:PV→PV→PV→PV→PV→PV→PV→Prop):Prop :=
 un 7 (fun v0 v1 v2 v3 v4 v5 v6 =>
  lenP v4 fun r0 =>
  binP .lss v0 r0 fun r1 =>
  iteP r1
   (elemP 1 v4 v0 fun c2 =>
   call Qcu [.one (atP c2 0)] fun o3 =>
   catP 1 v6 (atP o3 0) fun r4 =>
   binP .add v0 (I 1) fun r5 =>
   K [r5,v1,v2,v3,v4,v5,r4])
   (x0k v0 v1 v2 v3 v4 v5 v6)) v
def Qcv:GM
 | [.agg u0],k=>un 4 (fun a0 a1 a2 a3 =>
  call Qcu [.one a0] fun o0 =>
  lenP a3 fun r1 =>
  (3=3)∧(3≤16777216)∧(1=1)∧(0=0)∧(1=1)∧(flatCond [.pv (I 0)] [.pv a1])∧(1=1)∧(1=1)∧(flatCond [.pv (I 0)] [.pv a2])∧(2=2)∧(1=1)∧(flatCond [.pv (I 0)] [.pv r1])∧catP 1 (atP o0 0) (.list 1 [[a1],[a2],[r1]]) fun r2 =>
  lp (fun L w=>Qcv_r0 w L
   (fun q6 q7 q8 q9 q10 q11 q12=>rt [.own true 3 1] [q12] k)) [(I 0),a0,a1,a2,a3,(.list 1 []),r2]) u0
 | _,_=>False
abbrev Qcv_e:Ent:=⟨[399],Qcv⟩
def Qcv_l:List LE:=[⟨none,0,⟨[(1,.one (.ptr 0 0)),(2,.one (.own 4)),(3,.one (.own 3)),(4,.one zB)],[(0,[zB,zB,zB,zB])],[(4,⟨.deep,3,1,(.bool false)⟩),(3,⟨.deep,3,1,(.bool false)⟩)],5,33,[]⟩,fun K k v=>Qcv_r0 v K (fun x0 x1 x2 x3 x4 x5 x6=>k (.exit 0) ⟨[(1,.one (.ptr 0 0)),(2,.one (.own 4)),(3,.one (.own 3)),(4,.one (.pv x0))],[(0,[.pv x1,.pv x2,.pv x3,.pv x4])],[(4,⟨.deep,3,1,x5⟩),(3,⟨.deep,3,1,x6⟩)],5,33,[]⟩)⟩]
theorem Qcv_s:LEsOK [Qcu_e] TT (kk [1,2,3,4,999999]) Qcv_l Tryz.f399 Qcv_l:=⟨fun v K k h=>by
 apply un_all h;exact fun v0 v1 v2 v3 v4 v5 v6 h=>km h
 ,trivial⟩
theorem Qcv_w:EntOK Tryz.prog TT Qcv_e:=ok_ tabok (L:=[Qcu_e]) ⟨Qcu_w,trivial⟩ (keep:=(kk [1,2,3,4,999999])) (l:=Qcv_l) Tryz.func399 Qcv_s fun av k h=>by
 unfold Qcv at h;split at h
 ·apply un_all h;clear h;intro a0 a1 a2 a3 h;exact km h
 ·exact h.elim
def Qcw:GM
 | [.agg u0],k=>un 4 (fun a0 a1 a2 a3 =>
  (1=1)∧(1≤16777216)∧(1=1)∧(0=0)∧(1=1)∧(flatCond [.pv (I 0)] [.pv (I 227)])∧call Qcv [.agg [a0,a1,a2,a3]] fun o0 =>
  catP 1 (.list 1 [[(I 227)]]) (atP o0 0) fun r1 =>
  call Qbt [.one r1] fun o2 =>
  rt [.sc] [(atP o2 0)] k) u0
 | _,_=>False
abbrev Qcw_e:Ent:=⟨[352],Qcw⟩
theorem Qcw_w:EntOK Tryz.prog TT Qcw_e:=ok_ tabok (L:=[Qcv_e,Qbt_e]) ⟨Qcv_w,Qbt_w,trivial⟩ (keep:=[]) (l:=[]) Tryz.func352 trivial fun av k h=>by
 unfold Qcw at h;split at h
 ·apply un_all h;clear h;intro a0 a1 a2 a3 h;exact km h
 ·exact h.elim
def Qcx_r0 (v:List PV) (K:List PV→Prop) (x0k:PV→PV→PV→PV→Prop):Prop :=
 un 4 (fun v0 v1 v2 v3 =>
  lenP v0 fun r0 =>
  binP .lss v1 r0 fun r1 =>
  iteP r1
   (elemP 4 v0 v1 fun c2 =>
   call Qcw [.agg [(atP c2 0),(atP c2 1),(atP c2 2),(atP c2 3)]] fun o3 =>
   (1=1)∧(1≤16777216)∧(1=1)∧(0=0)∧(1=1)∧(flatCond [.pv (I 0)] [.pv (atP o3 0)])∧catP 1 v3 (.list 1 [[(atP o3 0)]]) fun r4 =>
   binP .add v1 (I 1) fun r5 =>
   K [v0,r5,v2,r4])
   (x0k v0 v1 v2 v3)) v
def Qcx:GM
 | [.one a0],k =>
  (0=0)∧(0≤16777216)∧(1=1)∧lp (fun L w=>Qcx_r0 w L
   (fun q6 q7 q8 q9=>rt [.own true 3 1] [q9] k)) [a0,(I 0),(.list 1 []),(.list 1 [])]
 | _,_=>False
abbrev Qcx_e:Ent:=⟨[315],Qcx⟩
def Qcx_l:List LE:=[⟨none,0,⟨[(0,.one zB),(2,.one (.own 1)),(3,.one (.own 0)),(4,.one zB)],[],[(1,⟨.deep,3,1,(.bool false)⟩),(0,⟨.deep,3,1,(.bool false)⟩)],2,21,[]⟩,fun K k v=>Qcx_r0 v K (fun x0 x1 x2 x3=>k (.exit 0) ⟨[(0,.one (.pv x0)),(2,.one (.own 1)),(3,.one (.own 0)),(4,.one (.pv x1))],[],[(1,⟨.deep,3,1,x2⟩),(0,⟨.deep,3,1,x3⟩)],2,21,[]⟩)⟩]
theorem Qcx_s:LEsOK [Qcw_e] TT (kk [0,2,3,4,999999]) Qcx_l Tryz.f315 Qcx_l:=⟨fun v K k h=>by
 apply un_all h;exact fun v0 v1 v2 v3 h=>km h
 ,trivial⟩
theorem Qcx_w:EntOK Tryz.prog TT Qcx_e:=ok_ tabok (L:=[Qcw_e]) ⟨Qcw_w,trivial⟩ (keep:=(kk [0,2,3,4,999999])) (l:=Qcx_l) Tryz.func315 Qcx_s fun av k h=>by
 unfold Qcx at h;split at h
 ·exact km h
 ·exact h.elim
def Qcy:GM
 | [.one a0,.one a1],k =>
  (3=3)∧(3≤16777216)∧(1=1)∧(0=0)∧(1=1)∧(flatCond [.pv (I 0)] [.pv (I 229)])∧(1=1)∧(1=1)∧(flatCond [.pv (I 0)] [.pv a0])∧(2=2)∧(1=1)∧(flatCond [.pv (I 0)] [.pv a1])∧call Qbt [.one (.list 1 [[(I 229)],[a0],[a1]])] fun o0 =>
  rt [.sc] [(atP o0 0)] k
 | _,_=>False
abbrev Qcy_e:Ent:=⟨[398],Qcy⟩
theorem Qcy_w:EntOK Tryz.prog TT Qcy_e:=ok_ tabok (L:=[Qbt_e]) ⟨Qbt_w,trivial⟩ (keep:=[]) (l:=[]) Tryz.func398 trivial fun av k h=>by
 unfold Qcy at h;split at h
 ·exact km h
 ·exact h.elim
def Qcz_r0 (v:List PV) (K:List PV→Prop) (x0k:PV→PV→PV→PV→Prop):Prop :=
 un 4 (fun v0 v1 v2 v3 =>
  lenP v0 fun r0 =>
  binP .lss v1 r0 fun r1 =>
  iteP r1
   (binP .add v1 (I 1) fun r2 =>
   lenP v0 fun r3 =>
   binP .lss r2 r3 fun r4 =>
   iteP r4
    (elemP 1 v0 v1 fun c5 =>
    binP .add v1 (I 1) fun r6 =>
    elemP 1 v0 r6 fun c7 =>
    call Qcy [.one (atP c5 0),.one (atP c7 0)] fun o8 =>
    (1=1)∧(1≤16777216)∧(1=1)∧(0=0)∧(1=1)∧(flatCond [.pv (I 0)] [.pv (atP o8 0)])∧catP 1 v3 (.list 1 [[(atP o8 0)]]) fun r9 =>
    binP .add v1 (I 2) fun r10 =>
    K [v0,r10,v2,r9])
    (elemP 1 v0 v1 fun c11 =>
    (1=1)∧(1≤16777216)∧(1=1)∧(0=0)∧(1=1)∧(flatCond [.pv (I 0)] [.pv (atP c11 0)])∧catP 1 v3 (.list 1 [[(atP c11 0)]]) fun r12 =>
    binP .add v1 (I 2) fun r13 =>
    K [v0,r13,v2,r12]))
   (x0k v0 v1 v2 v3)) v
def Qcz:GM
 | [.one a0],k =>
  (0=0)∧(0≤16777216)∧(1=1)∧lp (fun L w=>Qcz_r0 w L
   (fun q14 q15 q16 q17=>rt [.own true 3 1] [q17] k)) [a0,(I 0),(.list 1 []),(.list 1 [])]
 | _,_=>False
abbrev Qcz_e:Ent:=⟨[362],Qcz⟩
def Qcz_l:List LE:=[⟨none,0,⟨[(0,.one zB),(2,.one (.own 1)),(3,.one (.own 0)),(4,.one zB)],[],[(1,⟨.deep,3,1,(.bool false)⟩),(0,⟨.deep,3,1,(.bool false)⟩)],2,38,[]⟩,fun K k v=>Qcz_r0 v K (fun x0 x1 x2 x3=>k (.exit 0) ⟨[(0,.one (.pv x0)),(2,.one (.own 1)),(3,.one (.own 0)),(4,.one (.pv x1))],[],[(1,⟨.deep,3,1,x2⟩),(0,⟨.deep,3,1,x3⟩)],2,38,[]⟩)⟩]
theorem Qcz_s:LEsOK [Qcy_e] TT (kk [0,2,3,4,999999]) Qcz_l Tryz.f362 Qcz_l:=⟨fun v K k h=>by
 apply un_all h;exact fun v0 v1 v2 v3 h=>km h
 ,trivial⟩
theorem Qcz_w:EntOK Tryz.prog TT Qcz_e:=ok_ tabok (L:=[Qcy_e]) ⟨Qcy_w,trivial⟩ (keep:=(kk [0,2,3,4,999999])) (l:=Qcz_l) Tryz.func362 Qcz_s fun av k h=>by
 unfold Qcz at h;split at h
 ·exact km h
 ·exact h.elim
def Qda_r0 (v:List PV) (K:List PV→Prop) (x0k:PV→PV→Prop):Prop :=
 un 2 (fun v0 v1 =>
  lenP v1 fun r0 =>
  binP .gtr r0 (I 1) fun r1 =>
  iteP r1
   (call Qcz [.one v1] fun o2 =>
   K [v0,(atP o2 0)])
   (x0k v0 v1)) v
def Qda:GM
 | [.one a0],k =>
  lenP a0 fun r0 =>
  binP .eql r0 (I 0) fun r1 =>
  iteP r1
   ((1=1)∧(1≤16777216)∧(1=1)∧(0=0)∧(1=1)∧(flatCond [.pv (I 0)] [.pv (I 229)])∧call Qbt [.one (.list 1 [[(I 229)]])] fun o2 =>
   rt [.sc] [(atP o2 0)] k)
   (lp (fun L w=>Qda_r0 w L
    (fun q3 q4=>elemP 1 q4 (I 0) fun c5 =>
     rt [.sc] [(atP c5 0)] k)) [(I 0),a0])
 | _,_=>False
abbrev Qda_e:Ent:=⟨[314],Qda⟩
def Qda_l:List LE:=[⟨none,0,⟨[(2,.one zB),(3,.one zB)],[],[],0,18,[]⟩,fun K k v=>Qda_r0 v K (fun x0 x1=>k (.exit 0) ⟨[(2,.one (.pv x0)),(3,.one (.pv x1))],[],[],0,18,[]⟩)⟩]
theorem Qda_s:LEsOK [Qbt_e,Qcz_e] TT (kk [2,3,999999]) Qda_l Tryz.f314 Qda_l:=⟨fun v K k h=>by
 apply un_all h;exact fun v0 v1 h=>km h
 ,trivial⟩
theorem Qda_w:EntOK Tryz.prog TT Qda_e:=ok_ tabok (L:=[Qbt_e,Qcz_e]) ⟨Qbt_w,Qcz_w,trivial⟩ (keep:=(kk [2,3,999999])) (l:=Qda_l) Tryz.func314 Qda_s fun av k h=>by
 unfold Qda at h;split at h
 ·exact km h
 ·exact h.elim
def Qdb:GM
 | [.one a0,.one a1],k =>
  (3=3)∧(3≤16777216)∧(1=1)∧(0=0)∧(1=1)∧(flatCond [.pv (I 0)] [.pv (I 231)])∧(1=1)∧(1=1)∧(flatCond [.pv (I 0)] [.pv a0])∧(2=2)∧(1=1)∧(flatCond [.pv (I 0)] [.pv a1])∧call Qbt [.one (.list 1 [[(I 231)],[a0],[a1]])] fun o0 =>
  rt [.sc] [(atP o0 0)] k
 | _,_=>False
abbrev Qdb_e:Ent:=⟨[313],Qdb⟩
theorem Qdb_w:EntOK Tryz.prog TT Qdb_e:=ok_ tabok (L:=[Qbt_e]) ⟨Qbt_w,trivial⟩ (keep:=[]) (l:=[]) Tryz.func313 trivial fun av k h=>by
 unfold Qdb at h;split at h
 ·exact km h
 ·exact h.elim
def Qdc:GM
 | [.one a0],k =>
  lenP a0 fun r0 =>
  call Qcx [.one a0] fun o1 =>
  call Qda [.one (atP o1 0)] fun o2 =>
  call Qdb [.one r0,.one (atP o2 0)] fun o3 =>
  rt [.sc] [(atP o3 0)] k
 | _,_=>False
abbrev Qdc_e:Ent:=⟨[255],Qdc⟩
theorem Qdc_w:EntOK Tryz.prog TT Qdc_e:=ok_ tabok (L:=[Qcx_e,Qda_e,Qdb_e]) ⟨Qcx_w,Qda_w,Qdb_w,trivial⟩ (keep:=[]) (l:=[]) Tryz.func255 trivial fun av k h=>by
 unfold Qdc at h;split at h
 ·exact km h
 ·exact h.elim
def Qdd:GM
 | [.one a0,.one a1],k =>
  call Qcs [.one a1] fun o0 =>
  iteP (atP o0 0)
   (call Qdc [.one a1] fun o1 =>
   binP .eql (atP o1 0) a0 fun r2 =>
   rt [.sc] [r2] k)
   (rt [.sc] [(.bool false)] k)
 | _,_=>False
abbrev Qdd_e:Ent:=⟨[190],Qdd⟩
theorem Qdd_w:EntOK Tryz.prog TT Qdd_e:=ok_ tabok (L:=[Qcs_e,Qdc_e]) ⟨Qcs_w,Qdc_w,trivial⟩ (keep:=[]) (l:=[]) Tryz.func190 trivial fun av k h=>by
 unfold Qdd at h;split at h
 ·exact km h
 ·exact h.elim
def Qde:GM
 | [.agg u0],k=>un 2 (fun a0 a1 =>
  call Qcn [.one a0] fun o0 =>
  iteP (atP o0 16)
   (lenP a1 fun r1 =>
   binP .eql (atP o0 5) r1 fun r2 =>
   iteP r2
    (call Qdd [.one (atP o0 6),.one a1] fun o3 =>
    rt [.sc] [(atP o3 0)] k)
    (rt [.sc] [(.bool false)] k))
   (rt [.sc] [(.bool false)] k)) u0
 | _,_=>False
abbrev Qde_e:Ent:=⟨[109],Qde⟩
theorem Qde_w:EntOK Tryz.prog TT Qde_e:=ok_ tabok (L:=[Qcn_e,Qdd_e]) ⟨Qcn_w,Qdd_w,trivial⟩ (keep:=[]) (l:=[]) Tryz.func109 trivial fun av k h=>by
 unfold Qde at h;split at h
 ·apply un_all h;clear h;intro a0 a1 h;exact km h
 ·exact h.elim
def Qdf:GM
 | [.agg u0],k=>un 2 (fun a0 a1 =>
  call Qcn [.one a0] fun o0 =>
  call Qde [.agg [a0,a1]] fun o1 =>
  unP .not (atP o1 0) fun r2 =>
  iteP r2
   (rt [.sc] [(I (-1))] k)
   (rt [.sc] [(atP o0 0)] k)) u0
 | _,_=>False
abbrev Qdf_e:Ent:=⟨[110],Qdf⟩
theorem Qdf_w:EntOK Tryz.prog TT Qdf_e:=ok_ tabok (L:=[Qcn_e,Qde_e]) ⟨Qcn_w,Qde_w,trivial⟩ (keep:=[]) (l:=[]) Tryz.func110 trivial fun av k h=>by
 unfold Qdf at h;split at h
 ·apply un_all h;clear h;intro a0 a1 h;exact km h
 ·exact h.elim
def Qdg:GM
 | [.one a0],k =>
  nilP false a0 fun r0 =>
  iteP r0
   (rt [.own true 3 1] [(.list 1 [])] k)
   ((0=0)∧(0≤16777216)∧(1=1)∧(flatRows a0)∧catP 1 (.list 1 []) a0 fun r1 =>
   rt [.own true 3 1] [r1] k)
 | _,_=>False
abbrev Qdg_e:Ent:=⟨[200],Qdg⟩
theorem Qdg_w:EntOK Tryz.prog TT Qdg_e:=ok_ tabok (L:=[]) trivial (keep:=[]) (l:=[]) Tryz.func200 trivial fun av k h=>by
 unfold Qdg at h;split at h
 ·exact km h
 ·exact h.elim
def Qdh:GM
 | [.agg u0],k=>un 2 (fun a0 a1 =>
  call Qdg [.one a0] fun o0 =>
  rt [.own true 3 1,.sc] [(atP o0 0),a1] k) u0
 | _,_=>False
abbrev Qdh_e:Ent:=⟨[391],Qdh⟩
theorem Qdh_w:EntOK Tryz.prog TT Qdh_e:=okF_ tabok (L:=[Qdg_e]) ⟨Qdg_w,trivial⟩ (keep:=[]) (l:=[]) Tryz.func391 trivial fun av k h=>by
 unfold Qdh at h;split at h
 ·apply un_all h;clear h;intro a0 a1 h;exact km h
 ·exact h.elim
def Qdi:GM
 | [.agg u0],k=>un 16 (fun a0 a1 a2 a3 a4 a5 a6 a7 a8 a9 a10 a11 a12 a13 a14 a15 =>
  call Qdh [.agg [a8,a9]] fun o0 =>
  call Qdh [.agg [a10,a11]] fun o1 =>
  call Qdh [.agg [a13,a14]] fun o2 =>
  rt [.sc,.sc,.sc,.sc,.sc,.sc,.sc,.sc,.own true 3 1,.sc,.own true 3 1,.sc,.sc,.own true 3 1,.sc,.sc] [a0,a1,a2,a3,a4,a5,a6,a7,(atP o0 0),(atP o0 1),(atP o1 0),(atP o1 1),a12,(atP o2 0),(atP o2 1),a15] k) u0
 | _,_=>False
abbrev Qdi_e:Ent:=⟨[340],Qdi⟩
theorem Qdi_w:EntOK Tryz.prog TT Qdi_e:=okF_ tabok (L:=[Qdh_e]) ⟨Qdh_w,trivial⟩ (keep:=[]) (l:=[]) Tryz.func340 trivial fun av k h=>by
 unfold Qdi at h;split at h
 ·apply un_all h;clear h;intro a0 a1 a2 a3 a4 a5 a6 a7 a8 a9 a10 a11 a12 a13 a14 a15 h;exact km h
 ·exact h.elim
def Qdj:GM
 | [.one a0],k =>
  nilP false a0 fun r0 =>
  iteP r0
   (rt [.own true 317 2] [(.list 2 [])] k)
   ((0=0)∧(0≤16777216)∧(2=2)∧(flatRows a0)∧catP 2 (.list 2 []) a0 fun r1 =>
   rt [.own true 317 2] [r1] k)
 | _,_=>False
abbrev Qdj_e:Ent:=⟨[356],Qdj⟩
theorem Qdj_w:EntOK Tryz.prog TT Qdj_e:=ok_ tabok (L:=[]) trivial (keep:=[]) (l:=[]) Tryz.func356 trivial fun av k h=>by
 unfold Qdj at h;split at h
 ·exact km h
 ·exact h.elim
def Qdk:GM
 | [.agg u0],k=>un 17 (fun a0 a1 a2 a3 a4 a5 a6 a7 a8 a9 a10 a11 a12 a13 a14 a15 a16 =>
  call Qdi [.agg [a0,a1,a2,a3,a4,a5,a6,a7,a8,a9,a10,a11,a12,a13,a14,a15]] fun o0 =>
  call Qdj [.one a16] fun o1 =>
  rt [.sc,.sc,.sc,.sc,.sc,.sc,.sc,.sc,.own true 3 1,.sc,.own true 3 1,.sc,.sc,.own true 3 1,.sc,.sc,.own true 317 2] [(atP o0 0),(atP o0 1),(atP o0 2),(atP o0 3),(atP o0 4),(atP o0 5),(atP o0 6),(atP o0 7),(atP o0 8),(atP o0 9),(atP o0 10),(atP o0 11),(atP o0 12),(atP o0 13),(atP o0 14),(atP o0 15),(atP o1 0)] k) u0
 | _,_=>False
abbrev Qdk_e:Ent:=⟨[305],Qdk⟩
theorem Qdk_w:EntOK Tryz.prog TT Qdk_e:=okF_ tabok (L:=[Qdi_e,Qdj_e]) ⟨Qdi_w,Qdj_w,trivial⟩ (keep:=[]) (l:=[]) Tryz.func305 trivial fun av k h=>by
 unfold Qdk at h;split at h
 ·apply un_all h;clear h;intro a0 a1 a2 a3 a4 a5 a6 a7 a8 a9 a10 a11 a12 a13 a14 a15 a16 h;exact km h
 ·exact h.elim
def Qdl_r0 (v:List PV) (K:List PV→Prop) (x0k:PV→PV→PV→PV→PV→Prop):Prop :=
 un 5 (fun v0 v1 v2 v3 v4 =>
  binP .lss v2 v1 fun r0 =>
  iteP r0
   (elemP 17 v0 v2 fun c1 =>
   call Qdk [.agg [(atP c1 0),(atP c1 1),(atP c1 2),(atP c1 3),(atP c1 4),(atP c1 5),(atP c1 6),(atP c1 7),(atP c1 8),(atP c1 9),(atP c1 10),(atP c1 11),(atP c1 12),(atP c1 13),(atP c1 14),(atP c1 15),(atP c1 16)]] fun o2 =>
   (1=1)∧(17≤16777216)∧(17=17)∧(0=0)∧(17=17)∧(flatCond [.pv (I 0),.pv (I 0),.pv (I 0),.pv (I 0),.pv (I 0),.pv (I 0),.pv (I 0),.pv (I 0),.nil 3 1,.pv (I 0),.nil 3 1,.pv (I 0),.pv (I 0),.nil 3 1,.pv (I 0),zB,.nil 317 2] [.pv (atP o2 0),.pv (atP o2 1),.pv (atP o2 2),.pv (atP o2 3),.pv (atP o2 4),.pv (atP o2 5),.pv (atP o2 6),.pv (atP o2 7),.own 11,.pv (atP o2 9),.own 13,.pv (atP o2 11),.pv (atP o2 12),.own 16,.pv (atP o2 14),.pv (atP o2 15),.own 19])∧catP 17 v4 (.list 17 [[(atP o2 0),(atP o2 1),(atP o2 2),(atP o2 3),(atP o2 4),(atP o2 5),(atP o2 6),(atP o2 7),(atP o2 8),(atP o2 9),(atP o2 10),(atP o2 11),(atP o2 12),(atP o2 13),(atP o2 14),(atP o2 15),(atP o2 16)]]) fun r3 =>
   binP .add v2 (I 1) fun r4 =>
   K [v0,v1,r4,v3,r3])
   (x0k v0 v1 v2 v3 v4)) v
def Qdl:GM
 | [.one a0],k =>
  (0=0)∧(0≤16777216)∧(17=17)∧lenP a0 fun r0 =>
  lp (fun L w=>Qdl_r0 w L
   (fun q5 q6 q7 q8 q9=>rt [.own true 257 17] [q9] k)) [a0,r0,(I 0),(.list 17 []),(.list 17 [])]
 | _,_=>False
abbrev Qdl_e:Ent:=⟨[245],Qdl⟩
def Qdl_l:List LE:=[⟨none,0,⟨[(2,.one (.own 1)),(3,.one (.own 0)),(7,.one zB),(8,.one zB),(9,.one zB)],[],[(1,⟨.deep,257,17,(.bool false)⟩),(0,⟨.deep,257,17,(.bool false)⟩)],2,20,[]⟩,fun K k v=>Qdl_r0 v K (fun x0 x1 x2 x3 x4=>k (.exit 0) ⟨[(2,.one (.own 1)),(3,.one (.own 0)),(7,.one (.pv x0)),(8,.one (.pv x1)),(9,.one (.pv x2))],[],[(1,⟨.deep,257,17,x3⟩),(0,⟨.deep,257,17,x4⟩)],2,20,[]⟩)⟩]
theorem Qdl_s:LEsOK [Qdk_e] TT.nofl (kk [2,3,7,8,9,999999]) Qdl_l Tryz.f245 Qdl_l:=⟨fun v K k h=>by
 apply un_all h;exact fun v0 v1 v2 v3 v4 h=>km h
 ,trivial⟩
theorem Qdl_w:EntOK Tryz.prog TT Qdl_e:=okF_ tabok (L:=[Qdk_e]) ⟨Qdk_w,trivial⟩ (keep:=(kk [2,3,7,8,9,999999])) (l:=Qdl_l) Tryz.func245 Qdl_s fun av k h=>by
 unfold Qdl at h;split at h
 ·exact km h
 ·exact h.elim
def Qdm:GM
 | [.one a0],k =>
  nilP false a0 fun r0 =>
  iteP r0
   (rt [.own true 9 1] [(.list 1 [])] k)
   ((0=0)∧(0≤16777216)∧(1=1)∧(flatRows a0)∧catP 1 (.list 1 []) a0 fun r1 =>
   rt [.own true 9 1] [r1] k)
 | _,_=>False
abbrev Qdm_e:Ent:=⟨[73],Qdm⟩
theorem Qdm_w:EntOK Tryz.prog TT Qdm_e:=okF_ tabok (L:=[]) trivial (keep:=[]) (l:=[]) Tryz.func73 trivial fun av k h=>by
 unfold Qdm at h;split at h
 ·exact km h
 ·exact h.elim
def Qdn:GM
 | [.agg u0],k=>un 4 (fun a0 a1 a2 a3 =>
  call Qdm [.one a3] fun o0 =>
  rt [.sc,.sc,.sc,.own true 9 1] [a0,a1,a2,(atP o0 0)] k) u0
 | _,_=>False
abbrev Qdn_e:Ent:=⟨[229],Qdn⟩
theorem Qdn_w:EntOK Tryz.prog TT Qdn_e:=okF_ tabok (L:=[Qdm_e]) ⟨Qdm_w,trivial⟩ (keep:=[]) (l:=[]) Tryz.func229 trivial fun av k h=>by
 unfold Qdn at h;split at h
 ·apply un_all h;clear h;intro a0 a1 a2 a3 h;exact km h
 ·exact h.elim
def Qdo:GM
 | [.agg u0],k=>un 51 (fun a0 a1 a2 a3 a4 a5 a6 a7 a8 a9 a10 a11 a12 a13 a14 a15 a16 a17 a18 a19 a20 a21 a22 a23 a24 a25 a26 a27 a28 a29 a30 a31 a32 a33 a34 a35 a36 a37 a38 a39 a40 a41 a42 a43 a44 a45 a46 a47 a48 a49 a50 =>
  call Qdk [.agg [a0,a1,a2,a3,a4,a5,a6,a7,a8,a9,a10,a11,a12,a13,a14,a15,a16]] fun o0 =>
  call Qdk [.agg [a17,a18,a19,a20,a21,a22,a23,a24,a25,a26,a27,a28,a29,a30,a31,a32,a33]] fun o1 =>
  call Qdk [.agg [a34,a35,a36,a37,a38,a39,a40,a41,a42,a43,a44,a45,a46,a47,a48,a49,a50]] fun o2 =>
  rt [.sc,.sc,.sc,.sc,.sc,.sc,.sc,.sc,.own true 3 1,.sc,.own true 3 1,.sc,.sc,.own true 3 1,.sc,.sc,.own true 317 2,.sc,.sc,.sc,.sc,.sc,.sc,.sc,.sc,.own true 3 1,.sc,.own true 3 1,.sc,.sc,.own true 3 1,.sc,.sc,.own true 317 2,.sc,.sc,.sc,.sc,.sc,.sc,.sc,.sc,.own true 3 1,.sc,.own true 3 1,.sc,.sc,.own true 3 1,.sc,.sc,.own true 317 2] [(atP o0 0),(atP o0 1),(atP o0 2),(atP o0 3),(atP o0 4),(atP o0 5),(atP o0 6),(atP o0 7),(atP o0 8),(atP o0 9),(atP o0 10),(atP o0 11),(atP o0 12),(atP o0 13),(atP o0 14),(atP o0 15),(atP o0 16),(atP o1 0),(atP o1 1),(atP o1 2),(atP o1 3),(atP o1 4),(atP o1 5),(atP o1 6),(atP o1 7),(atP o1 8),(atP o1 9),(atP o1 10),(atP o1 11),(atP o1 12),(atP o1 13),(atP o1 14),(atP o1 15),(atP o1 16),(atP o2 0),(atP o2 1),(atP o2 2),(atP o2 3),(atP o2 4),(atP o2 5),(atP o2 6),(atP o2 7),(atP o2 8),(atP o2 9),(atP o2 10),(atP o2 11),(atP o2 12),(atP o2 13),(atP o2 14),(atP o2 15),(atP o2 16)] k) u0
 | _,_=>False
abbrev Qdo_e:Ent:=⟨[259],Qdo⟩
theorem Qdo_w:EntOK Tryz.prog TT Qdo_e:=okF_ tabok (L:=[Qdk_e]) ⟨Qdk_w,trivial⟩ (keep:=[]) (l:=[]) Tryz.func259 trivial fun av k h=>by
 unfold Qdo at h;split at h
 ·apply un_all h;clear h;intro a0 a1 a2 a3 a4 a5 a6 a7 a8 a9 a10 a11 a12 a13 a14 a15 a16 a17 a18 a19 a20 a21 a22 a23 a24 a25 a26 a27 a28 a29 a30 a31 a32 a33 a34 a35 a36 a37 a38 a39 a40 a41 a42 a43 a44 a45 a46 a47 a48 a49 a50 h;exact km h
 ·exact h.elim
end Go.Ev
