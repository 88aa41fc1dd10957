-- PRINTED BY print.sh 35421559b90ae4d0a3588c463048766b98c2df88dd9212a6774a882060cdf62d: not written by this session
import Derived.Test.YtmekpgjioiodjaaProg
import Derived.Below
import Derived.Deep.Draws
import Derived.Deep.AppendLies
import Derived.Maps.AppendAt
import Derived.OwnWalk
import Derived.Laws.BytesArg
import Derived.Laws.MakeOwn
import Derived.Laws.OwnMore
import Derived.Deep.OwnRows
import Derived.Tactics
import Derived.Lib.ConvBytes
import Derived.Laws.Slices
import Derived.WalkKit
import Derived.KernelRfl
import Derived.RowKit3
import Derived.Deep.LoopGhost
import Derived.Deep.QuietTactic
import Derived.BigQuiet
import Derived.WideLaws
import Derived.Deep.DeepCutAuto
import Derived.Deep.CutBlock
import Derived.Deep.RegionHeld3
import Derived.Laws.Rows
import Derived.Lib.AppendStr
import Derived.ArgAppend
import Derived.Laws.IdiomCopy
import Derived.OrdersHeld
import Derived.Laws.BitsLemmas
import Derived.RowKit
import Derived.Test.YtmekpgjioiodjaaWWords
import Derived.Test.YtmekpgjioiodjaaWLast
import Derived.Test.YtmekpgjioiodjaaWTab
import Derived.Test.YtmekpgjioiodjaaWFour
import Derived.Test.YtmekpgjioiodjaaWQPut
import Derived.Test.YtmekpgjioiodjaaWApart
import Derived.Test.YtmekpgjioiodjaaWArr
import Derived.Test.YtmekpgjioiodjaaWZeros
import Derived.Test.YtmekpgjioiodjaaWFoot
import Derived.Test.YtmekpgjioiodjaaWKept
import Derived.Test.YtmekpgjioiodjaaWShare
import Derived.Test.YtmekpgjioiodjaaWN
import Derived.Test.YtmekpgjioiodjaaWFootNe
import Derived.Test.YtmekpgjioiodjaaWAt
import Derived.Test.YtmekpgjioiodjaaWEqStruct
import Derived.Test.YtmekpgjioiodjaaWRepsOne
import Derived.Test.YtmekpgjioiodjaaWInv
import Derived.Test.YtmekpgjioiodjaaWInvWords
import Derived.Test.YtmekpgjioiodjaaWGuard
import Derived.Test.YtmekpgjioiodjaaWNEv
import Derived.Test.YtmekpgjioiodjaaWMore
namespace Go.Proofs.Ytmekpgjioiodjaa.PFnExactEventName
open Go.RowKit Go.Proofs.YtmekpgjioiodjaaW.PrintWords Go.Proofs.YtmekpgjioiodjaaW.PrintLast Go.Proofs.YtmekpgjioiodjaaW.PrintMore
attribute [local go_sem] max2_int min2_int max_two min_two max_three min_three max_four min_four   -- for this text's walks alone
set_option linter.unusedVariables false
set_option linter.unusedSimpArgs false



def errW : Option Int → Value
  | none => .nilIface
  | some c => .iface 0 (.int .i64 c)
theorem errW_none : errW none = .nilIface := rfl
theorem errW_some (c : Int) : errW (some c) = .iface 0 (.int .i64 c) := rfl

theorem info9 : (Try.prog.info? 9).map (fun i => (i.zero, i.size, i.bytes)) = some (some (.string ⟨#[]⟩), 1, 16) := by kernel_rfl
-- the values' own types

end Go.Proofs.Ytmekpgjioiodjaa.PFnExactEventName
