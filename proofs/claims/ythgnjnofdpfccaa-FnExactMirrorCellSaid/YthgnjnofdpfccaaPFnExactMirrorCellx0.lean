-- PRINTED BY print.sh 35421559b90ae4d0a3588c463048766b98c2df88dd9212a6774a882060cdf62d: not written by this session
import Derived.Test.YthgnjnofdpfccaaProg
import Derived.Below
import Derived.Deep.Draws
import Derived.Deep.AppendLies
import Derived.Maps.AppendAt
import Derived.OwnWalk
import Derived.Laws.BytesArg
import Derived.Laws.MakeOwn
import Derived.Laws.OwnMore
import Derived.Deep.OwnRows
import Derived.Tactics
import Derived.Lib.ConvBytes
import Derived.Laws.Slices
import Derived.WalkKit
import Derived.KernelRfl
import Derived.RowKit3
import Derived.Deep.LoopGhost
import Derived.Deep.QuietTactic
import Derived.BigQuiet
import Derived.WideLaws
import Derived.Deep.DeepCutAuto
import Derived.Deep.CutBlock
import Derived.Deep.RegionHeld3
import Derived.Laws.Rows
import Derived.Lib.AppendStr
import Derived.ArgAppend
import Derived.Laws.IdiomCopy
import Derived.OrdersHeld
import Derived.Laws.BitsLemmas
import Derived.RowKit
import Derived.Test.YthgnjnofdpfccaaWWords
import Derived.Test.YthgnjnofdpfccaaWLast
import Derived.Test.YthgnjnofdpfccaaWTab
import Derived.Test.YthgnjnofdpfccaaWFour
import Derived.Test.YthgnjnofdpfccaaWQPut
import Derived.Test.YthgnjnofdpfccaaWApart
import Derived.Test.YthgnjnofdpfccaaWArr
import Derived.Test.YthgnjnofdpfccaaWZeros
import Derived.Test.YthgnjnofdpfccaaWFoot
import Derived.Test.YthgnjnofdpfccaaWKept
import Derived.Test.YthgnjnofdpfccaaWShare
import Derived.Test.YthgnjnofdpfccaaWN
import Derived.Test.YthgnjnofdpfccaaWFootNe
import Derived.Test.YthgnjnofdpfccaaWAt
import Derived.Test.YthgnjnofdpfccaaWEqStruct
import Derived.Test.YthgnjnofdpfccaaWRepsOne
import Derived.Test.YthgnjnofdpfccaaWInv
import Derived.Test.YthgnjnofdpfccaaWInvWords
import Derived.Test.YthgnjnofdpfccaaWGuard
import Derived.Test.YthgnjnofdpfccaaWNEv
import Derived.Test.YthgnjnofdpfccaaWMore
namespace Go.Proofs.Ythgnjnofdpfccaa.PFnExactMirrorCell
open Go.RowKit Go.Proofs.YthgnjnofdpfccaaW.PrintWords Go.Proofs.YthgnjnofdpfccaaW.PrintLast Go.Proofs.YthgnjnofdpfccaaW.PrintMore
attribute [local go_sem] max2_int min2_int max_two min_two max_three min_three max_four min_four   -- for this text's walks alone
set_option linter.unusedVariables false
set_option linter.unusedSimpArgs false



def errW : Option Int → Value
  | none => .nilIface
  | some c => .iface 0 (.int .i64 c)
theorem errW_none : errW none = .nilIface := rfl
theorem errW_some (c : Int) : errW (some c) = .iface 0 (.int .i64 c) := rfl

-- the values' own types

end Go.Proofs.Ythgnjnofdpfccaa.PFnExactMirrorCell
