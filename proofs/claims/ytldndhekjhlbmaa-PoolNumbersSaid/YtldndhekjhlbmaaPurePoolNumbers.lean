/- The numbers of chapter 9 that package api names are the numbers that the statement lists: a closed statement with no input and no condition. -/
import Derived.Test.YtldndhekjhlbmaaPPoolNumbersx1
namespace Go.Proofs.Ytldndhekjhlbmaa.Pure
open Go.RowKit Go.Proofs.Ytldndhekjhlbmaa.PPoolNumbers Go.Proofs.YtldndhekjhlbmaaW.PrintWords Go.Proofs.YtldndhekjhlbmaaW.PrintLast

/-- YOURS: assentlaw09_PoolNumbers.f  = some true
What it reaches (each with k first where it has rounds; `.mono`: more rounds tell the same; `.l0`, ..: its loops, with `.mono_l`): assentlaw09_num.f, assentlaw09_PoolNumbers.f -/
theorem PoolNumbers : assentlaw09_PoolNumbers.Pure := by
  rfl

end Go.Proofs.Ytldndhekjhlbmaa.Pure
