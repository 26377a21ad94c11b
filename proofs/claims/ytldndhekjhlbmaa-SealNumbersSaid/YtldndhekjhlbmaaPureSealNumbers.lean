/- The numbers of the errors and limits of chapter 3 that package api names are the numbers that the statement lists: a closed statement with no input and no condition. -/
import Derived.Test.YtldndhekjhlbmaaPSealNumbersx1
namespace Go.Proofs.Ytldndhekjhlbmaa.Pure
open Go.RowKit Go.Proofs.Ytldndhekjhlbmaa.PSealNumbers Go.Proofs.YtldndhekjhlbmaaW.PrintWords Go.Proofs.YtldndhekjhlbmaaW.PrintLast

/-- YOURS: assentlaw03_SealNumbers.f  = some true
What it reaches (each with k first where it has rounds; `.mono`: more rounds tell the same; `.l0`, ..: its loops, with `.mono_l`): assentlaw03_num.f, assentlaw03_SealNumbers.f -/
theorem SealNumbers : assentlaw03_SealNumbers.Pure := by
  rfl

end Go.Proofs.Ytldndhekjhlbmaa.Pure
