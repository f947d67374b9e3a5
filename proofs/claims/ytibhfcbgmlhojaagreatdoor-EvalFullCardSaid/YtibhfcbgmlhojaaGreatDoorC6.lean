/- Checks: the loop of f, and up to the cut. Conditions: none. -/
import Derived.Test.YtibhfcbgmlhojaaGreatDoorEd
set_option linter.unusedVariables false
namespace Go.Proofs.YtibhfcbgmlhojaaGreatDoor
open Go.Kx
set_option maxRecDepth 1000000
theorem c_lp1018 : lpN (hnLo 1018) (lpLo 1018) = true := by decide +kernel
theorem c_cut1018 : cutN 1018 (lpLo 1018) = true := by decide +kernel
theorem c_lp1019 : lpN (hnLo 1019) (lpLo 1019) = true := by decide +kernel
theorem c_cut1019 : cutN 1019 (lpLo 1019) = true := by decide +kernel
theorem c_lp1020 : lpN (hnLo 1020) (lpLo 1020) = true := by decide +kernel
theorem c_cut1020 : cutN 1020 (lpLo 1020) = true := by decide +kernel
theorem c_lp1021 : lpN (hnLo 1021) (lpLo 1021) = true := by decide +kernel
theorem c_cut1021 : cutN 1021 (lpLo 1021) = true := by decide +kernel
theorem c_lp1022 : lpN (hnLo 1022) (lpLo 1022) = true := by decide +kernel
theorem c_cut1022 : cutN 1022 (lpLo 1022) = true := by decide +kernel
theorem c_lp1023 : lpN (hnLo 1023) (lpLo 1023) = true := by decide +kernel
theorem c_cut1023 : cutN 1023 (lpLo 1023) = true := by decide +kernel
theorem c_lp1024 : lpN (hnLo 1024) (lpLo 1024) = true := by decide +kernel
theorem c_cut1024 : cutN 1024 (lpLo 1024) = true := by decide +kernel
theorem c_lp1025 : lpN (hnHi 1025) (lpHi 1025) = true := by decide +kernel
theorem c_cut1025 : cutN 1025 (lpHi 1025) = true := by decide +kernel
theorem c_lp1026 : lpN (hnHi 1026) (lpHi 1026) = true := by decide +kernel
theorem c_cut1026 : cutN 1026 (lpHi 1026) = true := by decide +kernel
theorem c_lp1027 : lpN (hnHi 1027) (lpHi 1027) = true := by decide +kernel
theorem c_cut1027 : cutN 1027 (lpHi 1027) = true := by decide +kernel
end Go.Proofs.YtibhfcbgmlhojaaGreatDoor
