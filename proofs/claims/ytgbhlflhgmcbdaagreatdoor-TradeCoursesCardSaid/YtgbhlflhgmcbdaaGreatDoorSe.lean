/-
  A part of the proof: SeatKC1.
-/
import Derived.Test.YtgbhlflhgmcbdaaGreatDoorSc
set_option linter.all false
/- Known calls, looked at. Printed by genknow.py. -/
namespace AmT
open Go AM
theorem k9 : isKnown (envB.over (overT T2 130)) 400 130 e9 = true := by decide +kernel
theorem k15 : isKnown (envB.over (overT T0 171)) 400 171 e15 = true := by decide +kernel
theorem k16 : isKnown (envB.over (overT T1 121)) 400 121 e16 = true := by decide +kernel
theorem k18 : isKnown (envB.over (overT T3 51)) 400 51 e18 = true := by decide +kernel
theorem k21 : isKnown (envB.over (overT T3 141)) 400 141 e21 = true := by decide +kernel
theorem k26 : isKnown (envB.over (overT T1 121)) 400 121 e26 = true := by decide +kernel
theorem k27 : isKnown (envB.over (overT T1 121)) 400 121 e27 = true := by decide +kernel
theorem k31 : isKnown (envB.over (overT T1 41)) 400 41 e31 = true := by decide +kernel
theorem k32 : isKnown (envB.over (overT T0 91)) 400 91 e32 = true := by decide +kernel
theorem k34 : isKnown (envB.over (overT T0 182)) 400 182 e34 = true := by decide +kernel
theorem k38 : isKnown (envB.over (overT T2 96)) 400 96 e38 = true := by decide +kernel
theorem k39 : isKnown (envB.over (overT T0 152)) 400 152 e39 = true := by decide +kernel
theorem k45 : isKnown (envB.over (overT T3 45)) 400 45 e45 = true := by decide +kernel
theorem k50 : isKnown (envB.over (overT T1 125)) 400 125 e50 = true := by decide +kernel
theorem k52 : isKnown (envB.over (overT T0 152)) 400 152 e52 = true := by decide +kernel
theorem k54 : isKnown (envB.over (overT T0 99)) 400 99 e54 = true := by decide +kernel
theorem k56 : isKnown (envB.over (overT T3 97)) 400 97 e56 = true := by decide +kernel
theorem k61 : isKnown (envB.over (overT T3 204)) 400 204 e61 = true := by decide +kernel
theorem k63 : isKnown (envB.over (overT T2 96)) 400 96 e63 = true := by decide +kernel
theorem k67 : isKnown (envB.over (overT T0 99)) 400 99 e67 = true := by decide +kernel
theorem k77 : isKnown (envB.over (overT T0 91)) 400 91 e77 = true := by decide +kernel
theorem k82 : isKnown (envB.over (overT T3 97)) 400 97 e82 = true := by decide +kernel
theorem k83 : isKnown (envB.over (overT T3 45)) 400 45 e83 = true := by decide +kernel
theorem k85 : isKnown (envB.over (overT T3 204)) 400 204 e85 = true := by decide +kernel
theorem k86 : isKnown (envB.over (overT T4 43)) 400 43 e86 = true := by decide +kernel
theorem k100 : isKnown (envB.over (overT T0 152)) 400 152 e100 = true := by decide +kernel
theorem k101 : isKnown (envB.over (overT T0 99)) 400 99 e101 = true := by decide +kernel
theorem k111 : isKnown (envB.over (overT T3 45)) 400 45 e111 = true := by decide +kernel
theorem k113 : isKnown (envB.over (overT T4 21)) 400 21 e113 = true := by decide +kernel
theorem k114 : isKnown (envB.over (overT T7 11)) 400 11 e114 = true := by decide +kernel
theorem k123 : isKnown (envB.over (overT T8 4)) 400 4 e123 = true := by decide +kernel
end AmT
