/-
  A part of the proof: SeatKC2.
-/
import Derived.Test.YtgbhlflhgmcbdaaGreatDoorSc
set_option linter.all false
/- Known calls, looked at. Printed by genknow.py. -/
namespace AmT
open Go AM
theorem k1 : isKnown (envB.over (overT T1 18)) 400 18 e1 = true := by decide +kernel
theorem k2 : isKnown (envB.over (overT T0 182)) 400 182 e2 = true := by decide +kernel
theorem k4 : isKnown (envB.over (overT T0 175)) 400 175 e4 = true := by decide +kernel
theorem k5 : isKnown (envB.over (overT T1 121)) 400 121 e5 = true := by decide +kernel
theorem k6 : isKnown (envB.over (overT T2 130)) 400 130 e6 = true := by decide +kernel
theorem k7 : isKnown (envB.over (overT T0 187)) 400 187 e7 = true := by decide +kernel
theorem k10 : isKnown (envB.over (overT T0 187)) 400 187 e10 = true := by decide +kernel
theorem k12 : isKnown (envB.over (overT T1 125)) 400 125 e12 = true := by decide +kernel
theorem k22 : isKnown (envB.over (overT T1 55)) 400 55 e22 = true := by decide +kernel
theorem k33 : isKnown (envB.over (overT T0 91)) 400 91 e33 = true := by decide +kernel
theorem k36 : isKnown (envB.over (overT T2 96)) 400 96 e36 = true := by decide +kernel
theorem k42 : isKnown (envB.over (overT T3 97)) 400 97 e42 = true := by decide +kernel
theorem k44 : isKnown (envB.over (overT T0 99)) 400 99 e44 = true := by decide +kernel
theorem k48 : isKnown (envB.over (overT T1 125)) 400 125 e48 = true := by decide +kernel
theorem k53 : isKnown (envB.over (overT T0 152)) 400 152 e53 = true := by decide +kernel
theorem k59 : isKnown (envB.over (overT T3 45)) 400 45 e59 = true := by decide +kernel
theorem k71 : isKnown (envB.over (overT T3 204)) 400 204 e71 = true := by decide +kernel
theorem k74 : isKnown (envB.over (overT T5 20)) 400 20 e74 = true := by decide +kernel
theorem k79 : isKnown (envB.over (overT T2 96)) 400 96 e79 = true := by decide +kernel
theorem k81 : isKnown (envB.over (overT T0 99)) 400 99 e81 = true := by decide +kernel
theorem k90 : isKnown (envB.over (overT T0 91)) 400 91 e90 = true := by decide +kernel
theorem k97 : isKnown (envB.over (overT T3 204)) 400 204 e97 = true := by decide +kernel
theorem k98 : isKnown (envB.over (overT T1 125)) 400 125 e98 = true := by decide +kernel
theorem k102 : isKnown (envB.over (overT T3 97)) 400 97 e102 = true := by decide +kernel
theorem k103 : isKnown (envB.over (overT T3 45)) 400 45 e103 = true := by decide +kernel
theorem k104 : isKnown (envB.over (overT T4 43)) 400 43 e104 = true := by decide +kernel
theorem k107 : isKnown (envB.over (overT T0 99)) 400 99 e107 = true := by decide +kernel
theorem k112 : isKnown (envB.over (overT T4 50)) 400 50 e112 = true := by decide +kernel
theorem k115 : isKnown (envB.over (overT T3 12)) 400 12 e115 = true := by decide +kernel
theorem k116 : isKnown (envB.over (overT T0 7)) 400 7 e116 = true := by decide +kernel
theorem k122 : isKnown (envB.over (overT T0 7)) 400 7 e122 = true := by decide +kernel
end AmT
