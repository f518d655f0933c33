/-
  A part of the proof: SeatKC0.
-/
import Derived.Test.YtgbhlflhgmcbdaaGreatDoorSc
set_option linter.all false
/- Known calls, looked at. Printed by genknow.py. -/
namespace AmT
open Go AM
theorem k0 : isKnown (envB.over (overT T0 145)) 400 145 e0 = true := by decide +kernel
theorem k3 : isKnown (envB.over (overT T1 125)) 400 125 e3 = true := by decide +kernel
theorem k8 : isKnown (envB.over (overT T1 121)) 400 121 e8 = true := by decide +kernel
theorem k14 : isKnown (envB.over (overT T0 75)) 400 75 e14 = true := by decide +kernel
theorem k20 : isKnown (envB.over (overT T2 192)) 400 192 e20 = true := by decide +kernel
theorem k23 : isKnown (envB.over (overT T4 76)) 400 76 e23 = true := by decide +kernel
theorem k25 : isKnown (envB.over (overT T0 39)) 400 39 e25 = true := by decide +kernel
theorem k35 : isKnown (envB.over (overT T1 125)) 400 125 e35 = true := by decide +kernel
theorem k43 : isKnown (envB.over (overT T3 45)) 400 45 e43 = true := by decide +kernel
theorem k46 : isKnown (envB.over (overT T0 91)) 400 91 e46 = true := by decide +kernel
theorem k51 : isKnown (envB.over (overT T2 96)) 400 96 e51 = true := by decide +kernel
theorem k55 : isKnown (envB.over (overT T0 99)) 400 99 e55 = true := by decide +kernel
theorem k65 : isKnown (envB.over (overT T0 99)) 400 99 e65 = true := by decide +kernel
theorem k68 : isKnown (envB.over (overT T3 45)) 400 45 e68 = true := by decide +kernel
theorem k69 : isKnown (envB.over (overT T4 43)) 400 43 e69 = true := by decide +kernel
theorem k70 : isKnown (envB.over (overT T3 97)) 400 97 e70 = true := by decide +kernel
theorem k72 : isKnown (envB.over (overT T3 204)) 400 204 e72 = true := by decide +kernel
theorem k75 : isKnown (envB.over (overT T3 45)) 400 45 e75 = true := by decide +kernel
theorem k78 : isKnown (envB.over (overT T1 125)) 400 125 e78 = true := by decide +kernel
theorem k80 : isKnown (envB.over (overT T0 152)) 400 152 e80 = true := by decide +kernel
theorem k88 : isKnown (envB.over (overT T6 48)) 400 48 e88 = true := by decide +kernel
theorem k91 : isKnown (envB.over (overT T1 125)) 400 125 e91 = true := by decide +kernel
theorem k93 : isKnown (envB.over (overT T0 152)) 400 152 e93 = true := by decide +kernel
theorem k94 : isKnown (envB.over (overT T0 99)) 400 99 e94 = true := by decide +kernel
theorem k99 : isKnown (envB.over (overT T2 96)) 400 96 e99 = true := by decide +kernel
theorem k105 : isKnown (envB.over (overT T3 204)) 400 204 e105 = true := by decide +kernel
theorem k108 : isKnown (envB.over (overT T3 97)) 400 97 e108 = true := by decide +kernel
theorem k109 : isKnown (envB.over (overT T3 45)) 400 45 e109 = true := by decide +kernel
theorem k117 : isKnown (envB.over (overT T0 7)) 400 7 e117 = true := by decide +kernel
theorem k118 : isKnown (envB.over (overT T0 7)) 400 7 e118 = true := by decide +kernel
theorem k119 : isKnown (envB.over (overT T0 7)) 400 7 e119 = true := by decide +kernel
end AmT
