/-
  A part of the proof: SeatKC3.
-/
import Derived.Test.YtgbhlflhgmcbdaaGreatDoorSc
set_option linter.all false
/- Known calls, looked at. Printed by genknow.py. -/
namespace AmT
open Go AM
theorem k11 : isKnown (envB.over (overT T0 182)) 400 182 e11 = true := by decide +kernel
theorem k13 : isKnown (envB.over (overT T2 74)) 400 74 e13 = true := by decide +kernel
theorem k17 : isKnown (envB.over (overT T2 111)) 400 111 e17 = true := by decide +kernel
theorem k19 : isKnown (envB.over (overT T1 121)) 400 121 e19 = true := by decide +kernel
theorem k24 : isKnown (envB.over (overT T5 28)) 400 28 e24 = true := by decide +kernel
theorem k28 : isKnown (envB.over (overT T2 25)) 400 25 e28 = true := by decide +kernel
theorem k29 : isKnown (envB.over (overT T6 14)) 400 14 e29 = true := by decide +kernel
theorem k30 : isKnown (envB.over (overT T1 41)) 400 41 e30 = true := by decide +kernel
theorem k37 : isKnown (envB.over (overT T1 125)) 400 125 e37 = true := by decide +kernel
theorem k40 : isKnown (envB.over (overT T0 152)) 400 152 e40 = true := by decide +kernel
theorem k41 : isKnown (envB.over (overT T0 99)) 400 99 e41 = true := by decide +kernel
theorem k47 : isKnown (envB.over (overT T0 91)) 400 91 e47 = true := by decide +kernel
theorem k49 : isKnown (envB.over (overT T2 96)) 400 96 e49 = true := by decide +kernel
theorem k57 : isKnown (envB.over (overT T0 99)) 400 99 e57 = true := by decide +kernel
theorem k58 : isKnown (envB.over (overT T3 45)) 400 45 e58 = true := by decide +kernel
theorem k60 : isKnown (envB.over (overT T3 204)) 400 204 e60 = true := by decide +kernel
theorem k62 : isKnown (envB.over (overT T1 125)) 400 125 e62 = true := by decide +kernel
theorem k64 : isKnown (envB.over (overT T0 152)) 400 152 e64 = true := by decide +kernel
theorem k66 : isKnown (envB.over (overT T3 97)) 400 97 e66 = true := by decide +kernel
theorem k73 : isKnown (envB.over (overT T4 43)) 400 43 e73 = true := by decide +kernel
theorem k76 : isKnown (envB.over (overT T4 21)) 400 21 e76 = true := by decide +kernel
theorem k84 : isKnown (envB.over (overT T3 204)) 400 204 e84 = true := by decide +kernel
theorem k87 : isKnown (envB.over (overT T5 20)) 400 20 e87 = true := by decide +kernel
theorem k89 : isKnown (envB.over (overT T6 49)) 400 49 e89 = true := by decide +kernel
theorem k92 : isKnown (envB.over (overT T2 96)) 400 96 e92 = true := by decide +kernel
theorem k95 : isKnown (envB.over (overT T3 97)) 400 97 e95 = true := by decide +kernel
theorem k96 : isKnown (envB.over (overT T3 45)) 400 45 e96 = true := by decide +kernel
theorem k106 : isKnown (envB.over (overT T3 204)) 400 204 e106 = true := by decide +kernel
theorem k110 : isKnown (envB.over (overT T0 99)) 400 99 e110 = true := by decide +kernel
theorem k120 : isKnown (envB.over (overT T0 7)) 400 7 e120 = true := by decide +kernel
theorem k121 : isKnown (envB.over (overT T0 7)) 400 7 e121 = true := by decide +kernel
end AmT
