/-
  A part of the proof: SeatKF, SeatFin.
-/
import Derived.Test.YtgbhlflhgmcbdaaGreatDoorSd
import Derived.Test.YtgbhlflhgmcbdaaGreatDoorSe
import Derived.Test.YtgbhlflhgmcbdaaGreatDoorSf
import Derived.Test.YtgbhlflhgmcbdaaGreatDoorSg
set_option linter.all false
/- What is known of the calls. Printed by genknow.py. -/
namespace AmT
open Go AM Go.Proofs
theorem en4 : AM.Enters Tryz.prog 4 := ⟨_, Tryz.func4, by decide, rfl⟩
theorem en7 : AM.Enters Tryz.prog 7 := ⟨_, Tryz.func7, by decide, rfl⟩
theorem en11 : AM.Enters Tryz.prog 11 := ⟨_, Tryz.func11, by decide, rfl⟩
theorem en12 : AM.Enters Tryz.prog 12 := ⟨_, Tryz.func12, by decide, rfl⟩
theorem en14 : AM.Enters Tryz.prog 14 := ⟨_, Tryz.func14, by decide, rfl⟩
theorem en18 : AM.Enters Tryz.prog 18 := ⟨_, Tryz.func18, by decide, rfl⟩
theorem en20 : AM.Enters Tryz.prog 20 := ⟨_, Tryz.func20, by decide, rfl⟩
theorem en21 : AM.Enters Tryz.prog 21 := ⟨_, Tryz.func21, by decide, rfl⟩
theorem en25 : AM.Enters Tryz.prog 25 := ⟨_, Tryz.func25, by decide, rfl⟩
theorem en28 : AM.Enters Tryz.prog 28 := ⟨_, Tryz.func28, by decide, rfl⟩
theorem en39 : AM.Enters Tryz.prog 39 := ⟨_, Tryz.func39, by decide, rfl⟩
theorem en41 : AM.Enters Tryz.prog 41 := ⟨_, Tryz.func41, by decide, rfl⟩
theorem en43 : AM.Enters Tryz.prog 43 := ⟨_, Tryz.func43, by decide, rfl⟩
theorem en45 : AM.Enters Tryz.prog 45 := ⟨_, Tryz.func45, by decide, rfl⟩
theorem en48 : AM.Enters Tryz.prog 48 := ⟨_, Tryz.func48, by decide, rfl⟩
theorem en49 : AM.Enters Tryz.prog 49 := ⟨_, Tryz.func49, by decide, rfl⟩
theorem en50 : AM.Enters Tryz.prog 50 := ⟨_, Tryz.func50, by decide, rfl⟩
theorem en51 : AM.Enters Tryz.prog 51 := ⟨_, Tryz.func51, by decide, rfl⟩
theorem en55 : AM.Enters Tryz.prog 55 := ⟨_, Tryz.func55, by decide, rfl⟩
theorem en74 : AM.Enters Tryz.prog 74 := ⟨_, Tryz.func74, by decide, rfl⟩
theorem en75 : AM.Enters Tryz.prog 75 := ⟨_, Tryz.func75, by decide, rfl⟩
theorem en76 : AM.Enters Tryz.prog 76 := ⟨_, Tryz.func76, by decide, rfl⟩
theorem en91 : AM.Enters Tryz.prog 91 := ⟨_, Tryz.func91, by decide, rfl⟩
theorem en96 : AM.Enters Tryz.prog 96 := ⟨_, Tryz.func96, by decide, rfl⟩
theorem en97 : AM.Enters Tryz.prog 97 := ⟨_, Tryz.func97, by decide, rfl⟩
theorem en99 : AM.Enters Tryz.prog 99 := ⟨_, Tryz.func99, by decide, rfl⟩
theorem en111 : AM.Enters Tryz.prog 111 := ⟨_, Tryz.func111, by decide, rfl⟩
theorem en121 : AM.Enters Tryz.prog 121 := ⟨_, Tryz.func121, by decide, rfl⟩
theorem en125 : AM.Enters Tryz.prog 125 := ⟨_, Tryz.func125, by decide, rfl⟩
theorem en130 : AM.Enters Tryz.prog 130 := ⟨_, Tryz.func130, by decide, rfl⟩
theorem en141 : AM.Enters Tryz.prog 141 := ⟨_, Tryz.func141, by decide, rfl⟩
theorem en145 : AM.Enters Tryz.prog 145 := ⟨_, Tryz.func145, by decide, rfl⟩
theorem en152 : AM.Enters Tryz.prog 152 := ⟨_, Tryz.func152, by decide, rfl⟩
theorem en171 : AM.Enters Tryz.prog 171 := ⟨_, Tryz.func171, by decide, rfl⟩
theorem en175 : AM.Enters Tryz.prog 175 := ⟨_, Tryz.func175, by decide, rfl⟩
theorem en182 : AM.Enters Tryz.prog 182 := ⟨_, Tryz.func182, by decide, rfl⟩
theorem en187 : AM.Enters Tryz.prog 187 := ⟨_, Tryz.func187, by decide, rfl⟩
theorem en192 : AM.Enters Tryz.prog 192 := ⟨_, Tryz.func192, by decide, rfl⟩
theorem en204 : AM.Enters Tryz.prog 204 := ⟨_, Tryz.func204, by decide, rfl⟩
theorem T0R : Facts Tryz.prog T0 := .nil
theorem f0 : PrimR Tryz.prog 145 (known [e0]) := fact envBR fnB T0R en145 k0
theorem f2 : PrimR Tryz.prog 182 (known [e2]) := fact envBR fnB T0R en182 k2
theorem f4 : PrimR Tryz.prog 175 (known [e4]) := fact envBR fnB T0R en175 k4
theorem f7 : PrimR Tryz.prog 187 (known [e7]) := fact envBR fnB T0R en187 k7
theorem f10 : PrimR Tryz.prog 187 (known [e10]) := fact envBR fnB T0R en187 k10
theorem f11 : PrimR Tryz.prog 182 (known [e11]) := fact envBR fnB T0R en182 k11
theorem f14 : PrimR Tryz.prog 75 (known [e14]) := fact envBR fnB T0R en75 k14
theorem f15 : PrimR Tryz.prog 171 (known [e15]) := fact envBR fnB T0R en171 k15
theorem f25 : PrimR Tryz.prog 39 (known [e25]) := fact envBR fnB T0R en39 k25
theorem f32 : PrimR Tryz.prog 91 (known [e32]) := fact envBR fnB T0R en91 k32
theorem f33 : PrimR Tryz.prog 91 (known [e33]) := fact envBR fnB T0R en91 k33
theorem f34 : PrimR Tryz.prog 182 (known [e34]) := fact envBR fnB T0R en182 k34
theorem f39 : PrimR Tryz.prog 152 (known [e39]) := fact envBR fnB T0R en152 k39
theorem f40 : PrimR Tryz.prog 152 (known [e40]) := fact envBR fnB T0R en152 k40
theorem f41 : PrimR Tryz.prog 99 (known [e41]) := fact envBR fnB T0R en99 k41
theorem f44 : PrimR Tryz.prog 99 (known [e44]) := fact envBR fnB T0R en99 k44
theorem f46 : PrimR Tryz.prog 91 (known [e46]) := fact envBR fnB T0R en91 k46
theorem f47 : PrimR Tryz.prog 91 (known [e47]) := fact envBR fnB T0R en91 k47
theorem f52 : PrimR Tryz.prog 152 (known [e52]) := fact envBR fnB T0R en152 k52
theorem f53 : PrimR Tryz.prog 152 (known [e53]) := fact envBR fnB T0R en152 k53
theorem f54 : PrimR Tryz.prog 99 (known [e54]) := fact envBR fnB T0R en99 k54
theorem f55 : PrimR Tryz.prog 99 (known [e55]) := fact envBR fnB T0R en99 k55
theorem f57 : PrimR Tryz.prog 99 (known [e57]) := fact envBR fnB T0R en99 k57
theorem f64 : PrimR Tryz.prog 152 (known [e64]) := fact envBR fnB T0R en152 k64
theorem f65 : PrimR Tryz.prog 99 (known [e65]) := fact envBR fnB T0R en99 k65
theorem f67 : PrimR Tryz.prog 99 (known [e67]) := fact envBR fnB T0R en99 k67
theorem f77 : PrimR Tryz.prog 91 (known [e77]) := fact envBR fnB T0R en91 k77
theorem f80 : PrimR Tryz.prog 152 (known [e80]) := fact envBR fnB T0R en152 k80
theorem f81 : PrimR Tryz.prog 99 (known [e81]) := fact envBR fnB T0R en99 k81
theorem f90 : PrimR Tryz.prog 91 (known [e90]) := fact envBR fnB T0R en91 k90
theorem f93 : PrimR Tryz.prog 152 (known [e93]) := fact envBR fnB T0R en152 k93
theorem f94 : PrimR Tryz.prog 99 (known [e94]) := fact envBR fnB T0R en99 k94
theorem f100 : PrimR Tryz.prog 152 (known [e100]) := fact envBR fnB T0R en152 k100
theorem f101 : PrimR Tryz.prog 99 (known [e101]) := fact envBR fnB T0R en99 k101
theorem f107 : PrimR Tryz.prog 99 (known [e107]) := fact envBR fnB T0R en99 k107
theorem f110 : PrimR Tryz.prog 99 (known [e110]) := fact envBR fnB T0R en99 k110
theorem f116 : PrimR Tryz.prog 7 (known [e116]) := fact envBR fnB T0R en7 k116
theorem f117 : PrimR Tryz.prog 7 (known [e117]) := fact envBR fnB T0R en7 k117
theorem f118 : PrimR Tryz.prog 7 (known [e118]) := fact envBR fnB T0R en7 k118
theorem f119 : PrimR Tryz.prog 7 (known [e119]) := fact envBR fnB T0R en7 k119
theorem f120 : PrimR Tryz.prog 7 (known [e120]) := fact envBR fnB T0R en7 k120
theorem f121 : PrimR Tryz.prog 7 (known [e121]) := fact envBR fnB T0R en7 k121
theorem f122 : PrimR Tryz.prog 7 (known [e122]) := fact envBR fnB T0R en7 k122
theorem T1R : Facts Tryz.prog T1 := .cons (.cons f116 (.cons f117 (.cons f118 (.cons f119 (.cons f120 (.cons f121 (.cons f122 (.nil en7)))))))) (.cons (.cons f25 (.nil en39)) (.cons (.cons f14 (.nil en75)) (.cons (.cons f32 (.cons f33 (.cons f46 (.cons f47 (.cons f77 (.cons f90 (.nil en91))))))) (.cons (.cons f41 (.cons f44 (.cons f54 (.cons f55 (.cons f57 (.cons f65 (.cons f67 (.cons f81 (.cons f94 (.cons f101 (.cons f107 (.cons f110 (.nil en99))))))))))))) (.cons (.cons f0 (.nil en145)) (.cons (.cons f39 (.cons f40 (.cons f52 (.cons f53 (.cons f64 (.cons f80 (.cons f93 (.cons f100 (.nil en152))))))))) (.cons (.cons f15 (.nil en171)) (.cons (.cons f4 (.nil en175)) (.cons (.cons f2 (.cons f11 (.cons f34 (.nil en182)))) (.cons (.cons f7 (.cons f10 (.nil en187))) (.nil)))))))))))
theorem f1 : PrimR Tryz.prog 18 (known [e1]) := fact envBR fnB T1R en18 k1
theorem f3 : PrimR Tryz.prog 125 (known [e3]) := fact envBR fnB T1R en125 k3
theorem f5 : PrimR Tryz.prog 121 (known [e5]) := fact envBR fnB T1R en121 k5
theorem f8 : PrimR Tryz.prog 121 (known [e8]) := fact envBR fnB T1R en121 k8
theorem f12 : PrimR Tryz.prog 125 (known [e12]) := fact envBR fnB T1R en125 k12
theorem f16 : PrimR Tryz.prog 121 (known [e16]) := fact envBR fnB T1R en121 k16
theorem f19 : PrimR Tryz.prog 121 (known [e19]) := fact envBR fnB T1R en121 k19
theorem f22 : PrimR Tryz.prog 55 (known [e22]) := fact envBR fnB T1R en55 k22
theorem f26 : PrimR Tryz.prog 121 (known [e26]) := fact envBR fnB T1R en121 k26
theorem f27 : PrimR Tryz.prog 121 (known [e27]) := fact envBR fnB T1R en121 k27
theorem f30 : PrimR Tryz.prog 41 (known [e30]) := fact envBR fnB T1R en41 k30
theorem f31 : PrimR Tryz.prog 41 (known [e31]) := fact envBR fnB T1R en41 k31
theorem f35 : PrimR Tryz.prog 125 (known [e35]) := fact envBR fnB T1R en125 k35
theorem f37 : PrimR Tryz.prog 125 (known [e37]) := fact envBR fnB T1R en125 k37
theorem f48 : PrimR Tryz.prog 125 (known [e48]) := fact envBR fnB T1R en125 k48
theorem f50 : PrimR Tryz.prog 125 (known [e50]) := fact envBR fnB T1R en125 k50
theorem f62 : PrimR Tryz.prog 125 (known [e62]) := fact envBR fnB T1R en125 k62
theorem f78 : PrimR Tryz.prog 125 (known [e78]) := fact envBR fnB T1R en125 k78
theorem f91 : PrimR Tryz.prog 125 (known [e91]) := fact envBR fnB T1R en125 k91
theorem f98 : PrimR Tryz.prog 125 (known [e98]) := fact envBR fnB T1R en125 k98
theorem T2R : Facts Tryz.prog T2 := .cons (.cons f116 (.cons f117 (.cons f118 (.cons f119 (.cons f120 (.cons f121 (.cons f122 (.nil en7)))))))) (.cons (.cons f1 (.nil en18)) (.cons (.cons f25 (.nil en39)) (.cons (.cons f30 (.cons f31 (.nil en41))) (.cons (.cons f22 (.nil en55)) (.cons (.cons f14 (.nil en75)) (.cons (.cons f32 (.cons f33 (.cons f46 (.cons f47 (.cons f77 (.cons f90 (.nil en91))))))) (.cons (.cons f41 (.cons f44 (.cons f54 (.cons f55 (.cons f57 (.cons f65 (.cons f67 (.cons f81 (.cons f94 (.cons f101 (.cons f107 (.cons f110 (.nil en99))))))))))))) (.cons (.cons f5 (.cons f8 (.cons f16 (.cons f19 (.cons f26 (.cons f27 (.nil en121))))))) (.cons (.cons f3 (.cons f12 (.cons f35 (.cons f37 (.cons f48 (.cons f50 (.cons f62 (.cons f78 (.cons f91 (.cons f98 (.nil en125))))))))))) (.cons (.cons f0 (.nil en145)) (.cons (.cons f39 (.cons f40 (.cons f52 (.cons f53 (.cons f64 (.cons f80 (.cons f93 (.cons f100 (.nil en152))))))))) (.cons (.cons f15 (.nil en171)) (.cons (.cons f4 (.nil en175)) (.cons (.cons f2 (.cons f11 (.cons f34 (.nil en182)))) (.cons (.cons f7 (.cons f10 (.nil en187))) (.nil))))))))))))))))
theorem f6 : PrimR Tryz.prog 130 (known [e6]) := fact envBR fnB T2R en130 k6
theorem f9 : PrimR Tryz.prog 130 (known [e9]) := fact envBR fnB T2R en130 k9
theorem f13 : PrimR Tryz.prog 74 (known [e13]) := fact envBR fnB T2R en74 k13
theorem f17 : PrimR Tryz.prog 111 (known [e17]) := fact envBR fnB T2R en111 k17
theorem f20 : PrimR Tryz.prog 192 (known [e20]) := fact envBR fnB T2R en192 k20
theorem f28 : PrimR Tryz.prog 25 (known [e28]) := fact envBR fnB T2R en25 k28
theorem f36 : PrimR Tryz.prog 96 (known [e36]) := fact envBR fnB T2R en96 k36
theorem f38 : PrimR Tryz.prog 96 (known [e38]) := fact envBR fnB T2R en96 k38
theorem f49 : PrimR Tryz.prog 96 (known [e49]) := fact envBR fnB T2R en96 k49
theorem f51 : PrimR Tryz.prog 96 (known [e51]) := fact envBR fnB T2R en96 k51
theorem f63 : PrimR Tryz.prog 96 (known [e63]) := fact envBR fnB T2R en96 k63
theorem f79 : PrimR Tryz.prog 96 (known [e79]) := fact envBR fnB T2R en96 k79
theorem f92 : PrimR Tryz.prog 96 (known [e92]) := fact envBR fnB T2R en96 k92
theorem f99 : PrimR Tryz.prog 96 (known [e99]) := fact envBR fnB T2R en96 k99
theorem T3R : Facts Tryz.prog T3 := .cons (.cons f116 (.cons f117 (.cons f118 (.cons f119 (.cons f120 (.cons f121 (.cons f122 (.nil en7)))))))) (.cons (.cons f1 (.nil en18)) (.cons (.cons f28 (.nil en25)) (.cons (.cons f25 (.nil en39)) (.cons (.cons f30 (.cons f31 (.nil en41))) (.cons (.cons f22 (.nil en55)) (.cons (.cons f13 (.nil en74)) (.cons (.cons f14 (.nil en75)) (.cons (.cons f32 (.cons f33 (.cons f46 (.cons f47 (.cons f77 (.cons f90 (.nil en91))))))) (.cons (.cons f36 (.cons f38 (.cons f49 (.cons f51 (.cons f63 (.cons f79 (.cons f92 (.cons f99 (.nil en96))))))))) (.cons (.cons f41 (.cons f44 (.cons f54 (.cons f55 (.cons f57 (.cons f65 (.cons f67 (.cons f81 (.cons f94 (.cons f101 (.cons f107 (.cons f110 (.nil en99))))))))))))) (.cons (.cons f17 (.nil en111)) (.cons (.cons f5 (.cons f8 (.cons f16 (.cons f19 (.cons f26 (.cons f27 (.nil en121))))))) (.cons (.cons f3 (.cons f12 (.cons f35 (.cons f37 (.cons f48 (.cons f50 (.cons f62 (.cons f78 (.cons f91 (.cons f98 (.nil en125))))))))))) (.cons (.cons f6 (.cons f9 (.nil en130))) (.cons (.cons f0 (.nil en145)) (.cons (.cons f39 (.cons f40 (.cons f52 (.cons f53 (.cons f64 (.cons f80 (.cons f93 (.cons f100 (.nil en152))))))))) (.cons (.cons f15 (.nil en171)) (.cons (.cons f4 (.nil en175)) (.cons (.cons f2 (.cons f11 (.cons f34 (.nil en182)))) (.cons (.cons f7 (.cons f10 (.nil en187))) (.cons (.cons f20 (.nil en192)) (.nil))))))))))))))))))))))
theorem f18 : PrimR Tryz.prog 51 (known [e18]) := fact envBR fnB T3R en51 k18
theorem f21 : PrimR Tryz.prog 141 (known [e21]) := fact envBR fnB T3R en141 k21
theorem f42 : PrimR Tryz.prog 97 (known [e42]) := fact envBR fnB T3R en97 k42
theorem f43 : PrimR Tryz.prog 45 (known [e43]) := fact envBR fnB T3R en45 k43
theorem f45 : PrimR Tryz.prog 45 (known [e45]) := fact envBR fnB T3R en45 k45
theorem f56 : PrimR Tryz.prog 97 (known [e56]) := fact envBR fnB T3R en97 k56
theorem f58 : PrimR Tryz.prog 45 (known [e58]) := fact envBR fnB T3R en45 k58
theorem f59 : PrimR Tryz.prog 45 (known [e59]) := fact envBR fnB T3R en45 k59
theorem f60 : PrimR Tryz.prog 204 (known [e60]) := fact envBR fnB T3R en204 k60
theorem f61 : PrimR Tryz.prog 204 (known [e61]) := fact envBR fnB T3R en204 k61
theorem f66 : PrimR Tryz.prog 97 (known [e66]) := fact envBR fnB T3R en97 k66
theorem f68 : PrimR Tryz.prog 45 (known [e68]) := fact envBR fnB T3R en45 k68
theorem f70 : PrimR Tryz.prog 97 (known [e70]) := fact envBR fnB T3R en97 k70
theorem f71 : PrimR Tryz.prog 204 (known [e71]) := fact envBR fnB T3R en204 k71
theorem f72 : PrimR Tryz.prog 204 (known [e72]) := fact envBR fnB T3R en204 k72
theorem f75 : PrimR Tryz.prog 45 (known [e75]) := fact envBR fnB T3R en45 k75
theorem f82 : PrimR Tryz.prog 97 (known [e82]) := fact envBR fnB T3R en97 k82
theorem f83 : PrimR Tryz.prog 45 (known [e83]) := fact envBR fnB T3R en45 k83
theorem f84 : PrimR Tryz.prog 204 (known [e84]) := fact envBR fnB T3R en204 k84
theorem f85 : PrimR Tryz.prog 204 (known [e85]) := fact envBR fnB T3R en204 k85
theorem f95 : PrimR Tryz.prog 97 (known [e95]) := fact envBR fnB T3R en97 k95
theorem f96 : PrimR Tryz.prog 45 (known [e96]) := fact envBR fnB T3R en45 k96
theorem f97 : PrimR Tryz.prog 204 (known [e97]) := fact envBR fnB T3R en204 k97
theorem f102 : PrimR Tryz.prog 97 (known [e102]) := fact envBR fnB T3R en97 k102
theorem f103 : PrimR Tryz.prog 45 (known [e103]) := fact envBR fnB T3R en45 k103
theorem f105 : PrimR Tryz.prog 204 (known [e105]) := fact envBR fnB T3R en204 k105
theorem f106 : PrimR Tryz.prog 204 (known [e106]) := fact envBR fnB T3R en204 k106
theorem f108 : PrimR Tryz.prog 97 (known [e108]) := fact envBR fnB T3R en97 k108
theorem f109 : PrimR Tryz.prog 45 (known [e109]) := fact envBR fnB T3R en45 k109
theorem f111 : PrimR Tryz.prog 45 (known [e111]) := fact envBR fnB T3R en45 k111
theorem f115 : PrimR Tryz.prog 12 (known [e115]) := fact envBR fnB T3R en12 k115
theorem T4R : Facts Tryz.prog T4 := .cons (.cons f116 (.cons f117 (.cons f118 (.cons f119 (.cons f120 (.cons f121 (.cons f122 (.nil en7)))))))) (.cons (.cons f115 (.nil en12)) (.cons (.cons f1 (.nil en18)) (.cons (.cons f28 (.nil en25)) (.cons (.cons f25 (.nil en39)) (.cons (.cons f30 (.cons f31 (.nil en41))) (.cons (.cons f43 (.cons f45 (.cons f58 (.cons f59 (.cons f68 (.cons f75 (.cons f83 (.cons f96 (.cons f103 (.cons f109 (.cons f111 (.nil en45)))))))))))) (.cons (.cons f18 (.nil en51)) (.cons (.cons f22 (.nil en55)) (.cons (.cons f13 (.nil en74)) (.cons (.cons f14 (.nil en75)) (.cons (.cons f32 (.cons f33 (.cons f46 (.cons f47 (.cons f77 (.cons f90 (.nil en91))))))) (.cons (.cons f36 (.cons f38 (.cons f49 (.cons f51 (.cons f63 (.cons f79 (.cons f92 (.cons f99 (.nil en96))))))))) (.cons (.cons f42 (.cons f56 (.cons f66 (.cons f70 (.cons f82 (.cons f95 (.cons f102 (.cons f108 (.nil en97))))))))) (.cons (.cons f41 (.cons f44 (.cons f54 (.cons f55 (.cons f57 (.cons f65 (.cons f67 (.cons f81 (.cons f94 (.cons f101 (.cons f107 (.cons f110 (.nil en99))))))))))))) (.cons (.cons f17 (.nil en111)) (.cons (.cons f5 (.cons f8 (.cons f16 (.cons f19 (.cons f26 (.cons f27 (.nil en121))))))) (.cons (.cons f3 (.cons f12 (.cons f35 (.cons f37 (.cons f48 (.cons f50 (.cons f62 (.cons f78 (.cons f91 (.cons f98 (.nil en125))))))))))) (.cons (.cons f6 (.cons f9 (.nil en130))) (.cons (.cons f21 (.nil en141)) (.cons (.cons f0 (.nil en145)) (.cons (.cons f39 (.cons f40 (.cons f52 (.cons f53 (.cons f64 (.cons f80 (.cons f93 (.cons f100 (.nil en152))))))))) (.cons (.cons f15 (.nil en171)) (.cons (.cons f4 (.nil en175)) (.cons (.cons f2 (.cons f11 (.cons f34 (.nil en182)))) (.cons (.cons f7 (.cons f10 (.nil en187))) (.cons (.cons f20 (.nil en192)) (.cons (.cons f60 (.cons f61 (.cons f71 (.cons f72 (.cons f84 (.cons f85 (.cons f97 (.cons f105 (.cons f106 (.nil en204)))))))))) (.nil))))))))))))))))))))))))))))
theorem f23 : PrimR Tryz.prog 76 (known [e23]) := fact envBR fnB T4R en76 k23
theorem f69 : PrimR Tryz.prog 43 (known [e69]) := fact envBR fnB T4R en43 k69
theorem f73 : PrimR Tryz.prog 43 (known [e73]) := fact envBR fnB T4R en43 k73
theorem f76 : PrimR Tryz.prog 21 (known [e76]) := fact envBR fnB T4R en21 k76
theorem f86 : PrimR Tryz.prog 43 (known [e86]) := fact envBR fnB T4R en43 k86
theorem f104 : PrimR Tryz.prog 43 (known [e104]) := fact envBR fnB T4R en43 k104
theorem f112 : PrimR Tryz.prog 50 (known [e112]) := fact envBR fnB T4R en50 k112
theorem f113 : PrimR Tryz.prog 21 (known [e113]) := fact envBR fnB T4R en21 k113
theorem T5R : Facts Tryz.prog T5 := .cons (.cons f116 (.cons f117 (.cons f118 (.cons f119 (.cons f120 (.cons f121 (.cons f122 (.nil en7)))))))) (.cons (.cons f115 (.nil en12)) (.cons (.cons f1 (.nil en18)) (.cons (.cons f76 (.cons f113 (.nil en21))) (.cons (.cons f28 (.nil en25)) (.cons (.cons f25 (.nil en39)) (.cons (.cons f30 (.cons f31 (.nil en41))) (.cons (.cons f69 (.cons f73 (.cons f86 (.cons f104 (.nil en43))))) (.cons (.cons f43 (.cons f45 (.cons f58 (.cons f59 (.cons f68 (.cons f75 (.cons f83 (.cons f96 (.cons f103 (.cons f109 (.cons f111 (.nil en45)))))))))))) (.cons (.cons f112 (.nil en50)) (.cons (.cons f18 (.nil en51)) (.cons (.cons f22 (.nil en55)) (.cons (.cons f13 (.nil en74)) (.cons (.cons f14 (.nil en75)) (.cons (.cons f23 (.nil en76)) (.cons (.cons f32 (.cons f33 (.cons f46 (.cons f47 (.cons f77 (.cons f90 (.nil en91))))))) (.cons (.cons f36 (.cons f38 (.cons f49 (.cons f51 (.cons f63 (.cons f79 (.cons f92 (.cons f99 (.nil en96))))))))) (.cons (.cons f42 (.cons f56 (.cons f66 (.cons f70 (.cons f82 (.cons f95 (.cons f102 (.cons f108 (.nil en97))))))))) (.cons (.cons f41 (.cons f44 (.cons f54 (.cons f55 (.cons f57 (.cons f65 (.cons f67 (.cons f81 (.cons f94 (.cons f101 (.cons f107 (.cons f110 (.nil en99))))))))))))) (.cons (.cons f17 (.nil en111)) (.cons (.cons f5 (.cons f8 (.cons f16 (.cons f19 (.cons f26 (.cons f27 (.nil en121))))))) (.cons (.cons f3 (.cons f12 (.cons f35 (.cons f37 (.cons f48 (.cons f50 (.cons f62 (.cons f78 (.cons f91 (.cons f98 (.nil en125))))))))))) (.cons (.cons f6 (.cons f9 (.nil en130))) (.cons (.cons f21 (.nil en141)) (.cons (.cons f0 (.nil en145)) (.cons (.cons f39 (.cons f40 (.cons f52 (.cons f53 (.cons f64 (.cons f80 (.cons f93 (.cons f100 (.nil en152))))))))) (.cons (.cons f15 (.nil en171)) (.cons (.cons f4 (.nil en175)) (.cons (.cons f2 (.cons f11 (.cons f34 (.nil en182)))) (.cons (.cons f7 (.cons f10 (.nil en187))) (.cons (.cons f20 (.nil en192)) (.cons (.cons f60 (.cons f61 (.cons f71 (.cons f72 (.cons f84 (.cons f85 (.cons f97 (.cons f105 (.cons f106 (.nil en204)))))))))) (.nil))))))))))))))))))))))))))))))))
theorem f24 : PrimR Tryz.prog 28 (known [e24]) := fact envBR fnB T5R en28 k24
theorem f74 : PrimR Tryz.prog 20 (known [e74]) := fact envBR fnB T5R en20 k74
theorem f87 : PrimR Tryz.prog 20 (known [e87]) := fact envBR fnB T5R en20 k87
theorem T6R : Facts Tryz.prog T6 := .cons (.cons f116 (.cons f117 (.cons f118 (.cons f119 (.cons f120 (.cons f121 (.cons f122 (.nil en7)))))))) (.cons (.cons f115 (.nil en12)) (.cons (.cons f1 (.nil en18)) (.cons (.cons f74 (.cons f87 (.nil en20))) (.cons (.cons f76 (.cons f113 (.nil en21))) (.cons (.cons f28 (.nil en25)) (.cons (.cons f24 (.nil en28)) (.cons (.cons f25 (.nil en39)) (.cons (.cons f30 (.cons f31 (.nil en41))) (.cons (.cons f69 (.cons f73 (.cons f86 (.cons f104 (.nil en43))))) (.cons (.cons f43 (.cons f45 (.cons f58 (.cons f59 (.cons f68 (.cons f75 (.cons f83 (.cons f96 (.cons f103 (.cons f109 (.cons f111 (.nil en45)))))))))))) (.cons (.cons f112 (.nil en50)) (.cons (.cons f18 (.nil en51)) (.cons (.cons f22 (.nil en55)) (.cons (.cons f13 (.nil en74)) (.cons (.cons f14 (.nil en75)) (.cons (.cons f23 (.nil en76)) (.cons (.cons f32 (.cons f33 (.cons f46 (.cons f47 (.cons f77 (.cons f90 (.nil en91))))))) (.cons (.cons f36 (.cons f38 (.cons f49 (.cons f51 (.cons f63 (.cons f79 (.cons f92 (.cons f99 (.nil en96))))))))) (.cons (.cons f42 (.cons f56 (.cons f66 (.cons f70 (.cons f82 (.cons f95 (.cons f102 (.cons f108 (.nil en97))))))))) (.cons (.cons f41 (.cons f44 (.cons f54 (.cons f55 (.cons f57 (.cons f65 (.cons f67 (.cons f81 (.cons f94 (.cons f101 (.cons f107 (.cons f110 (.nil en99))))))))))))) (.cons (.cons f17 (.nil en111)) (.cons (.cons f5 (.cons f8 (.cons f16 (.cons f19 (.cons f26 (.cons f27 (.nil en121))))))) (.cons (.cons f3 (.cons f12 (.cons f35 (.cons f37 (.cons f48 (.cons f50 (.cons f62 (.cons f78 (.cons f91 (.cons f98 (.nil en125))))))))))) (.cons (.cons f6 (.cons f9 (.nil en130))) (.cons (.cons f21 (.nil en141)) (.cons (.cons f0 (.nil en145)) (.cons (.cons f39 (.cons f40 (.cons f52 (.cons f53 (.cons f64 (.cons f80 (.cons f93 (.cons f100 (.nil en152))))))))) (.cons (.cons f15 (.nil en171)) (.cons (.cons f4 (.nil en175)) (.cons (.cons f2 (.cons f11 (.cons f34 (.nil en182)))) (.cons (.cons f7 (.cons f10 (.nil en187))) (.cons (.cons f20 (.nil en192)) (.cons (.cons f60 (.cons f61 (.cons f71 (.cons f72 (.cons f84 (.cons f85 (.cons f97 (.cons f105 (.cons f106 (.nil en204)))))))))) (.nil))))))))))))))))))))))))))))))))))
theorem f29 : PrimR Tryz.prog 14 (known [e29]) := fact envBR fnB T6R en14 k29
theorem f88 : PrimR Tryz.prog 48 (known [e88]) := fact envBR fnB T6R en48 k88
theorem f89 : PrimR Tryz.prog 49 (known [e89]) := fact envBR fnB T6R en49 k89
theorem T7R : Facts Tryz.prog T7 := .cons (.cons f116 (.cons f117 (.cons f118 (.cons f119 (.cons f120 (.cons f121 (.cons f122 (.nil en7)))))))) (.cons (.cons f115 (.nil en12)) (.cons (.cons f29 (.nil en14)) (.cons (.cons f1 (.nil en18)) (.cons (.cons f74 (.cons f87 (.nil en20))) (.cons (.cons f76 (.cons f113 (.nil en21))) (.cons (.cons f28 (.nil en25)) (.cons (.cons f24 (.nil en28)) (.cons (.cons f25 (.nil en39)) (.cons (.cons f30 (.cons f31 (.nil en41))) (.cons (.cons f69 (.cons f73 (.cons f86 (.cons f104 (.nil en43))))) (.cons (.cons f43 (.cons f45 (.cons f58 (.cons f59 (.cons f68 (.cons f75 (.cons f83 (.cons f96 (.cons f103 (.cons f109 (.cons f111 (.nil en45)))))))))))) (.cons (.cons f88 (.nil en48)) (.cons (.cons f89 (.nil en49)) (.cons (.cons f112 (.nil en50)) (.cons (.cons f18 (.nil en51)) (.cons (.cons f22 (.nil en55)) (.cons (.cons f13 (.nil en74)) (.cons (.cons f14 (.nil en75)) (.cons (.cons f23 (.nil en76)) (.cons (.cons f32 (.cons f33 (.cons f46 (.cons f47 (.cons f77 (.cons f90 (.nil en91))))))) (.cons (.cons f36 (.cons f38 (.cons f49 (.cons f51 (.cons f63 (.cons f79 (.cons f92 (.cons f99 (.nil en96))))))))) (.cons (.cons f42 (.cons f56 (.cons f66 (.cons f70 (.cons f82 (.cons f95 (.cons f102 (.cons f108 (.nil en97))))))))) (.cons (.cons f41 (.cons f44 (.cons f54 (.cons f55 (.cons f57 (.cons f65 (.cons f67 (.cons f81 (.cons f94 (.cons f101 (.cons f107 (.cons f110 (.nil en99))))))))))))) (.cons (.cons f17 (.nil en111)) (.cons (.cons f5 (.cons f8 (.cons f16 (.cons f19 (.cons f26 (.cons f27 (.nil en121))))))) (.cons (.cons f3 (.cons f12 (.cons f35 (.cons f37 (.cons f48 (.cons f50 (.cons f62 (.cons f78 (.cons f91 (.cons f98 (.nil en125))))))))))) (.cons (.cons f6 (.cons f9 (.nil en130))) (.cons (.cons f21 (.nil en141)) (.cons (.cons f0 (.nil en145)) (.cons (.cons f39 (.cons f40 (.cons f52 (.cons f53 (.cons f64 (.cons f80 (.cons f93 (.cons f100 (.nil en152))))))))) (.cons (.cons f15 (.nil en171)) (.cons (.cons f4 (.nil en175)) (.cons (.cons f2 (.cons f11 (.cons f34 (.nil en182)))) (.cons (.cons f7 (.cons f10 (.nil en187))) (.cons (.cons f20 (.nil en192)) (.cons (.cons f60 (.cons f61 (.cons f71 (.cons f72 (.cons f84 (.cons f85 (.cons f97 (.cons f105 (.cons f106 (.nil en204)))))))))) (.nil)))))))))))))))))))))))))))))))))))))
theorem f114 : PrimR Tryz.prog 11 (known [e114]) := fact envBR fnB T7R en11 k114
theorem T8R : Facts Tryz.prog T8 := .cons (.cons f116 (.cons f117 (.cons f118 (.cons f119 (.cons f120 (.cons f121 (.cons f122 (.nil en7)))))))) (.cons (.cons f114 (.nil en11)) (.cons (.cons f115 (.nil en12)) (.cons (.cons f29 (.nil en14)) (.cons (.cons f1 (.nil en18)) (.cons (.cons f74 (.cons f87 (.nil en20))) (.cons (.cons f76 (.cons f113 (.nil en21))) (.cons (.cons f28 (.nil en25)) (.cons (.cons f24 (.nil en28)) (.cons (.cons f25 (.nil en39)) (.cons (.cons f30 (.cons f31 (.nil en41))) (.cons (.cons f69 (.cons f73 (.cons f86 (.cons f104 (.nil en43))))) (.cons (.cons f43 (.cons f45 (.cons f58 (.cons f59 (.cons f68 (.cons f75 (.cons f83 (.cons f96 (.cons f103 (.cons f109 (.cons f111 (.nil en45)))))))))))) (.cons (.cons f88 (.nil en48)) (.cons (.cons f89 (.nil en49)) (.cons (.cons f112 (.nil en50)) (.cons (.cons f18 (.nil en51)) (.cons (.cons f22 (.nil en55)) (.cons (.cons f13 (.nil en74)) (.cons (.cons f14 (.nil en75)) (.cons (.cons f23 (.nil en76)) (.cons (.cons f32 (.cons f33 (.cons f46 (.cons f47 (.cons f77 (.cons f90 (.nil en91))))))) (.cons (.cons f36 (.cons f38 (.cons f49 (.cons f51 (.cons f63 (.cons f79 (.cons f92 (.cons f99 (.nil en96))))))))) (.cons (.cons f42 (.cons f56 (.cons f66 (.cons f70 (.cons f82 (.cons f95 (.cons f102 (.cons f108 (.nil en97))))))))) (.cons (.cons f41 (.cons f44 (.cons f54 (.cons f55 (.cons f57 (.cons f65 (.cons f67 (.cons f81 (.cons f94 (.cons f101 (.cons f107 (.cons f110 (.nil en99))))))))))))) (.cons (.cons f17 (.nil en111)) (.cons (.cons f5 (.cons f8 (.cons f16 (.cons f19 (.cons f26 (.cons f27 (.nil en121))))))) (.cons (.cons f3 (.cons f12 (.cons f35 (.cons f37 (.cons f48 (.cons f50 (.cons f62 (.cons f78 (.cons f91 (.cons f98 (.nil en125))))))))))) (.cons (.cons f6 (.cons f9 (.nil en130))) (.cons (.cons f21 (.nil en141)) (.cons (.cons f0 (.nil en145)) (.cons (.cons f39 (.cons f40 (.cons f52 (.cons f53 (.cons f64 (.cons f80 (.cons f93 (.cons f100 (.nil en152))))))))) (.cons (.cons f15 (.nil en171)) (.cons (.cons f4 (.nil en175)) (.cons (.cons f2 (.cons f11 (.cons f34 (.nil en182)))) (.cons (.cons f7 (.cons f10 (.nil en187))) (.cons (.cons f20 (.nil en192)) (.cons (.cons f60 (.cons f61 (.cons f71 (.cons f72 (.cons f84 (.cons f85 (.cons f97 (.cons f105 (.cons f106 (.nil en204)))))))))) (.nil))))))))))))))))))))))))))))))))))))))
theorem f123 : PrimR Tryz.prog 4 (known [e123]) := fact envBR fnB T8R en4 k123
theorem T9R : Facts Tryz.prog T9 := .cons (.cons f123 (.nil en4)) (.cons (.cons f116 (.cons f117 (.cons f118 (.cons f119 (.cons f120 (.cons f121 (.cons f122 (.nil en7)))))))) (.cons (.cons f114 (.nil en11)) (.cons (.cons f115 (.nil en12)) (.cons (.cons f29 (.nil en14)) (.cons (.cons f1 (.nil en18)) (.cons (.cons f74 (.cons f87 (.nil en20))) (.cons (.cons f76 (.cons f113 (.nil en21))) (.cons (.cons f28 (.nil en25)) (.cons (.cons f24 (.nil en28)) (.cons (.cons f25 (.nil en39)) (.cons (.cons f30 (.cons f31 (.nil en41))) (.cons (.cons f69 (.cons f73 (.cons f86 (.cons f104 (.nil en43))))) (.cons (.cons f43 (.cons f45 (.cons f58 (.cons f59 (.cons f68 (.cons f75 (.cons f83 (.cons f96 (.cons f103 (.cons f109 (.cons f111 (.nil en45)))))))))))) (.cons (.cons f88 (.nil en48)) (.cons (.cons f89 (.nil en49)) (.cons (.cons f112 (.nil en50)) (.cons (.cons f18 (.nil en51)) (.cons (.cons f22 (.nil en55)) (.cons (.cons f13 (.nil en74)) (.cons (.cons f14 (.nil en75)) (.cons (.cons f23 (.nil en76)) (.cons (.cons f32 (.cons f33 (.cons f46 (.cons f47 (.cons f77 (.cons f90 (.nil en91))))))) (.cons (.cons f36 (.cons f38 (.cons f49 (.cons f51 (.cons f63 (.cons f79 (.cons f92 (.cons f99 (.nil en96))))))))) (.cons (.cons f42 (.cons f56 (.cons f66 (.cons f70 (.cons f82 (.cons f95 (.cons f102 (.cons f108 (.nil en97))))))))) (.cons (.cons f41 (.cons f44 (.cons f54 (.cons f55 (.cons f57 (.cons f65 (.cons f67 (.cons f81 (.cons f94 (.cons f101 (.cons f107 (.cons f110 (.nil en99))))))))))))) (.cons (.cons f17 (.nil en111)) (.cons (.cons f5 (.cons f8 (.cons f16 (.cons f19 (.cons f26 (.cons f27 (.nil en121))))))) (.cons (.cons f3 (.cons f12 (.cons f35 (.cons f37 (.cons f48 (.cons f50 (.cons f62 (.cons f78 (.cons f91 (.cons f98 (.nil en125))))))))))) (.cons (.cons f6 (.cons f9 (.nil en130))) (.cons (.cons f21 (.nil en141)) (.cons (.cons f0 (.nil en145)) (.cons (.cons f39 (.cons f40 (.cons f52 (.cons f53 (.cons f64 (.cons f80 (.cons f93 (.cons f100 (.nil en152))))))))) (.cons (.cons f15 (.nil en171)) (.cons (.cons f4 (.nil en175)) (.cons (.cons f2 (.cons f11 (.cons f34 (.nil en182)))) (.cons (.cons f7 (.cons f10 (.nil en187))) (.cons (.cons f20 (.nil en192)) (.cons (.cons f60 (.cons f61 (.cons f71 (.cons f72 (.cons f84 (.cons f85 (.cons f97 (.cons f105 (.cons f106 (.nil en204)))))))))) (.nil)))))))))))))))))))))))))))))))))))))))
theorem headR : PrimR Tryz.prog 4 (known [e123]) := f123
end AmT

/- What head, after and Final answer. Printed by gensym.py. -/
namespace AmT
open Go AM Go.Proofs
def af0 : Entry := ([.int .i64 0], .slice [.int .i64 1] 1 .none)
theorem afK0 : isKnown envT 64 16 af0 = true := by decide +kernel
def af1 : Entry := ([.int .i64 1], .slice [.int .i64 2, .int .i64 3, .int .i64 4] 1 .none)
theorem afK1 : isKnown envT 64 16 af1 = true := by decide +kernel
def af2 : Entry := ([.int .i64 2], .slice [.int .i64 3, .int .i64 4] 1 .none)
theorem afK2 : isKnown envT 64 16 af2 = true := by decide +kernel
def af3 : Entry := ([.int .i64 3], .slice [.int .i64 4] 1 .none)
theorem afK3 : isKnown envT 64 16 af3 = true := by decide +kernel
def af4 : Entry := ([.int .i64 4], .slice [.int .i64 5, .int .i64 6] 1 .none)
theorem afK4 : isKnown envT 64 16 af4 = true := by decide +kernel
def af5 : Entry := ([.int .i64 5], .slice [.int .i64 6] 1 .none)
theorem afK5 : isKnown envT 64 16 af5 = true := by decide +kernel
def af6 : Entry := ([.int .i64 6], .slice [.int .i64 7] 1 .none)
theorem afK6 : isKnown envT 64 16 af6 = true := by decide +kernel
def af7 : Entry := ([.int .i64 7], .slice [] 0 .exact)
theorem afK7 : isKnown envT 64 16 af7 = true := by decide +kernel
def fin0 : Entry := ([.int .i64 0], .bool false)
theorem finK0 : isKnown envT 64 8 fin0 = true := by decide +kernel
def fin1 : Entry := ([.int .i64 1], .bool false)
theorem finK1 : isKnown envT 64 8 fin1 = true := by decide +kernel
def fin2 : Entry := ([.int .i64 2], .bool false)
theorem finK2 : isKnown envT 64 8 fin2 = true := by decide +kernel
def fin3 : Entry := ([.int .i64 3], .bool false)
theorem finK3 : isKnown envT 64 8 fin3 = true := by decide +kernel
def fin4 : Entry := ([.int .i64 4], .bool false)
theorem finK4 : isKnown envT 64 8 fin4 = true := by decide +kernel
def fin5 : Entry := ([.int .i64 5], .bool false)
theorem finK5 : isKnown envT 64 8 fin5 = true := by decide +kernel
def fin6 : Entry := ([.int .i64 6], .bool true)
theorem finK6 : isKnown envT 64 8 fin6 = true := by decide +kernel
def fin7 : Entry := ([.int .i64 7], .bool true)
theorem finK7 : isKnown envT 64 8 fin7 = true := by decide +kernel
def TS : Tabs := [(4, [e123]), (8, [fin0, fin1, fin2, fin3, fin4, fin5, fin6, fin7]), (16, [af0, af1, af2, af3, af4, af5, af6, af7])]
theorem en8 : AM.Enters Tryz.prog 8 := ⟨_, Tryz.func8, by decide, rfl⟩
theorem en16 : AM.Enters Tryz.prog 16 := ⟨_, Tryz.func16, by decide, rfl⟩
theorem knownT {g n : Nat} {e : Entry} (hen : AM.Enters Tryz.prog g) (h : isKnown envT n g e = true) : PrimR Tryz.prog g (known [e]) := .known (E := envT) (n := n) simT hen (fun x hx => by
  cases hx with
  | head => exact isKnown_spec h
  | tail _ hx => cases hx)
theorem TSR : Facts Tryz.prog TS := .cons (.cons headR (.nil en4)) (.cons (.cons (knownT en8 finK0) (.cons (knownT en8 finK1) (.cons (knownT en8 finK2) (.cons (knownT en8 finK3) (.cons (knownT en8 finK4) (.cons (knownT en8 finK5) (.cons (knownT en8 finK6) (.cons (knownT en8 finK7) (.nil en8))))))))) (.cons (.cons (knownT en16 afK0) (.cons (knownT en16 afK1) (.cons (knownT en16 afK2) (.cons (knownT en16 afK3) (.cons (knownT en16 afK4) (.cons (knownT en16 afK5) (.cons (knownT en16 afK6) (.cons (knownT en16 afK7) (.nil en16))))))))) .nil))
noncomputable def envS : Env := envT.over (overT TS 0)
theorem simS : CallR Tryz.prog (callL envS) := sim (envR.over _) (fnT.over (overT_R TSR))
/-- with the data left open -/
noncomputable def envA (A : Ar) : Env := { envS with ar := A }
theorem envA_std : envA Ar.std = envS := rfl
end AmT
