/-
  A part of the proof: SeatTC4.
-/
import Derived.Test.YtgbhlflhgmcbdaaGreatDoorSi
set_option linter.all false
/- The paths of a round of TradeCourses. Printed by gentc2.py. -/
namespace AmT
open Go AM Go.Proofs
set_option maxRecDepth 100000
variable {A : Ar} {fn : Nat → Option FnE} {it : Nat → List AV → List AM.Obj → Option (List (List AV))} {po : Nat → List AV → List AV → List AM.Obj → Option (List AM.Obj)} {fi : Nat → List AV → List AM.Obj → Bool} {κ : Kall} {lp : Lp} {K : Ex → St → Prop} {Q : AV → List AM.Obj → Prop}

theorem r3_t1hn {xs : List AV} {i s : Int} (g1 : A.lt i (A.len xs) = true) (g2 : A.get xs i = some (.int .i64 s)) (k0 : A.le 1 s = true) (k1 : A.le s 7 = true) (k2 : A.eq i 0 = true) (k3 : A.le s 1 = false) (k4 : κ 5 [.slice xs 1 .none, .int .i64 1] [] = some (.bool true, [])) (k5 : A.le s 4 = false) (k6 : κ 5 [.slice xs 1 .none, .int .i64 4] [] = some (.bool false, [])) (hk : wpO (lp 0 [] (hd3 (.slice xs 1 .none) (A.int .add .i64 i 1) false)) K) :
   wpR (EE A fn it po fi) κ lp i3 (loopOf 0 (bodyOf Tryz.f3)) (hd3 (.slice xs 1 .none) i true) (roundK lp i3 0 0 K) := by
  cbv
  repeat (simp only [g1, g2, k0, k1, k2, k3, k4, k5, k6]; cbv)
  exact hk
theorem r3_t1n {xs : List AV} {i s : Int} (g1 : A.lt i (A.len xs) = true) (g2 : A.get xs i = some (.int .i64 s)) (k0 : A.le 1 s = true) (k1 : A.le s 7 = true) (k2 : A.eq i 0 = true) (k3 : A.le s 1 = false) (k4 : κ 5 [.slice xs 1 .none, .int .i64 1] [] = some (.bool false, [])) (hk : wpO (lp 0 [] (hd3 (.slice xs 1 .none) (A.int .add .i64 i 1) false)) K) :
   wpR (EE A fn it po fi) κ lp i3 (loopOf 0 (bodyOf Tryz.f3)) (hd3 (.slice xs 1 .none) i true) (roundK lp i3 0 0 K) := by
  cbv
  repeat (simp only [g1, g2, k0, k1, k2, k3, k4]; cbv)
  exact hk
theorem r3_t2lll {xs : List AV} {i s y : Int} (g1 : A.lt i (A.len xs) = true) (g2 : A.get xs i = some (.int .i64 s)) (k0 : A.le 1 s = true) (k1 : A.le s 7 = true) (k2 : A.eq i 0 = false) (k3 : A.get xs (A.int .sub .i64 i 1) = some (.int .i64 y)) (k4 : A.lt y s = true) (k5 : A.le s 1 = true) (k6 : A.le s 4 = true) (k7 : A.le s 6 = true) (hk : wpO (lp 0 [] (hd3 (.slice xs 1 .none) (A.int .add .i64 i 1) true)) K) :
   wpR (EE A fn it po fi) κ lp i3 (loopOf 0 (bodyOf Tryz.f3)) (hd3 (.slice xs 1 .none) i true) (roundK lp i3 0 0 K) := by
  cbv
  repeat (simp only [g1, g2, k0, k1, k2, k3, k4, k5, k6, k7]; cbv)
  exact hk
theorem r3_t2llh {xs : List AV} {i s y : Int} (g1 : A.lt i (A.len xs) = true) (g2 : A.get xs i = some (.int .i64 s)) (k0 : A.le 1 s = true) (k1 : A.le s 7 = true) (k2 : A.eq i 0 = false) (k3 : A.get xs (A.int .sub .i64 i 1) = some (.int .i64 y)) (k4 : A.lt y s = true) (k5 : A.le s 1 = true) (k6 : A.le s 4 = true) (k7 : A.le s 6 = false) (k8 : κ 5 [.slice xs 1 .none, .int .i64 6] [] = some (.bool true, [])) (hk : wpO (lp 0 [] (hd3 (.slice xs 1 .none) (A.int .add .i64 i 1) true)) K) :
   wpR (EE A fn it po fi) κ lp i3 (loopOf 0 (bodyOf Tryz.f3)) (hd3 (.slice xs 1 .none) i true) (roundK lp i3 0 0 K) := by
  cbv
  repeat (simp only [g1, g2, k0, k1, k2, k3, k4, k5, k6, k7, k8]; cbv)
  exact hk
theorem r3_t2lln {xs : List AV} {i s y : Int} (g1 : A.lt i (A.len xs) = true) (g2 : A.get xs i = some (.int .i64 s)) (k0 : A.le 1 s = true) (k1 : A.le s 7 = true) (k2 : A.eq i 0 = false) (k3 : A.get xs (A.int .sub .i64 i 1) = some (.int .i64 y)) (k4 : A.lt y s = true) (k5 : A.le s 1 = true) (k6 : A.le s 4 = true) (k7 : A.le s 6 = false) (k8 : κ 5 [.slice xs 1 .none, .int .i64 6] [] = some (.bool false, [])) (hk : wpO (lp 0 [] (hd3 (.slice xs 1 .none) (A.int .add .i64 i 1) false)) K) :
   wpR (EE A fn it po fi) κ lp i3 (loopOf 0 (bodyOf Tryz.f3)) (hd3 (.slice xs 1 .none) i true) (roundK lp i3 0 0 K) := by
  cbv
  repeat (simp only [g1, g2, k0, k1, k2, k3, k4, k5, k6, k7, k8]; cbv)
  exact hk
theorem r3_t2lhl {xs : List AV} {i s y : Int} (g1 : A.lt i (A.len xs) = true) (g2 : A.get xs i = some (.int .i64 s)) (k0 : A.le 1 s = true) (k1 : A.le s 7 = true) (k2 : A.eq i 0 = false) (k3 : A.get xs (A.int .sub .i64 i 1) = some (.int .i64 y)) (k4 : A.lt y s = true) (k5 : A.le s 1 = true) (k6 : A.le s 4 = false) (k7 : κ 5 [.slice xs 1 .none, .int .i64 4] [] = some (.bool true, [])) (k8 : A.le s 6 = true) (hk : wpO (lp 0 [] (hd3 (.slice xs 1 .none) (A.int .add .i64 i 1) true)) K) :
   wpR (EE A fn it po fi) κ lp i3 (loopOf 0 (bodyOf Tryz.f3)) (hd3 (.slice xs 1 .none) i true) (roundK lp i3 0 0 K) := by
  cbv
  repeat (simp only [g1, g2, k0, k1, k2, k3, k4, k5, k6, k7, k8]; cbv)
  exact hk
theorem r3_t2lhh {xs : List AV} {i s y : Int} (g1 : A.lt i (A.len xs) = true) (g2 : A.get xs i = some (.int .i64 s)) (k0 : A.le 1 s = true) (k1 : A.le s 7 = true) (k2 : A.eq i 0 = false) (k3 : A.get xs (A.int .sub .i64 i 1) = some (.int .i64 y)) (k4 : A.lt y s = true) (k5 : A.le s 1 = true) (k6 : A.le s 4 = false) (k7 : κ 5 [.slice xs 1 .none, .int .i64 4] [] = some (.bool true, [])) (k8 : A.le s 6 = false) (k9 : κ 5 [.slice xs 1 .none, .int .i64 6] [] = some (.bool true, [])) (hk : wpO (lp 0 [] (hd3 (.slice xs 1 .none) (A.int .add .i64 i 1) true)) K) :
   wpR (EE A fn it po fi) κ lp i3 (loopOf 0 (bodyOf Tryz.f3)) (hd3 (.slice xs 1 .none) i true) (roundK lp i3 0 0 K) := by
  cbv
  repeat (simp only [g1, g2, k0, k1, k2, k3, k4, k5, k6, k7, k8, k9]; cbv)
  exact hk
theorem r3_t2lhn {xs : List AV} {i s y : Int} (g1 : A.lt i (A.len xs) = true) (g2 : A.get xs i = some (.int .i64 s)) (k0 : A.le 1 s = true) (k1 : A.le s 7 = true) (k2 : A.eq i 0 = false) (k3 : A.get xs (A.int .sub .i64 i 1) = some (.int .i64 y)) (k4 : A.lt y s = true) (k5 : A.le s 1 = true) (k6 : A.le s 4 = false) (k7 : κ 5 [.slice xs 1 .none, .int .i64 4] [] = some (.bool true, [])) (k8 : A.le s 6 = false) (k9 : κ 5 [.slice xs 1 .none, .int .i64 6] [] = some (.bool false, [])) (hk : wpO (lp 0 [] (hd3 (.slice xs 1 .none) (A.int .add .i64 i 1) false)) K) :
   wpR (EE A fn it po fi) κ lp i3 (loopOf 0 (bodyOf Tryz.f3)) (hd3 (.slice xs 1 .none) i true) (roundK lp i3 0 0 K) := by
  cbv
  repeat (simp only [g1, g2, k0, k1, k2, k3, k4, k5, k6, k7, k8, k9]; cbv)
  exact hk
theorem r3_t2ln {xs : List AV} {i s y : Int} (g1 : A.lt i (A.len xs) = true) (g2 : A.get xs i = some (.int .i64 s)) (k0 : A.le 1 s = true) (k1 : A.le s 7 = true) (k2 : A.eq i 0 = false) (k3 : A.get xs (A.int .sub .i64 i 1) = some (.int .i64 y)) (k4 : A.lt y s = true) (k5 : A.le s 1 = true) (k6 : A.le s 4 = false) (k7 : κ 5 [.slice xs 1 .none, .int .i64 4] [] = some (.bool false, [])) (hk : wpO (lp 0 [] (hd3 (.slice xs 1 .none) (A.int .add .i64 i 1) false)) K) :
   wpR (EE A fn it po fi) κ lp i3 (loopOf 0 (bodyOf Tryz.f3)) (hd3 (.slice xs 1 .none) i true) (roundK lp i3 0 0 K) := by
  cbv
  repeat (simp only [g1, g2, k0, k1, k2, k3, k4, k5, k6, k7]; cbv)
  exact hk
theorem r3_t2hll {xs : List AV} {i s y : Int} (g1 : A.lt i (A.len xs) = true) (g2 : A.get xs i = some (.int .i64 s)) (k0 : A.le 1 s = true) (k1 : A.le s 7 = true) (k2 : A.eq i 0 = false) (k3 : A.get xs (A.int .sub .i64 i 1) = some (.int .i64 y)) (k4 : A.lt y s = true) (k5 : A.le s 1 = false) (k6 : κ 5 [.slice xs 1 .none, .int .i64 1] [] = some (.bool true, [])) (k7 : A.le s 4 = true) (k8 : A.le s 6 = true) (hk : wpO (lp 0 [] (hd3 (.slice xs 1 .none) (A.int .add .i64 i 1) true)) K) :
   wpR (EE A fn it po fi) κ lp i3 (loopOf 0 (bodyOf Tryz.f3)) (hd3 (.slice xs 1 .none) i true) (roundK lp i3 0 0 K) := by
  cbv
  repeat (simp only [g1, g2, k0, k1, k2, k3, k4, k5, k6, k7, k8]; cbv)
  exact hk
theorem r3_t2hlh {xs : List AV} {i s y : Int} (g1 : A.lt i (A.len xs) = true) (g2 : A.get xs i = some (.int .i64 s)) (k0 : A.le 1 s = true) (k1 : A.le s 7 = true) (k2 : A.eq i 0 = false) (k3 : A.get xs (A.int .sub .i64 i 1) = some (.int .i64 y)) (k4 : A.lt y s = true) (k5 : A.le s 1 = false) (k6 : κ 5 [.slice xs 1 .none, .int .i64 1] [] = some (.bool true, [])) (k7 : A.le s 4 = true) (k8 : A.le s 6 = false) (k9 : κ 5 [.slice xs 1 .none, .int .i64 6] [] = some (.bool true, [])) (hk : wpO (lp 0 [] (hd3 (.slice xs 1 .none) (A.int .add .i64 i 1) true)) K) :
   wpR (EE A fn it po fi) κ lp i3 (loopOf 0 (bodyOf Tryz.f3)) (hd3 (.slice xs 1 .none) i true) (roundK lp i3 0 0 K) := by
  cbv
  repeat (simp only [g1, g2, k0, k1, k2, k3, k4, k5, k6, k7, k8, k9]; cbv)
  exact hk
theorem r3_t2hln {xs : List AV} {i s y : Int} (g1 : A.lt i (A.len xs) = true) (g2 : A.get xs i = some (.int .i64 s)) (k0 : A.le 1 s = true) (k1 : A.le s 7 = true) (k2 : A.eq i 0 = false) (k3 : A.get xs (A.int .sub .i64 i 1) = some (.int .i64 y)) (k4 : A.lt y s = true) (k5 : A.le s 1 = false) (k6 : κ 5 [.slice xs 1 .none, .int .i64 1] [] = some (.bool true, [])) (k7 : A.le s 4 = true) (k8 : A.le s 6 = false) (k9 : κ 5 [.slice xs 1 .none, .int .i64 6] [] = some (.bool false, [])) (hk : wpO (lp 0 [] (hd3 (.slice xs 1 .none) (A.int .add .i64 i 1) false)) K) :
   wpR (EE A fn it po fi) κ lp i3 (loopOf 0 (bodyOf Tryz.f3)) (hd3 (.slice xs 1 .none) i true) (roundK lp i3 0 0 K) := by
  cbv
  repeat (simp only [g1, g2, k0, k1, k2, k3, k4, k5, k6, k7, k8, k9]; cbv)
  exact hk
theorem r3_t2hhl {xs : List AV} {i s y : Int} (g1 : A.lt i (A.len xs) = true) (g2 : A.get xs i = some (.int .i64 s)) (k0 : A.le 1 s = true) (k1 : A.le s 7 = true) (k2 : A.eq i 0 = false) (k3 : A.get xs (A.int .sub .i64 i 1) = some (.int .i64 y)) (k4 : A.lt y s = true) (k5 : A.le s 1 = false) (k6 : κ 5 [.slice xs 1 .none, .int .i64 1] [] = some (.bool true, [])) (k7 : A.le s 4 = false) (k8 : κ 5 [.slice xs 1 .none, .int .i64 4] [] = some (.bool true, [])) (k9 : A.le s 6 = true) (hk : wpO (lp 0 [] (hd3 (.slice xs 1 .none) (A.int .add .i64 i 1) true)) K) :
   wpR (EE A fn it po fi) κ lp i3 (loopOf 0 (bodyOf Tryz.f3)) (hd3 (.slice xs 1 .none) i true) (roundK lp i3 0 0 K) := by
  cbv
  repeat (simp only [g1, g2, k0, k1, k2, k3, k4, k5, k6, k7, k8, k9]; cbv)
  exact hk
theorem r3_t2hhh {xs : List AV} {i s y : Int} (g1 : A.lt i (A.len xs) = true) (g2 : A.get xs i = some (.int .i64 s)) (k0 : A.le 1 s = true) (k1 : A.le s 7 = true) (k2 : A.eq i 0 = false) (k3 : A.get xs (A.int .sub .i64 i 1) = some (.int .i64 y)) (k4 : A.lt y s = true) (k5 : A.le s 1 = false) (k6 : κ 5 [.slice xs 1 .none, .int .i64 1] [] = some (.bool true, [])) (k7 : A.le s 4 = false) (k8 : κ 5 [.slice xs 1 .none, .int .i64 4] [] = some (.bool true, [])) (k9 : A.le s 6 = false) (k10 : κ 5 [.slice xs 1 .none, .int .i64 6] [] = some (.bool true, [])) (hk : wpO (lp 0 [] (hd3 (.slice xs 1 .none) (A.int .add .i64 i 1) true)) K) :
   wpR (EE A fn it po fi) κ lp i3 (loopOf 0 (bodyOf Tryz.f3)) (hd3 (.slice xs 1 .none) i true) (roundK lp i3 0 0 K) := by
  cbv
  repeat (simp only [g1, g2, k0, k1, k2, k3, k4, k5, k6, k7, k8, k9, k10]; cbv)
  exact hk
theorem r3_t2hhn {xs : List AV} {i s y : Int} (g1 : A.lt i (A.len xs) = true) (g2 : A.get xs i = some (.int .i64 s)) (k0 : A.le 1 s = true) (k1 : A.le s 7 = true) (k2 : A.eq i 0 = false) (k3 : A.get xs (A.int .sub .i64 i 1) = some (.int .i64 y)) (k4 : A.lt y s = true) (k5 : A.le s 1 = false) (k6 : κ 5 [.slice xs 1 .none, .int .i64 1] [] = some (.bool true, [])) (k7 : A.le s 4 = false) (k8 : κ 5 [.slice xs 1 .none, .int .i64 4] [] = some (.bool true, [])) (k9 : A.le s 6 = false) (k10 : κ 5 [.slice xs 1 .none, .int .i64 6] [] = some (.bool false, [])) (hk : wpO (lp 0 [] (hd3 (.slice xs 1 .none) (A.int .add .i64 i 1) false)) K) :
   wpR (EE A fn it po fi) κ lp i3 (loopOf 0 (bodyOf Tryz.f3)) (hd3 (.slice xs 1 .none) i true) (roundK lp i3 0 0 K) := by
  cbv
  repeat (simp only [g1, g2, k0, k1, k2, k3, k4, k5, k6, k7, k8, k9, k10]; cbv)
  exact hk
theorem r3_t2hn {xs : List AV} {i s y : Int} (g1 : A.lt i (A.len xs) = true) (g2 : A.get xs i = some (.int .i64 s)) (k0 : A.le 1 s = true) (k1 : A.le s 7 = true) (k2 : A.eq i 0 = false) (k3 : A.get xs (A.int .sub .i64 i 1) = some (.int .i64 y)) (k4 : A.lt y s = true) (k5 : A.le s 1 = false) (k6 : κ 5 [.slice xs 1 .none, .int .i64 1] [] = some (.bool true, [])) (k7 : A.le s 4 = false) (k8 : κ 5 [.slice xs 1 .none, .int .i64 4] [] = some (.bool false, [])) (hk : wpO (lp 0 [] (hd3 (.slice xs 1 .none) (A.int .add .i64 i 1) false)) K) :
   wpR (EE A fn it po fi) κ lp i3 (loopOf 0 (bodyOf Tryz.f3)) (hd3 (.slice xs 1 .none) i true) (roundK lp i3 0 0 K) := by
  cbv
  repeat (simp only [g1, g2, k0, k1, k2, k3, k4, k5, k6, k7, k8]; cbv)
  exact hk
theorem r3_t2n {xs : List AV} {i s y : Int} (g1 : A.lt i (A.len xs) = true) (g2 : A.get xs i = some (.int .i64 s)) (k0 : A.le 1 s = true) (k1 : A.le s 7 = true) (k2 : A.eq i 0 = false) (k3 : A.get xs (A.int .sub .i64 i 1) = some (.int .i64 y)) (k4 : A.lt y s = true) (k5 : A.le s 1 = false) (k6 : κ 5 [.slice xs 1 .none, .int .i64 1] [] = some (.bool false, [])) (hk : wpO (lp 0 [] (hd3 (.slice xs 1 .none) (A.int .add .i64 i 1) false)) K) :
   wpR (EE A fn it po fi) κ lp i3 (loopOf 0 (bodyOf Tryz.f3)) (hd3 (.slice xs 1 .none) i true) (roundK lp i3 0 0 K) := by
  cbv
  repeat (simp only [g1, g2, k0, k1, k2, k3, k4, k5, k6]; cbv)
  exact hk
end AmT
