/-
  A part of the proof: SeatTC3.
-/
import Derived.Test.YtgbhlflhgmcbdaaGreatDoorSi
set_option linter.all false
/- The paths of a round of TradeCourses. Printed by gentc2.py. -/
namespace AmT
open Go AM Go.Proofs
set_option maxRecDepth 100000
variable {A : Ar} {fn : Nat → Option FnE} {it : Nat → List AV → List AM.Obj → Option (List (List AV))} {po : Nat → List AV → List AV → List AM.Obj → Option (List AM.Obj)} {fi : Nat → List AV → List AM.Obj → Bool} {κ : Kall} {lp : Lp} {K : Ex → St → Prop} {Q : AV → List AM.Obj → Prop}

theorem r3_f0 {xs : List AV} {i s : Int} (g1 : A.lt i (A.len xs) = true) (g2 : A.get xs i = some (.int .i64 s)) (hk : wpO (lp 0 [] (hd3 (.slice xs 1 .none) (A.int .add .i64 i 1) false)) K) :
   wpR (EE A fn it po fi) κ lp i3 (loopOf 0 (bodyOf Tryz.f3)) (hd3 (.slice xs 1 .none) i false) (roundK lp i3 0 0 K) := by
  cbv
  repeat (simp only [g1, g2]; cbv)
  exact hk
theorem r3_f1 {xs : List AV} {i s : Int} (g1 : A.lt i (A.len xs) = true) (g2 : A.get xs i = some (.int .i64 s)) (k0 : A.le 1 s = false) (hk : wpO (lp 0 [] (hd3 (.slice xs 1 .none) (A.int .add .i64 i 1) false)) K) :
   wpR (EE A fn it po fi) κ lp i3 (loopOf 0 (bodyOf Tryz.f3)) (hd3 (.slice xs 1 .none) i true) (roundK lp i3 0 0 K) := by
  cbv
  repeat (simp only [g1, g2, k0]; cbv)
  exact hk
theorem r3_f2 {xs : List AV} {i s : Int} (g1 : A.lt i (A.len xs) = true) (g2 : A.get xs i = some (.int .i64 s)) (k0 : A.le 1 s = true) (k1 : A.le s 7 = false) (hk : wpO (lp 0 [] (hd3 (.slice xs 1 .none) (A.int .add .i64 i 1) false)) K) :
   wpR (EE A fn it po fi) κ lp i3 (loopOf 0 (bodyOf Tryz.f3)) (hd3 (.slice xs 1 .none) i true) (roundK lp i3 0 0 K) := by
  cbv
  repeat (simp only [g1, g2, k0, k1]; cbv)
  exact hk
theorem r3_f3 {xs : List AV} {i s y : Int} (g1 : A.lt i (A.len xs) = true) (g2 : A.get xs i = some (.int .i64 s)) (k0 : A.le 1 s = true) (k1 : A.le s 7 = true) (k2 : A.eq i 0 = false) (k3 : A.get xs (A.int .sub .i64 i 1) = some (.int .i64 y)) (k4 : A.lt y s = false) (hk : wpO (lp 0 [] (hd3 (.slice xs 1 .none) (A.int .add .i64 i 1) false)) K) :
   wpR (EE A fn it po fi) κ lp i3 (loopOf 0 (bodyOf Tryz.f3)) (hd3 (.slice xs 1 .none) i true) (roundK lp i3 0 0 K) := by
  cbv
  repeat (simp only [g1, g2, k0, k1, k2, k3, k4]; cbv)
  exact hk
theorem r3_t1lll {xs : List AV} {i s : Int} (g1 : A.lt i (A.len xs) = true) (g2 : A.get xs i = some (.int .i64 s)) (k0 : A.le 1 s = true) (k1 : A.le s 7 = true) (k2 : A.eq i 0 = true) (k3 : A.le s 1 = true) (k4 : A.le s 4 = true) (k5 : A.le s 6 = true) (hk : wpO (lp 0 [] (hd3 (.slice xs 1 .none) (A.int .add .i64 i 1) true)) K) :
   wpR (EE A fn it po fi) κ lp i3 (loopOf 0 (bodyOf Tryz.f3)) (hd3 (.slice xs 1 .none) i true) (roundK lp i3 0 0 K) := by
  cbv
  repeat (simp only [g1, g2, k0, k1, k2, k3, k4, k5]; cbv)
  exact hk
theorem r3_t1llh {xs : List AV} {i s : Int} (g1 : A.lt i (A.len xs) = true) (g2 : A.get xs i = some (.int .i64 s)) (k0 : A.le 1 s = true) (k1 : A.le s 7 = true) (k2 : A.eq i 0 = true) (k3 : A.le s 1 = true) (k4 : A.le s 4 = true) (k5 : A.le s 6 = false) (k6 : κ 5 [.slice xs 1 .none, .int .i64 6] [] = some (.bool true, [])) (hk : wpO (lp 0 [] (hd3 (.slice xs 1 .none) (A.int .add .i64 i 1) true)) K) :
   wpR (EE A fn it po fi) κ lp i3 (loopOf 0 (bodyOf Tryz.f3)) (hd3 (.slice xs 1 .none) i true) (roundK lp i3 0 0 K) := by
  cbv
  repeat (simp only [g1, g2, k0, k1, k2, k3, k4, k5, k6]; cbv)
  exact hk
theorem r3_t1lln {xs : List AV} {i s : Int} (g1 : A.lt i (A.len xs) = true) (g2 : A.get xs i = some (.int .i64 s)) (k0 : A.le 1 s = true) (k1 : A.le s 7 = true) (k2 : A.eq i 0 = true) (k3 : A.le s 1 = true) (k4 : A.le s 4 = true) (k5 : A.le s 6 = false) (k6 : κ 5 [.slice xs 1 .none, .int .i64 6] [] = some (.bool false, [])) (hk : wpO (lp 0 [] (hd3 (.slice xs 1 .none) (A.int .add .i64 i 1) false)) K) :
   wpR (EE A fn it po fi) κ lp i3 (loopOf 0 (bodyOf Tryz.f3)) (hd3 (.slice xs 1 .none) i true) (roundK lp i3 0 0 K) := by
  cbv
  repeat (simp only [g1, g2, k0, k1, k2, k3, k4, k5, k6]; cbv)
  exact hk
theorem r3_t1lhl {xs : List AV} {i s : Int} (g1 : A.lt i (A.len xs) = true) (g2 : A.get xs i = some (.int .i64 s)) (k0 : A.le 1 s = true) (k1 : A.le s 7 = true) (k2 : A.eq i 0 = true) (k3 : A.le s 1 = true) (k4 : A.le s 4 = false) (k5 : κ 5 [.slice xs 1 .none, .int .i64 4] [] = some (.bool true, [])) (k6 : A.le s 6 = true) (hk : wpO (lp 0 [] (hd3 (.slice xs 1 .none) (A.int .add .i64 i 1) true)) K) :
   wpR (EE A fn it po fi) κ lp i3 (loopOf 0 (bodyOf Tryz.f3)) (hd3 (.slice xs 1 .none) i true) (roundK lp i3 0 0 K) := by
  cbv
  repeat (simp only [g1, g2, k0, k1, k2, k3, k4, k5, k6]; cbv)
  exact hk
theorem r3_t1lhh {xs : List AV} {i s : Int} (g1 : A.lt i (A.len xs) = true) (g2 : A.get xs i = some (.int .i64 s)) (k0 : A.le 1 s = true) (k1 : A.le s 7 = true) (k2 : A.eq i 0 = true) (k3 : A.le s 1 = true) (k4 : A.le s 4 = false) (k5 : κ 5 [.slice xs 1 .none, .int .i64 4] [] = some (.bool true, [])) (k6 : A.le s 6 = false) (k7 : κ 5 [.slice xs 1 .none, .int .i64 6] [] = some (.bool true, [])) (hk : wpO (lp 0 [] (hd3 (.slice xs 1 .none) (A.int .add .i64 i 1) true)) K) :
   wpR (EE A fn it po fi) κ lp i3 (loopOf 0 (bodyOf Tryz.f3)) (hd3 (.slice xs 1 .none) i true) (roundK lp i3 0 0 K) := by
  cbv
  repeat (simp only [g1, g2, k0, k1, k2, k3, k4, k5, k6, k7]; cbv)
  exact hk
theorem r3_t1lhn {xs : List AV} {i s : Int} (g1 : A.lt i (A.len xs) = true) (g2 : A.get xs i = some (.int .i64 s)) (k0 : A.le 1 s = true) (k1 : A.le s 7 = true) (k2 : A.eq i 0 = true) (k3 : A.le s 1 = true) (k4 : A.le s 4 = false) (k5 : κ 5 [.slice xs 1 .none, .int .i64 4] [] = some (.bool true, [])) (k6 : A.le s 6 = false) (k7 : κ 5 [.slice xs 1 .none, .int .i64 6] [] = some (.bool false, [])) (hk : wpO (lp 0 [] (hd3 (.slice xs 1 .none) (A.int .add .i64 i 1) false)) K) :
   wpR (EE A fn it po fi) κ lp i3 (loopOf 0 (bodyOf Tryz.f3)) (hd3 (.slice xs 1 .none) i true) (roundK lp i3 0 0 K) := by
  cbv
  repeat (simp only [g1, g2, k0, k1, k2, k3, k4, k5, k6, k7]; cbv)
  exact hk
theorem r3_t1ln {xs : List AV} {i s : Int} (g1 : A.lt i (A.len xs) = true) (g2 : A.get xs i = some (.int .i64 s)) (k0 : A.le 1 s = true) (k1 : A.le s 7 = true) (k2 : A.eq i 0 = true) (k3 : A.le s 1 = true) (k4 : A.le s 4 = false) (k5 : κ 5 [.slice xs 1 .none, .int .i64 4] [] = some (.bool false, [])) (hk : wpO (lp 0 [] (hd3 (.slice xs 1 .none) (A.int .add .i64 i 1) false)) K) :
   wpR (EE A fn it po fi) κ lp i3 (loopOf 0 (bodyOf Tryz.f3)) (hd3 (.slice xs 1 .none) i true) (roundK lp i3 0 0 K) := by
  cbv
  repeat (simp only [g1, g2, k0, k1, k2, k3, k4, k5]; cbv)
  exact hk
theorem r3_t1hll {xs : List AV} {i s : Int} (g1 : A.lt i (A.len xs) = true) (g2 : A.get xs i = some (.int .i64 s)) (k0 : A.le 1 s = true) (k1 : A.le s 7 = true) (k2 : A.eq i 0 = true) (k3 : A.le s 1 = false) (k4 : κ 5 [.slice xs 1 .none, .int .i64 1] [] = some (.bool true, [])) (k5 : A.le s 4 = true) (k6 : A.le s 6 = true) (hk : wpO (lp 0 [] (hd3 (.slice xs 1 .none) (A.int .add .i64 i 1) true)) K) :
   wpR (EE A fn it po fi) κ lp i3 (loopOf 0 (bodyOf Tryz.f3)) (hd3 (.slice xs 1 .none) i true) (roundK lp i3 0 0 K) := by
  cbv
  repeat (simp only [g1, g2, k0, k1, k2, k3, k4, k5, k6]; cbv)
  exact hk
theorem r3_t1hlh {xs : List AV} {i s : Int} (g1 : A.lt i (A.len xs) = true) (g2 : A.get xs i = some (.int .i64 s)) (k0 : A.le 1 s = true) (k1 : A.le s 7 = true) (k2 : A.eq i 0 = true) (k3 : A.le s 1 = false) (k4 : κ 5 [.slice xs 1 .none, .int .i64 1] [] = some (.bool true, [])) (k5 : A.le s 4 = true) (k6 : A.le s 6 = false) (k7 : κ 5 [.slice xs 1 .none, .int .i64 6] [] = some (.bool true, [])) (hk : wpO (lp 0 [] (hd3 (.slice xs 1 .none) (A.int .add .i64 i 1) true)) K) :
   wpR (EE A fn it po fi) κ lp i3 (loopOf 0 (bodyOf Tryz.f3)) (hd3 (.slice xs 1 .none) i true) (roundK lp i3 0 0 K) := by
  cbv
  repeat (simp only [g1, g2, k0, k1, k2, k3, k4, k5, k6, k7]; cbv)
  exact hk
theorem r3_t1hln {xs : List AV} {i s : Int} (g1 : A.lt i (A.len xs) = true) (g2 : A.get xs i = some (.int .i64 s)) (k0 : A.le 1 s = true) (k1 : A.le s 7 = true) (k2 : A.eq i 0 = true) (k3 : A.le s 1 = false) (k4 : κ 5 [.slice xs 1 .none, .int .i64 1] [] = some (.bool true, [])) (k5 : A.le s 4 = true) (k6 : A.le s 6 = false) (k7 : κ 5 [.slice xs 1 .none, .int .i64 6] [] = some (.bool false, [])) (hk : wpO (lp 0 [] (hd3 (.slice xs 1 .none) (A.int .add .i64 i 1) false)) K) :
   wpR (EE A fn it po fi) κ lp i3 (loopOf 0 (bodyOf Tryz.f3)) (hd3 (.slice xs 1 .none) i true) (roundK lp i3 0 0 K) := by
  cbv
  repeat (simp only [g1, g2, k0, k1, k2, k3, k4, k5, k6, k7]; cbv)
  exact hk
theorem r3_t1hhl {xs : List AV} {i s : Int} (g1 : A.lt i (A.len xs) = true) (g2 : A.get xs i = some (.int .i64 s)) (k0 : A.le 1 s = true) (k1 : A.le s 7 = true) (k2 : A.eq i 0 = true) (k3 : A.le s 1 = false) (k4 : κ 5 [.slice xs 1 .none, .int .i64 1] [] = some (.bool true, [])) (k5 : A.le s 4 = false) (k6 : κ 5 [.slice xs 1 .none, .int .i64 4] [] = some (.bool true, [])) (k7 : A.le s 6 = true) (hk : wpO (lp 0 [] (hd3 (.slice xs 1 .none) (A.int .add .i64 i 1) true)) K) :
   wpR (EE A fn it po fi) κ lp i3 (loopOf 0 (bodyOf Tryz.f3)) (hd3 (.slice xs 1 .none) i true) (roundK lp i3 0 0 K) := by
  cbv
  repeat (simp only [g1, g2, k0, k1, k2, k3, k4, k5, k6, k7]; cbv)
  exact hk
theorem r3_t1hhh {xs : List AV} {i s : Int} (g1 : A.lt i (A.len xs) = true) (g2 : A.get xs i = some (.int .i64 s)) (k0 : A.le 1 s = true) (k1 : A.le s 7 = true) (k2 : A.eq i 0 = true) (k3 : A.le s 1 = false) (k4 : κ 5 [.slice xs 1 .none, .int .i64 1] [] = some (.bool true, [])) (k5 : A.le s 4 = false) (k6 : κ 5 [.slice xs 1 .none, .int .i64 4] [] = some (.bool true, [])) (k7 : A.le s 6 = false) (k8 : κ 5 [.slice xs 1 .none, .int .i64 6] [] = some (.bool true, [])) (hk : wpO (lp 0 [] (hd3 (.slice xs 1 .none) (A.int .add .i64 i 1) true)) K) :
   wpR (EE A fn it po fi) κ lp i3 (loopOf 0 (bodyOf Tryz.f3)) (hd3 (.slice xs 1 .none) i true) (roundK lp i3 0 0 K) := by
  cbv
  repeat (simp only [g1, g2, k0, k1, k2, k3, k4, k5, k6, k7, k8]; cbv)
  exact hk
theorem r3_t1hhn {xs : List AV} {i s : Int} (g1 : A.lt i (A.len xs) = true) (g2 : A.get xs i = some (.int .i64 s)) (k0 : A.le 1 s = true) (k1 : A.le s 7 = true) (k2 : A.eq i 0 = true) (k3 : A.le s 1 = false) (k4 : κ 5 [.slice xs 1 .none, .int .i64 1] [] = some (.bool true, [])) (k5 : A.le s 4 = false) (k6 : κ 5 [.slice xs 1 .none, .int .i64 4] [] = some (.bool true, [])) (k7 : A.le s 6 = false) (k8 : κ 5 [.slice xs 1 .none, .int .i64 6] [] = some (.bool false, [])) (hk : wpO (lp 0 [] (hd3 (.slice xs 1 .none) (A.int .add .i64 i 1) false)) K) :
   wpR (EE A fn it po fi) κ lp i3 (loopOf 0 (bodyOf Tryz.f3)) (hd3 (.slice xs 1 .none) i true) (roundK lp i3 0 0 K) := by
  cbv
  repeat (simp only [g1, g2, k0, k1, k2, k3, k4, k5, k6, k7, k8]; cbv)
  exact hk
end AmT
