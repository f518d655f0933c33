/-
  A part of the proof: SeatTC, SeatTC2.
-/
import Derived.Test.YtgbhlflhgmcbdaaGreatDoorSh
import Derived.Test.YtgbhlflhgmcbdaaGreatDoorAb
import Derived.Test.YtgbhlflhgmcbdaaGreatDoorAc
import Derived.IntWalk
set_option linter.all false
/- What slices.Contains, Next, has, course and TradeCourses answer, on the machine. Printed by gentc.py. -/
namespace AmT
open Go AM Go.Proofs
set_option maxRecDepth 100000
variable {A : Ar} {fn : Nat → Option FnE} {it : Nat → List AV → List AM.Obj → Option (List (List AV))} {po : Nat → List AV → List AV → List AM.Obj → Option (List AM.Obj)} {fi : Nat → List AV → List AM.Obj → Bool} {κ : Kall} {lp : Lp} {K : Ex → St → Prop} {Q : AV → List AM.Obj → Prop}

noncomputable abbrev tdT := upTo 378 tdE
noncomputable abbrev EE (A : Ar) (fn : Nat → Option FnE) (it : Nat → List AV → List AM.Obj → Option (List (List AV))) (po : Nat → List AV → List AV → List AM.Obj → Option (List AM.Obj)) (fi : Nat → List AV → List AM.Obj → Bool) : Env := ⟨A, tdT, fn, it, po, fi⟩
abbrev u : AV := .undef
abbrev e : AV := .tuple []


def hd34 (a : AV) (n s i : Int) : St := ⟨[a, .int .i64 s, u, u, u, u, u, .int .i64 n, .int .i64 i, u, u, u, u, u, u, u, u, u, u], []⟩
def hd5 (a : AV) (s i : Int) : St := ⟨[a, .int .i64 s, u, u, u, .int .i64 i, u, u, u, u, u, u, u, u, u, u, u, u], []⟩
def hd7 (a nx : AV) (n i : Int) : St := ⟨[u, u, u, nx, u, u, u, a, .int .i64 n, .int .i64 i, u, u, u, u, u, u, u, u, u, u, u], []⟩
def hd6 (a : AV) (i : Int) : St := ⟨[a, u, u, .int .i64 i, u, u, u, u, u, u, u, u, u, u, u, u, u, u, u, u, u, u, u, u, u, u, u, u, u, u, u, u, u, u, u, u, u], []⟩
def hd6i (a nx : AV) (i k : Int) (b : Bool) : St := ⟨[a, u, u, .int .i64 i, nx, .bool b, .int .i64 k, u, u, u, u, u, u, u, u, u, u, u, u, u, u, u, u, u, u, u, u, u, u, u, u, u, u, u, u, u, u], []⟩
def ex6i (a nx : AV) (i k n : Int) (b : Bool) : St := ⟨[a, u, u, .int .i64 i, nx, .bool b, .int .i64 k, u, u, u, u, u, u, u, u, u, u, .int .i64 k, nx, .int .i64 n, .bool false, u, u, u, u, u, u, u, u, u, u, u, u, u, u, u, u], []⟩

theorem st34 {xs : List AV} {ez : Nat} {t : Tok} {s : Int} (h : wpO (lp 0 [] (hd34 (.slice xs ez t) (A.len xs) s 0)) (fun e s' => match e with
    | .normal => K .ret ⟨s'.tmps.set 4 (.int .i64 (-1)), s'.heap⟩
    | .exit id => K (.exit id) s'
    | .ret => K .ret s')) : wpR (EE A fn it po fi) κ lp i34 (bodyOf Tryz.f34) ⟨[.slice xs ez t, .int .i64 s, e, e, e, e, e, e, e, e, e, e, e, e, e, e, e, e, e], []⟩ K := by
  cbv
  exact h
theorem r34_end {a : AV} {n s i : Int} (h1 : A.lt i n = false) (hk : K .normal ⟨[a, .int .i64 s, u, u, u, u, u, .int .i64 n, .int .i64 i, .bool false, u, u, u, u, u, u, u, u, u], []⟩) :
   wpR (EE A fn it po fi) κ lp i34 (loopOf 0 (bodyOf Tryz.f34)) (hd34 a n s i) (roundK lp i34 0 0 K) := by
  cbv
  simp only [h1]
  cbv
  exact hk
theorem r34_hit {xs : List AV} {n s i x : Int} (h1 : A.lt i n = true) (h2 : A.get xs i = some (.int .i64 x)) (h3 : A.eq s x = true) (hk : ∀ s', s'.heap = [] → s'.tmps[4]? = some (.int .i64 i) → K .ret s') :
   wpR (EE A fn it po fi) κ lp i34 (loopOf 0 (bodyOf Tryz.f34)) (hd34 (.slice xs 1 .none) n s i) (roundK lp i34 0 0 K) := by
  cbv
  simp only [h1]
  cbv
  simp only [h2]
  cbv
  simp only [h3]
  cbv
  exact hk _ rfl rfl
theorem r34_miss {xs : List AV} {n s i x : Int} (h1 : A.lt i n = true) (h2 : A.get xs i = some (.int .i64 x)) (h3 : A.eq s x = false) (hk : wpO (lp 0 [] (hd34 (.slice xs 1 .none) n s (A.int .add .i64 i 1))) K) :
   wpR (EE A fn it po fi) κ lp i34 (loopOf 0 (bodyOf Tryz.f34)) (hd34 (.slice xs 1 .none) n s i) (roundK lp i34 0 0 K) := by
  cbv
  simp only [h1]
  cbv
  simp only [h2]
  cbv
  simp only [h3]
  cbv
  exact hk
theorem st17 {a b : AV} {n : Int} (h : κ 34 [a, b] [] = some (.int .i64 n, [])) (hk : ∀ s', s'.heap = [] → s'.tmps[4]? = some (.bool (A.le 0 n)) → K .ret s') :
   wpR (EE A fn it po fi) κ lp i17 (bodyOf Tryz.f17) ⟨[a, b, e, e, e, e, e, e, e], []⟩ K := by
  cbv
  simp only [h]
  cbv
  exact hk _ rfl rfl
theorem st5 {a : AV} {s : Int} (h : wpO (lp 0 [] (hd5 a s 0)) (fun e s' => match e with
    | .normal => K .ret ⟨s'.tmps.set 4 (.bool false), s'.heap⟩
    | .exit id => K (.exit id) s'
    | .ret => K .ret s')) : wpR (EE A fn it po fi) κ lp i5 (bodyOf Tryz.f5) ⟨[a, .int .i64 s, e, e, e, e, e, e, e, e, e, e, e, e, e, e, e, e], []⟩ K := by
  cbv
  exact h
theorem r5_end {xs : List AV} {s i : Int} (h1 : A.lt i (A.len xs) = false) (hk : ∀ s', s'.heap = [] → s'.tmps.length = 18 → K .normal s') :
   wpR (EE A fn it po fi) κ lp i5 (loopOf 0 (bodyOf Tryz.f5)) (hd5 (.slice xs 1 .none) s i) (roundK lp i5 0 0 K) := by
  cbv
  simp only [h1]
  cbv
  exact hk _ rfl rfl
theorem r5_hit {xs : List AV} {s i x : Int} (h1 : A.lt i (A.len xs) = true) (h2 : A.get xs i = some (.int .i64 x)) (h3 : A.eq x s = true) (hk : ∀ s', s'.heap = [] → s'.tmps[4]? = some (.bool true) → K .ret s') :
   wpR (EE A fn it po fi) κ lp i5 (loopOf 0 (bodyOf Tryz.f5)) (hd5 (.slice xs 1 .none) s i) (roundK lp i5 0 0 K) := by
  cbv
  simp only [h1]
  cbv
  simp only [h2]
  cbv
  simp only [h3]
  cbv
  exact hk _ rfl rfl
theorem r5_miss {xs : List AV} {s i x : Int} (h1 : A.lt i (A.len xs) = true) (h2 : A.get xs i = some (.int .i64 x)) (h3 : A.eq x s = false) (hk : wpO (lp 0 [] (hd5 (.slice xs 1 .none) s (A.int .add .i64 i 1))) K) :
   wpR (EE A fn it po fi) κ lp i5 (loopOf 0 (bodyOf Tryz.f5)) (hd5 (.slice xs 1 .none) s i) (roundK lp i5 0 0 K) := by
  cbv
  simp only [h1]
  cbv
  simp only [h2]
  cbv
  simp only [h3]
  cbv
  exact hk
theorem st7 {xs : List AV} {nx : AV} (h1 : κ 16 [.int .i64 0] [] = some (nx, [])) (h : wpO (lp 0 [] (hd7 (.slice xs 1 .none) nx (A.len xs) 0)) (fun e s' => match e with
    | .normal => K .ret ⟨(s'.tmps.set 20 (s'.tmps.getD 3 .undef)).set 2 ((s'.tmps.set 20 (s'.tmps.getD 3 .undef)).getD 20 .undef), s'.heap⟩
    | .exit id => K (.exit id) s'
    | .ret => K .ret s')) : wpR (EE A fn it po fi) κ lp i7 (bodyOf Tryz.f7) ⟨[.slice xs 1 .none, e, e, e, e, e, e, e, e, e, e, e, e, e, e, e, e, e, e, e, e], []⟩ K := by
  cbv
  simp only [h1]
  cbv
  exact h
theorem r7_end {a nx : AV} {n i : Int} (h1 : A.lt i n = false) (hk : K .normal ⟨[u, u, u, nx, u, u, u, a, .int .i64 n, .int .i64 i, .bool false, u, u, u, u, u, u, u, u, u, u], []⟩) :
   wpR (EE A fn it po fi) κ lp i7 (loopOf 0 (bodyOf Tryz.f7)) (hd7 a nx n i) (roundK lp i7 0 0 K) := by
  cbv
  simp only [h1]
  cbv
  exact hk
theorem r7_bad {xs : List AV} {nx : AV} {n i x : Int} (h1 : A.lt i n = true) (h2 : A.get xs i = some (.int .i64 x)) (h3 : κ 17 [nx, .int .i64 x] [] = some (.bool false, [])) (h4 : A.bnot false = true) (hk : ∀ s', s'.heap = [] → s'.tmps[2]? = some (.slice [] 0 .exact) → K .ret s') :
   wpR (EE A fn it po fi) κ lp i7 (loopOf 0 (bodyOf Tryz.f7)) (hd7 (.slice xs 1 .none) nx n i) (roundK lp i7 0 0 K) := by
  cbv
  simp only [h1]
  cbv
  simp only [h2]
  cbv
  simp only [h3]
  cbv
  simp only [h4]
  cbv
  exact hk _ rfl rfl
theorem r7_good {xs : List AV} {nx nx' : AV} {n i x : Int} (h1 : A.lt i n = true) (h2 : A.get xs i = some (.int .i64 x)) (h3 : κ 17 [nx, .int .i64 x] [] = some (.bool true, [])) (h4 : A.bnot true = false) (h5 : κ 16 [.int .i64 x] [] = some (nx', [])) (hc : cut 0 nx' = nx') (hk : wpO (lp 0 [] (hd7 (.slice xs 1 .none) nx' n (A.int .add .i64 i 1))) K) :
   wpR (EE A fn it po fi) κ lp i7 (loopOf 0 (bodyOf Tryz.f7)) (hd7 (.slice xs 1 .none) nx n i) (roundK lp i7 0 0 K) := by
  cbv
  simp only [h1]
  cbv
  simp only [h2]
  cbv
  simp only [h3]
  cbv
  simp only [h4]
  cbv
  simp only [h5]
  cbv
  rw [← hc] at hk
  exact hk
theorem st6 {a : AV} (h : wpO (lp 0 [] (hd6 a 0)) (fun e s' => match e with
    | .normal => K .ret ⟨s'.tmps.set 2 (.bool true), s'.heap⟩
    | .exit id => K (.exit id) s'
    | .ret => K .ret s')) : wpR (EE A fn it po fi) κ lp i6 (bodyOf Tryz.f6) ⟨[a, e, e, e, e, e, e, e, e, e, e, e, e, e, e, e, e, e, e, e, e, e, e, e, e, e, e, e, e, e, e, e, e, e, e, e, e], []⟩ K := by
  cbv
  exact h
theorem r6_end {xs : List AV} {i : Int} (h1 : A.lt i (A.len xs) = false) (hk : ∀ s', s'.heap = [] → s'.tmps.length = 37 → K .normal s') :
   wpR (EE A fn it po fi) κ lp i6 (loopOf 0 (bodyOf Tryz.f6)) (hd6 (.slice xs 1 .none) i) (roundK lp i6 0 0 K) := by
  cbv
  simp only [h1]
  cbv
  exact hk _ rfl rfl
theorem r6_yes {xs ys : List AV} {nx : AV} {i k n : Int} (h1 : A.lt i (A.len xs) = true) (h2 : A.sub xs none (some i) = some ys) (h3 : κ 7 [.slice ys 1 .none] [] = some (nx, [])) (hin : ∀ K' : Ex → St → Prop, K' .normal (ex6i (.slice xs 1 .none) nx i k n true) → wpO (lp 2 [] (hd6i (.slice xs 1 .none) nx i 0 false)) K') (h4 : A.bnot true = false) (hc : cut 0 nx = nx) (hk : wpO (lp 0 [] (hd6 (.slice xs 1 .none) (A.int .add .i64 i 1))) K) :
   wpR (EE A fn it po fi) κ lp i6 (loopOf 0 (bodyOf Tryz.f6)) (hd6 (.slice xs 1 .none) i) (roundK lp i6 0 0 K) := by
  cbv
  simp only [h1]
  cbv
  simp only [h2]
  cbv
  simp only [h3]
  cbv
  refine hin _ ?_
  cbv
  simp only [h4]
  cbv
  exact hk
theorem r6_no {xs ys : List AV} {nx : AV} {i k n : Int} (h1 : A.lt i (A.len xs) = true) (h2 : A.sub xs none (some i) = some ys) (h3 : κ 7 [.slice ys 1 .none] [] = some (nx, [])) (hin : ∀ K' : Ex → St → Prop, K' .normal (ex6i (.slice xs 1 .none) nx i k n false) → wpO (lp 2 [] (hd6i (.slice xs 1 .none) nx i 0 false)) K') (h4 : A.bnot false = true) (hc : cut 0 nx = nx) (hk : ∀ s', s'.heap = [] → s'.tmps[2]? = some (.bool false) → K .ret s') :
   wpR (EE A fn it po fi) κ lp i6 (loopOf 0 (bodyOf Tryz.f6)) (hd6 (.slice xs 1 .none) i) (roundK lp i6 0 0 K) := by
  cbv
  simp only [h1]
  cbv
  simp only [h2]
  cbv
  simp only [h3]
  cbv
  refine hin _ ?_
  cbv
  simp only [h4]
  cbv
  exact hk _ rfl rfl
theorem r6i_end {a : AV} {ns : List AV} {ez : Nat} {t : Tok} {i k : Int} {b : Bool} (h1 : A.lt k (A.len ns) = false) (hk : K .normal (ex6i a (.slice ns ez t) i k (A.len ns) b)) :
   wpR (EE A fn it po fi) κ lp i6 (loopOf 2 (bodyOf Tryz.f6)) (hd6i a (.slice ns ez t) i k b) (roundK lp i6 2 0 K) := by
  cbv
  simp only [h1]
  cbv
  exact hk
theorem r6i_true {a : AV} {ns : List AV} {i k : Int} (h1 : A.lt k (A.len ns) = true) (hk : wpO (lp 2 [] (hd6i (cut 0 a) (.slice ns 1 .none) i (A.int .add .i64 k 1) true)) K) :
   wpR (EE A fn it po fi) κ lp i6 (loopOf 2 (bodyOf Tryz.f6)) (hd6i a (.slice ns 1 .none) i k true) (roundK lp i6 2 0 K) := by
  cbv
  simp only [h1]
  cbv
  exact hk
theorem r6i_go {xs ns : List AV} {i k x y : Int} {b : Bool} (h1 : A.lt k (A.len ns) = true) (h2 : A.get ns k = some (.int .i64 y)) (h3 : A.get xs i = some (.int .i64 x)) (h4 : A.eq y x = b) (hk : wpO (lp 2 [] (hd6i (.slice xs 1 .none) (.slice ns 1 .none) i (A.int .add .i64 k 1) b)) K) :
   wpR (EE A fn it po fi) κ lp i6 (loopOf 2 (bodyOf Tryz.f6)) (hd6i (.slice xs 1 .none) (.slice ns 1 .none) i k false) (roundK lp i6 2 0 K) := by
  cbv
  simp only [h1]
  cbv
  simp only [h2]
  cbv
  simp only [h3]
  cbv
  simp only [h4]
  cbv
  exact hk
end AmT

/- The paths of TradeCourses. Printed by gentc2.py. -/
namespace AmT
open Go AM Go.Proofs
set_option maxRecDepth 100000
variable {A : Ar} {fn : Nat → Option FnE} {it : Nat → List AV → List AM.Obj → Option (List (List AV))} {po : Nat → List AV → List AV → List AM.Obj → Option (List AM.Obj)} {fi : Nat → List AV → List AM.Obj → Bool} {κ : Kall} {lp : Lp} {K : Ex → St → Prop} {Q : AV → List AM.Obj → Prop}

def hd3 (a : AV) (i : Int) (r : Bool) : St := ⟨[a, u, u, .bool true, .func (.func 5) [] [], .bool r, .int .i64 i, u, u, u, u, u, u, u, u, u, u, u, u, u, u, u, u, u, u, u, u, u, u, u, u, u, u, u, u, u, u, u, u, u, u, u, u, u, u, u, u, u, u, u, u, u, u, u, u, u, u, u, u, u, u, u, u, u, u, u, u, u, u, u, u, u, u, u, u, u, u, u, u, u, u, u, u, u, u, u, u, u, u, u, u, u, u, u, u, u, u, u, u, u, u, u, u, u, u, u, u, u, u, u, u, u, u, u, u, u, u, u, u, u, u, u, u, u, u, u, u, u, u, u, u, u, u, u, u, u, u, u, u, u, u, u, u, u, u, u, u, u, u, u, u, u, u, u, u], []⟩
def ex3 (a : AV) (i n : Int) (r : Bool) : St := ⟨[a, u, u, .bool true, .func (.func 5) [] [], .bool r, .int .i64 i, u, u, u, u, u, u, u, u, u, .int .i64 i, a, .int .i64 n, .bool false, u, u, u, u, u, u, u, u, u, u, u, u, u, u, u, u, u, u, u, u, u, u, u, u, u, u, u, u, u, u, u, u, u, u, u, u, u, u, u, u, u, u, u, u, u, u, u, u, u, u, u, u, u, u, u, u, u, u, u, u, u, u, u, u, u, u, u, u, u, u, u, u, u, u, u, u, u, u, u, u, u, u, u, u, u, u, u, u, u, u, u, u, u, u, u, u, u, u, u, u, u, u, u, u, u, u, u, u, u, u, u, u, u, u, u, u, u, u, u, u, u, u, u, u, u, u, u, u, u, u, u, u, u, u, u], []⟩
def hd3b (nx : AV) (la i : Int) : St := ⟨[u, u, u, .bool true, u, u, u, u, nx, .int .i64 la, .int .i64 i, u, u, u, u, u, u, u, u, u, u, u, u, u, u, u, u, u, u, u, u, u, u, u, u, u, u, u, u, u, u, u, u, u, u, u, u, u, u, u, u, u, u, u, u, u, u, u, u, u, u, u, u, u, u, u, u, u, u, u, u, u, u, u, u, u, u, u, u, u, u, u, u, u, u, u, u, u, u, u, u, u, u, u, u, u, u, u, u, u, u, u, u, u, u, u, u, u, u, u, u, u, u, u, u, u, u, u, u, u, u, u, u, u, u, u, u, u, u, u, u, u, u, u, u, u, u, u, u, u, u, u, u, u, u, u, u, u, u, u, u, u, u, u, u], []⟩
def ex3b (nx : AV) (la i n : Int) : St := ⟨[u, u, u, .bool true, u, u, u, u, nx, .int .i64 la, .int .i64 i, u, u, u, u, u, u, u, u, u, u, u, u, u, u, u, u, u, u, u, u, u, u, u, u, u, u, u, u, u, u, u, u, u, u, u, u, u, u, u, u, u, u, u, u, u, u, u, u, u, u, u, u, u, u, u, u, u, u, u, u, u, u, u, u, u, u, u, u, u, u, u, u, u, u, u, u, u, u, u, u, u, u, u, u, u, u, u, u, .int .i64 i, nx, .int .i64 n, .bool false, u, u, u, u, u, u, u, u, u, u, u, u, u, u, u, u, u, u, u, u, u, u, u, u, u, u, u, u, u, u, u, u, u, u, u, u, u, u, u, u, u, u, u, u, u, u, u, u, u, u, u, u], []⟩
theorem st3_big {xs : List AV} (h0 : κ 4 [] [] = some (.bool true, [])) (h1 : A.lt 20 (A.len xs) = true) (hk : ∀ s', s'.heap = [] → s'.tmps[2]? = some (.bool true) → K .ret s') :
   wpR (EE A fn it po fi) κ lp i3 (bodyOf Tryz.f3) ⟨[.slice xs 1 .none, e, e, e, e, e, e, e, e, e, e, e, e, e, e, e, e, e, e, e, e, e, e, e, e, e, e, e, e, e, e, e, e, e, e, e, e, e, e, e, e, e, e, e, e, e, e, e, e, e, e, e, e, e, e, e, e, e, e, e, e, e, e, e, e, e, e, e, e, e, e, e, e, e, e, e, e, e, e, e, e, e, e, e, e, e, e, e, e, e, e, e, e, e, e, e, e, e, e, e, e, e, e, e, e, e, e, e, e, e, e, e, e, e, e, e, e, e, e, e, e, e, e, e, e, e, e, e, e, e, e, e, e, e, e, e, e, e, e, e, e, e, e, e, e, e, e, e, e, e, e, e, e, e, e], []⟩ K := by
  cbv
  repeat (simp only [h0, h1]; cbv)
  exact hk _ rfl rfl
theorem st3_bad {xs ns : List AV} {ez : Nat} {t : Tok} {i n : Int} (h0 : κ 4 [] [] = some (.bool true, [])) (h1 : A.lt 20 (A.len xs) = false) (hin : ∀ K' : Ex → St → Prop, K' .normal (ex3 (.slice xs 1 .none) i n false) → wpO (lp 0 [] (hd3 (.slice xs 1 .none) 0 true)) K') (h2 : κ 6 [.slice xs 1 .none] [] = some (.bool false, [])) (h3 : A.beq false false = true) (h4 : A.bnot true = false) (h5 : κ 7 [.slice xs 1 .none] [] = some (.slice ns ez t, [])) (h6 : A.bnot false = true) (h7 : A.eq (A.len ns) 0 = true) (hk : ∀ s', s'.heap = [] → s'.tmps[2]? = some (.bool true) → K .ret s') :
   wpR (EE A fn it po fi) κ lp i3 (bodyOf Tryz.f3) ⟨[.slice xs 1 .none, e, e, e, e, e, e, e, e, e, e, e, e, e, e, e, e, e, e, e, e, e, e, e, e, e, e, e, e, e, e, e, e, e, e, e, e, e, e, e, e, e, e, e, e, e, e, e, e, e, e, e, e, e, e, e, e, e, e, e, e, e, e, e, e, e, e, e, e, e, e, e, e, e, e, e, e, e, e, e, e, e, e, e, e, e, e, e, e, e, e, e, e, e, e, e, e, e, e, e, e, e, e, e, e, e, e, e, e, e, e, e, e, e, e, e, e, e, e, e, e, e, e, e, e, e, e, e, e, e, e, e, e, e, e, e, e, e, e, e, e, e, e, e, e, e, e, e, e, e, e, e, e, e, e], []⟩ K := by
  cbv
  repeat (simp only [h0, h1]; cbv)
  refine hin _ ?_
  cbv
  repeat (simp only [h2, h3, h4, h5, h6, h7]; cbv)
  exact hk _ rfl rfl
theorem st3_ok0 {m q : Int} {xs ns : List AV} {ez : Nat} {t : Tok} {i n : Int} (h0 : κ 4 [] [] = some (.bool true, [])) (h1 : A.lt 20 (A.len xs) = false) (hin : ∀ K' : Ex → St → Prop, K' .normal (ex3 (.slice xs 1 .none) i n true) → wpO (lp 0 [] (hd3 (.slice xs 1 .none) 0 true)) K') (h2 : κ 6 [.slice xs 1 .none] [] = some (.bool true, [])) (h3 : A.beq true true = true) (h4 : A.bnot true = false) (h5 : κ 7 [.slice xs 1 .none] [] = some (.slice ns ez t, [])) (h8 : A.lt 0 (A.len xs) = false) (hin2 : ∀ K' : Ex → St → Prop, K' .normal (ex3b (.slice ns ez t) 0 m q) → wpO (lp 2 [] (hd3b (.slice ns ez t) 0 0)) K') (h10 : A.beq (A.eq (A.len ns) 0) (A.eq 0 7) = true) (hk : ∀ s', s'.heap = [] → s'.tmps[2]? = some (.bool true) → K .ret s') :
   wpR (EE A fn it po fi) κ lp i3 (bodyOf Tryz.f3) ⟨[.slice xs 1 .none, e, e, e, e, e, e, e, e, e, e, e, e, e, e, e, e, e, e, e, e, e, e, e, e, e, e, e, e, e, e, e, e, e, e, e, e, e, e, e, e, e, e, e, e, e, e, e, e, e, e, e, e, e, e, e, e, e, e, e, e, e, e, e, e, e, e, e, e, e, e, e, e, e, e, e, e, e, e, e, e, e, e, e, e, e, e, e, e, e, e, e, e, e, e, e, e, e, e, e, e, e, e, e, e, e, e, e, e, e, e, e, e, e, e, e, e, e, e, e, e, e, e, e, e, e, e, e, e, e, e, e, e, e, e, e, e, e, e, e, e, e, e, e, e, e, e, e, e, e, e, e, e, e, e], []⟩ K := by
  cbv
  repeat (simp only [h0, h1]; cbv)
  refine hin _ ?_
  cbv
  repeat (simp only [h2, h3, h4, h5, h8]; cbv)
  refine hin2 _ ?_
  cbv
  repeat (simp only [h10]; cbv)
  exact hk _ rfl rfl
theorem st3_ok {m q : Int} {xs ns : List AV} {ez : Nat} {t : Tok} {i n : Int} (h0 : κ 4 [] [] = some (.bool true, [])) (h1 : A.lt 20 (A.len xs) = false) (hin : ∀ K' : Ex → St → Prop, K' .normal (ex3 (.slice xs 1 .none) i n true) → wpO (lp 0 [] (hd3 (.slice xs 1 .none) 0 true)) K') (h2 : κ 6 [.slice xs 1 .none] [] = some (.bool true, [])) (h3 : A.beq true true = true) (h4 : A.bnot true = false) (h5 : κ 7 [.slice xs 1 .none] [] = some (.slice ns ez t, [])) {la : Int} (h8 : A.lt 0 (A.len xs) = true) (h9 : A.get xs (A.int .sub .i64 (A.len xs) 1) = some (.int .i64 la)) (hin2 : ∀ K' : Ex → St → Prop, K' .normal (ex3b (.slice ns ez t) la m q) → wpO (lp 2 [] (hd3b (.slice ns ez t) la 0)) K') (h10 : A.beq (A.eq (A.len ns) 0) (A.eq la 7) = true) (hk : ∀ s', s'.heap = [] → s'.tmps[2]? = some (.bool true) → K .ret s') :
   wpR (EE A fn it po fi) κ lp i3 (bodyOf Tryz.f3) ⟨[.slice xs 1 .none, e, e, e, e, e, e, e, e, e, e, e, e, e, e, e, e, e, e, e, e, e, e, e, e, e, e, e, e, e, e, e, e, e, e, e, e, e, e, e, e, e, e, e, e, e, e, e, e, e, e, e, e, e, e, e, e, e, e, e, e, e, e, e, e, e, e, e, e, e, e, e, e, e, e, e, e, e, e, e, e, e, e, e, e, e, e, e, e, e, e, e, e, e, e, e, e, e, e, e, e, e, e, e, e, e, e, e, e, e, e, e, e, e, e, e, e, e, e, e, e, e, e, e, e, e, e, e, e, e, e, e, e, e, e, e, e, e, e, e, e, e, e, e, e, e, e, e, e, e, e, e, e, e, e], []⟩ K := by
  cbv
  repeat (simp only [h0, h1]; cbv)
  refine hin _ ?_
  cbv
  repeat (simp only [h2, h3, h4, h5, h8, h9]; cbv)
  refine hin2 _ ?_
  cbv
  repeat (simp only [h10]; cbv)
  exact hk _ rfl rfl
theorem r3_end {xs : List AV} {i : Int} {r : Bool} (h1 : A.lt i (A.len xs) = false) (hk : K .normal (ex3 (.slice xs 1 .none) i (A.len xs) r)) :
   wpR (EE A fn it po fi) κ lp i3 (loopOf 0 (bodyOf Tryz.f3)) (hd3 (.slice xs 1 .none) i r) (roundK lp i3 0 0 K) := by
  cbv
  repeat (simp only [h1]; cbv)
  exact hk
theorem r3b_end {ns : List AV} {ez : Nat} {t : Tok} {la i : Int} (h1 : A.lt i (A.len ns) = false) (hk : K .normal (ex3b (.slice ns ez t) la i (A.len ns))) :
   wpR (EE A fn it po fi) κ lp i3 (loopOf 2 (bodyOf Tryz.f3)) (hd3b (.slice ns ez t) la i) (roundK lp i3 2 0 K) := by
  cbv
  repeat (simp only [h1]; cbv)
  exact hk
theorem r3b_00 {ns : List AV} {la i x : Int} (h1 : A.lt i (A.len ns) = true) (h2 : A.get ns i = some (.int .i64 x)) (h3 : A.le x la = false) (h4 : A.lt 7 x = false) (h5 : A.lt 0 i = false) (h8 : κ 8 [.int .i64 la] [] = some (.bool false, [])) (hk : wpO (lp 2 [] (hd3b (.slice ns 1 .none) la (A.int .add .i64 i 1))) K) :
   wpR (EE A fn it po fi) κ lp i3 (loopOf 2 (bodyOf Tryz.f3)) (hd3b (.slice ns 1 .none) la i) (roundK lp i3 2 0 K) := by
  cbv
  repeat (simp only [h1, h2, h3, h4, h5, h8]; cbv)
  exact hk
theorem r3b_01 {ns : List AV} {la i x : Int} (h1 : A.lt i (A.len ns) = true) (h2 : A.get ns i = some (.int .i64 x)) (h3 : A.le x la = false) (h4 : A.lt 7 x = false) (h5 : A.lt 0 i = false) (h8 : κ 8 [.int .i64 la] [] = some (.bool true, [])) (h9 : κ 8 [.int .i64 x] [] = some (.bool true, [])) (h10 : A.bnot true = false) (hk : wpO (lp 2 [] (hd3b (.slice ns 1 .none) la (A.int .add .i64 i 1))) K) :
   wpR (EE A fn it po fi) κ lp i3 (loopOf 2 (bodyOf Tryz.f3)) (hd3b (.slice ns 1 .none) la i) (roundK lp i3 2 0 K) := by
  cbv
  repeat (simp only [h1, h2, h3, h4, h5, h8, h9, h10]; cbv)
  exact hk
theorem r3b_10 {ns : List AV} {la i x y : Int} (h1 : A.lt i (A.len ns) = true) (h2 : A.get ns i = some (.int .i64 x)) (h3 : A.le x la = false) (h4 : A.lt 7 x = false) (h5 : A.lt 0 i = true) (h6 : A.get ns (A.int .sub .i64 i 1) = some (.int .i64 y)) (h7 : A.le x y = false) (h8 : κ 8 [.int .i64 la] [] = some (.bool false, [])) (hk : wpO (lp 2 [] (hd3b (.slice ns 1 .none) la (A.int .add .i64 i 1))) K) :
   wpR (EE A fn it po fi) κ lp i3 (loopOf 2 (bodyOf Tryz.f3)) (hd3b (.slice ns 1 .none) la i) (roundK lp i3 2 0 K) := by
  cbv
  repeat (simp only [h1, h2, h3, h4, h5, h6, h7, h8]; cbv)
  exact hk
theorem r3b_11 {ns : List AV} {la i x y : Int} (h1 : A.lt i (A.len ns) = true) (h2 : A.get ns i = some (.int .i64 x)) (h3 : A.le x la = false) (h4 : A.lt 7 x = false) (h5 : A.lt 0 i = true) (h6 : A.get ns (A.int .sub .i64 i 1) = some (.int .i64 y)) (h7 : A.le x y = false) (h8 : κ 8 [.int .i64 la] [] = some (.bool true, [])) (h9 : κ 8 [.int .i64 x] [] = some (.bool true, [])) (h10 : A.bnot true = false) (hk : wpO (lp 2 [] (hd3b (.slice ns 1 .none) la (A.int .add .i64 i 1))) K) :
   wpR (EE A fn it po fi) κ lp i3 (loopOf 2 (bodyOf Tryz.f3)) (hd3b (.slice ns 1 .none) la i) (roundK lp i3 2 0 K) := by
  cbv
  repeat (simp only [h1, h2, h3, h4, h5, h6, h7, h8, h9, h10]; cbv)
  exact hk
end AmT
