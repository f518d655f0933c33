/-
  A part of the proof: Law, Run, Run2, Enter, Book, Rf, Rf2, Enter2, Enter3, Draw, Draw2, Draw3, Draw4, Draw5, Sim, Check, Good, Iter, Memo, Prims, Know, Wp.
-/
import Derived.Test.YtgbhlflhgmcbdaaGreatDoorAa
import Derived.RangeFuncLeaves
import Derived.RangeFuncRecord
import Derived.RangeFuncSeq
import Derived.OrdersIn
import Derived.Orders
import Derived.Lib.Join
set_option linter.all false
/- THE ABSTRACT MACHINE, ITS FUEL: more rounds and calls give the same answer; the limit of all of them is closed under a call and a round. -/
namespace AM
open Go

/-- κ' answers whatever κ answers -/
def LeK (κ κ' : Kall) : Prop := ∀ g a h r, κ g a h = some r → κ' g a h = some r
def LeL (l l' : Lp) : Prop := ∀ id items s r, l id items s = some r → l' id items s = some r

theorem runOps_mono {E : Env} {κ κ' : Kall} {own : Bool} {ops : Array Oper} (hk : LeK κ κ') :
    ∀ (os : List Oper) (s s' : St), runOps E κ own ops os s = some s' → runOps E κ' own ops os s = some s' := by
  intro os
  induction os with
  | nil => intro s s' h; exact h
  | cons o os ih =>
    intro s s' h
    simp only [runOps] at h ⊢
    split at h
    · cases h
    · exact ih _ _ h
    · split at h
      · cases h
      · exact ih _ _ h
      · split at h
        · rename_i heq; rw [hk _ _ _ _ heq]; exact ih _ _ h
        · cases h

theorem run_mono {E : Env} {κ κ' : Kall} {lp lp' : Lp} {i : Info} (hk : LeK κ κ') (hl : LeL lp lp') :
    ∀ (c : Code) (s : St) (r : Ex × St), run E κ lp i c s = some r → run E κ' lp' i c s = some r := by
  intro c
  induction c with
  | skip => intro s r h; exact h
  | label l => intro s r h; exact h
  | region id ops draw =>
    intro s r h
    simp only [run] at h ⊢
    split at h
    · rename_i heq; rw [runOps_mono hk _ _ _ heq]; exact h
    · cases h
  | seq a b iha ihb =>
    intro s r h
    simp only [run] at h ⊢
    split at h
    · rename_i heq; rw [iha _ _ heq]; exact ihb _ _ h
    · rename_i hn
      cases hr : run E κ lp i a s with
      | none => rw [hr] at h; cases h
      | some x =>
        rw [iha _ _ hr]; rw [hr] at h
        obtain ⟨e, s'⟩ := x
        cases e with
        | normal => exact absurd hr (hn s')
        | exit id => exact h
        | ret => exact h
  | cond c a b iha ihb =>
    intro s r h
    simp only [run] at h ⊢
    split at h
    · exact iha _ _ h
    · exact ihb _ _ h
    · cases h
  | block id c ih =>
    have gen : ∀ s r, (match run E κ lp i c s with
        | some (.exit id', s') => if id' = id then some (Ex.normal, s') else some (.exit id', s')
        | r => r) = some r → (match run E κ' lp' i c s with
        | some (.exit id', s') => if id' = id then some (Ex.normal, s') else some (.exit id', s')
        | r => r) = some r := by
      intro s r h
      cases hr : run E κ lp i c s with
      | none => rw [hr] at h; cases h
      | some x => rw [ih _ _ hr]; rw [hr] at h; exact h
    cases c with
    | loop c => intro s r h; simp only [run] at h ⊢; exact hl _ _ _ _ h
    | rangeFunc f ps a b =>
      intro s r h
      simp only [run] at h ⊢
      split at h
      · split at h
        · exact hl _ _ _ _ h
        · cases h
      · cases h
    | skip => intro s r h; simp only [run] at h ⊢; exact h
    | region id ops draw => intro s r h; exact gen s r h
    | seq a b => intro s r h; exact gen s r h
    | cond c a b => intro s r h; exact gen s r h
    | block id c => intro s r h; exact gen s r h
    | exit id => intro s r h; exact gen s r h
    | scope c => intro s r h; exact gen s r h
    | label l => intro s r h; exact gen s r h
    | goto l => intro s r h; exact gen s r h
    | ret => intro s r h; exact gen s r h
    | refuse w => intro s r h; exact gen s r h
  | loop c ih => intro s r h; simp [run] at h
  | rangeFunc f ps a b iha ihb => intro s r h; simp [run] at h
  | exit id => intro s r h; exact h
  | scope c ih => intro s r h; simp [run] at h
  | goto l => intro s r h; simp [run] at h
  | ret => intro s r h; exact h
  | refuse w => intro s r h; simp [run] at h

theorem loopStep_mono {E : Env} {κ κ' : Kall} {lp lp' : Lp} {i : Info} {code : Code} (hk : LeK κ κ') (hl : LeL lp lp') :
    LeL (loopStep E κ lp i code) (loopStep E κ' lp' i code) := by
  intro id items s r h
  unfold loopStep at h ⊢
  split at h
  · rename_i c heq
    cases hr : run E κ lp i c s with
    | none => rw [hr] at h; cases h
    | some x =>
      rw [run_mono hk hl _ _ _ hr]; rw [hr] at h
      obtain ⟨e, s'⟩ := x
      cases e with
      | normal => exact hl _ _ _ _ h
      | exit id => exact h
      | ret => exact h
  · rename_i f ps a b heq
    split at h
    · split at h
      · exact h
      · split at h
        · split at h
          · split at h
            · rename_i hlen
              rw [if_pos hlen]
              cases hr : run E κ lp i (.seq a b) { s with tmps := setAll ps.toList _ s.tmps } with
              | none => rw [hr] at h; cases h
              | some x =>
                rw [run_mono hk hl _ _ _ hr]; rw [hr] at h
                obtain ⟨e, s'⟩ := x
                cases e with
                | normal =>
                  simp only at h ⊢
                  split at h
                  · exact hl _ _ _ _ h
                  · cases h
                | exit id => exact h
                | ret => exact h
            · cases h
          · cases h
        · cases h
    · cases h
  · cases h

theorem enter0_mono {E : Env} {κ κ' : Kall} {lp lp' : Nat → Lp} (hk : LeK κ κ') (hl : ∀ g, LeL (lp g) (lp' g)) :
    LeK (enter0 E κ lp) (enter0 E κ' lp') := by
  intro g a h r hr
  unfold enter0 at hr ⊢
  split at hr
  · cases hr
  · exact hr
  · split at hr
    · cases hr
    · rename_i i fn heq c hb
      dsimp only at hr ⊢
      split at hr
      · rename_i s hs; rw [run_mono hk (hl g) _ _ _ hs]; exact hr
      · rename_i s hs; rw [run_mono hk (hl g) _ _ _ hs]; exact hr
      · cases hr

theorem enter_mono {E : Env} {κ κ' : Kall} {lp lp' : Nat → Lp} (hk : LeK κ κ') (hl : ∀ g, LeL (lp g) (lp' g)) :
    LeK (enter E κ lp) (enter E κ' lp') := by
  intro g a h r hr
  unfold enter at hr ⊢
  cases hm : okM h a with
  | true =>
    rw [hm] at hr
    simp only [cond_true] at hr ⊢
    cases h0 : enter0 E κ lp g a h with
    | none => rw [h0] at hr; cases hr
    | some r0 => rw [h0] at hr; rw [enter0_mono hk hl g a h r0 h0]; exact hr
  | false => rw [hm] at hr; cases hr

theorem enter_some {E : Env} {κ : Kall} {lp : Nat → Lp} {g : Nat} {a : List AV} {h : List Obj} {r : AV × List Obj} (hr : enter E κ lp g a h = some r) : okM h a = true ∧ enter0 E κ lp g a h = some r ∧ h.length ≤ r.2.length := by
  unfold enter at hr
  cases hm : okM h a with
  | true =>
    rw [hm] at hr
    simp only [cond_true] at hr
    cases h0 : enter0 E κ lp g a h with
    | none => rw [h0] at hr; cases hr
    | some r0 =>
      rw [h0] at hr
      simp only at hr
      cases hb : Nat.ble h.length r0.2.length with
      | true => rw [hb] at hr; cases hr; exact ⟨rfl, rfl, Nat.le_of_ble_eq_true hb⟩
      | false => rw [hb] at hr; cases hr
  | false => rw [hm] at hr; cases hr

theorem enter_of {E : Env} {κ : Kall} {lp : Nat → Lp} {g : Nat} {a : List AV} {h : List Obj} {r : AV × List Obj} (hm : okM h a = true) (h0 : enter0 E κ lp g a h = some r) (hl : h.length ≤ r.2.length) : enter E κ lp g a h = some r := by
  unfold enter
  rw [hm, h0]
  simp only [cond_true]
  rw [show Nat.ble h.length r.2.length = true from Nat.ble_eq_true_of_le hl]; rfl

theorem lpN_mono {E : Env} {κ κ' : Kall} (hk : LeK κ κ') (g : Nat) : ∀ n m, n ≤ m → LeL (lpN E κ g n) (lpN E κ' g m) := by
  intro n
  induction n with
  | zero => intro m _ id items s r h; cases h
  | succ n ih =>
    intro m hm id items s r h
    obtain ⟨m, rfl⟩ : ∃ k, m = k + 1 := ⟨m - 1, by omega⟩
    simp only [lpN] at h ⊢
    split at h
    · exact loopStep_mono hk (ih m (by omega)) _ _ _ _ h
    · cases h

theorem callN_mono {E : Env} : ∀ n m, n ≤ m → LeK (callN E n) (callN E m) := by
  intro n
  induction n with
  | zero => intro m _ g a h r hr; cases hr
  | succ n ih =>
    intro m hm
    obtain ⟨m, rfl⟩ : ∃ k, m = k + 1 := ⟨m - 1, by omega⟩
    exact enter_mono (ih m (by omega)) (fun g => lpN_mono (ih m (by omega)) g n m (by omega))

/-- with n calls within one another and n rounds -/
def lpA (E : Env) (g n : Nat) : Lp := lpN E (callN E n) g n

theorem lpA_mono {E : Env} (g : Nat) {n m : Nat} (h : n ≤ m) : LeL (lpA E g n) (lpA E g m) := lpN_mono (callN_mono n m h) g n m h

open Classical in
/-- the limit -/
noncomputable def callL (E : Env) : Kall := fun g a h => if x : ∃ r n, callN E n g a h = some r then some x.choose else none
open Classical in
noncomputable def lpL (E : Env) (g : Nat) : Lp := fun id items s => if x : ∃ r n, lpA E g n id items s = some r then some x.choose else none

theorem callL_some {E : Env} {g : Nat} {a : List AV} {h : List Obj} {r : AV × List Obj} (hr : callL E g a h = some r) : ∃ n, callN E n g a h = some r := by
  unfold callL at hr
  split at hr
  · rename_i x
    obtain ⟨n, hn⟩ := x.choose_spec
    cases hr
    exact ⟨n, hn⟩
  · cases hr

theorem callL_of {E : Env} {g : Nat} {a : List AV} {h : List Obj} {r : AV × List Obj} {n : Nat} (hn : callN E n g a h = some r) : callL E g a h = some r := by
  have x : ∃ r n, callN E n g a h = some r := ⟨r, n, hn⟩
  unfold callL
  rw [dif_pos x]
  obtain ⟨m, hm⟩ := x.choose_spec
  have h1 := callN_mono n (max n m) (by omega) _ _ _ _ hn
  have h2 := callN_mono m (max n m) (by omega) _ _ _ _ hm
  rw [h1] at h2
  exact h2.symm

theorem lpL_some {E : Env} {g id : Nat} {items : List (List AV)} {s : St} {r : Ex × St} (hr : lpL E g id items s = some r) : ∃ n, lpA E g n id items s = some r := by
  unfold lpL at hr
  split at hr
  · rename_i x
    obtain ⟨n, hn⟩ := x.choose_spec
    cases hr
    exact ⟨n, hn⟩
  · cases hr

theorem lpL_of {E : Env} {g id : Nat} {items : List (List AV)} {s : St} {r : Ex × St} {n : Nat} (hn : lpA E g n id items s = some r) : lpL E g id items s = some r := by
  have x : ∃ r n, lpA E g n id items s = some r := ⟨r, n, hn⟩
  unfold lpL
  rw [dif_pos x]
  obtain ⟨m, hm⟩ := x.choose_spec
  have h1 := lpA_mono g (show n ≤ max n m by omega) _ _ _ _ hn
  have h2 := lpA_mono g (show m ≤ max n m by omega) _ _ _ _ hm
  rw [h1] at h2
  exact h2.symm

theorem runOps_cont {E : Env} {own : Bool} {ops : Array Oper} :
    ∀ (os : List Oper) (s s' : St), runOps E (callL E) own ops os s = some s' → ∃ n, runOps E (callN E n) own ops os s = some s' := by
  intro os
  induction os with
  | nil => intro s s' h; exact ⟨0, h⟩
  | cons o os ih =>
    intro s s' h
    simp only [runOps] at h ⊢
    split at h
    · cases h
    · exact ih _ _ h
    · split at h
      · cases h
      · exact ih _ _ h
      · split at h
        · rename_i heq
          obtain ⟨n, hn⟩ := callL_some heq
          obtain ⟨m, hm⟩ := ih _ _ h
          refine ⟨max n m, ?_⟩
          rw [callN_mono n (max n m) (by omega) _ _ _ _ hn]
          exact runOps_mono (callN_mono m (max n m) (by omega)) _ _ _ hm
        · cases h

theorem run_cont {E : Env} {g : Nat} {i : Info} :
    ∀ (c : Code) (s : St) (r : Ex × St), run E (callL E) (lpL E g) i c s = some r → ∃ n, run E (callN E n) (lpA E g n) i c s = some r := by
  have up : ∀ {n m : Nat} {c : Code} {s : St} {r : Ex × St}, n ≤ m → run E (callN E n) (lpA E g n) i c s = some r → run E (callN E m) (lpA E g m) i c s = some r :=
    fun h hr => run_mono (callN_mono _ _ h) (lpA_mono g h) _ _ _ hr
  intro c
  induction c with
  | skip => intro s r h; exact ⟨0, h⟩
  | label l => intro s r h; exact ⟨0, h⟩
  | region id ops draw =>
    intro s r h
    simp only [run] at h ⊢
    split at h
    · rename_i heq
      obtain ⟨n, hn⟩ := runOps_cont _ _ _ heq
      exact ⟨n, by rw [hn]; exact h⟩
    · cases h
  | seq a b iha ihb =>
    intro s r h
    simp only [run] at h ⊢
    split at h
    · rename_i heq
      obtain ⟨n, hn⟩ := iha _ _ heq
      obtain ⟨m, hm⟩ := ihb _ _ h
      exact ⟨max n m, by rw [up (show n ≤ max n m by omega) hn]; exact up (show m ≤ max n m by omega) hm⟩
    · rename_i hne
      cases hr : run E (callL E) (lpL E g) i a s with
      | none => rw [hr] at h; cases h
      | some x =>
        obtain ⟨n, hn⟩ := iha _ _ hr
        refine ⟨n, ?_⟩
        rw [hn]; rw [hr] at h
        obtain ⟨e, s'⟩ := x
        cases e with
        | normal => exact absurd hr (hne s')
        | exit id => exact h
        | ret => exact h
  | cond c a b iha ihb =>
    intro s r h
    simp only [run] at h ⊢
    split at h
    · exact iha _ _ h
    · exact ihb _ _ h
    · cases h
  | block id c ih =>
    have gen : ∀ s r, (match run E (callL E) (lpL E g) i c s with
        | some (.exit id', s') => if id' = id then some (Ex.normal, s') else some (.exit id', s')
        | r => r) = some r → ∃ n, (match run E (callN E n) (lpA E g n) i c s with
        | some (.exit id', s') => if id' = id then some (Ex.normal, s') else some (.exit id', s')
        | r => r) = some r := by
      intro s r h
      cases hr : run E (callL E) (lpL E g) i c s with
      | none => rw [hr] at h; cases h
      | some x =>
        obtain ⟨n, hn⟩ := ih _ _ hr
        exact ⟨n, by rw [hn]; rw [hr] at h; exact h⟩
    cases c with
    | loop c => intro s r h; simp only [run] at h ⊢; exact lpL_some h
    | rangeFunc f ps a b =>
      intro s r h
      simp only [run] at h ⊢
      split at h
      · split at h
        · exact lpL_some h
        · cases h
      · cases h
    | skip => intro s r h; exact ⟨0, by simp only [run] at h ⊢; exact h⟩
    | region id ops draw => intro s r h; exact gen s r h
    | seq a b => intro s r h; exact gen s r h
    | cond c a b => intro s r h; exact gen s r h
    | block id c => intro s r h; exact gen s r h
    | exit id => intro s r h; exact gen s r h
    | scope c => intro s r h; exact gen s r h
    | label l => intro s r h; exact gen s r h
    | goto l => intro s r h; exact gen s r h
    | ret => intro s r h; exact gen s r h
    | refuse w => intro s r h; exact gen s r h
  | loop c ih => intro s r h; simp [run] at h
  | rangeFunc f ps a b iha ihb => intro s r h; simp [run] at h
  | exit id => intro s r h; exact ⟨0, h⟩
  | scope c ih => intro s r h; simp [run] at h
  | goto l => intro s r h; simp [run] at h
  | ret => intro s r h; exact ⟨0, h⟩
  | refuse w => intro s r h; simp [run] at h

/-- What is closed under a call and a round. -/
structure Ctx (E : Env) where
  κ : Kall
  lp : Nat → Lp
  call : ∀ {g a h r}, enter E κ lp g a h = some r → κ g a h = some r
  loop : ∀ {g i c id items s r}, infoOf E g = some (i, c) → loopStep E κ (lp g) i c id items s = some r → lp g id items s = some r

theorem loopStep_cont {E : Env} {g : Nat} {i : Info} {code : Code} {id : Nat} {items : List (List AV)} {s : St} {r : Ex × St}
    (h : loopStep E (callL E) (lpL E g) i code id items s = some r) : ∃ n, loopStep E (callN E n) (lpA E g n) i code id items s = some r := by
  unfold loopStep at h ⊢
  split at h
  · rename_i c heq
    cases hr : run E (callL E) (lpL E g) i c s with
    | none => rw [hr] at h; cases h
    | some x =>
      rw [hr] at h
      obtain ⟨n, hn⟩ := run_cont _ _ _ hr
      obtain ⟨e, s'⟩ := x
      cases e with
      | normal =>
        obtain ⟨m, hm⟩ := lpL_some h
        refine ⟨max n m, ?_⟩
        rw [run_mono (callN_mono n (max n m) (by omega)) (lpA_mono g (show n ≤ max n m by omega)) _ _ _ hn]
        exact lpA_mono g (show m ≤ max n m by omega) _ _ _ _ hm
      | exit id => exact ⟨n, by rw [hn]; exact h⟩
      | ret => exact ⟨n, by rw [hn]; exact h⟩
  · rename_i f ps a b heq
    split at h
    · split at h
      · exact ⟨0, h⟩
      · split at h
        · split at h
          · split at h
            · rename_i x _ hlen
              cases hr : run E (callL E) (lpL E g) i (.seq a b) { s with tmps := setAll ps.toList x s.tmps } with
              | none => rw [hr] at h; cases h
              | some y =>
                rw [hr] at h
                obtain ⟨n, hn⟩ := run_cont _ _ _ hr
                obtain ⟨e, s'⟩ := y
                cases e with
                | normal =>
                  simp only at h
                  split at h
                  · rename_i h2 hp
                    obtain ⟨m, hm⟩ := lpL_some h
                    refine ⟨max n m, ?_⟩
                    rw [if_pos hlen, run_mono (callN_mono n (max n m) (by omega)) (lpA_mono g (show n ≤ max n m by omega)) _ _ _ hn]
                    simp only [hp]
                    exact lpA_mono g (show m ≤ max n m by omega) _ _ _ _ hm
                  · cases h
                | exit id => exact ⟨n, by rw [if_pos hlen, hn]; exact h⟩
                | ret => exact ⟨n, by rw [if_pos hlen, hn]; exact h⟩
            · cases h
          · cases h
        · cases h
    · cases h
  · cases h

noncomputable def limit (E : Env) : Ctx E where
  κ := callL E
  lp := lpL E
  call := by
    intro g a h r hr
    obtain ⟨hm, hr, hlen⟩ := enter_some hr
    unfold enter0 at hr
    split at hr
    · cases hr
    · rename_i p heq
      refine callL_of (n := 1) ?_
      refine enter_of hm ?_ hlen
      simp only [enter0, heq]
      exact hr
    · rename_i i fn heq
      split at hr
      · cases hr
      · rename_i c hb
        dsimp only at hr
        split at hr
        · rename_i s hs
          obtain ⟨n, hn⟩ := run_cont _ _ _ hs
          refine callL_of (n := n + 1) ?_
          refine enter_of hm ?_ hlen
          simp only [enter0, heq, hb]
          unfold lpA at hn
          rw [hn]
          exact hr
        · rename_i s hs
          obtain ⟨n, hn⟩ := run_cont _ _ _ hs
          refine callL_of (n := n + 1) ?_
          refine enter_of hm ?_ hlen
          simp only [enter0, heq, hb]
          unfold lpA at hn
          rw [hn]
          exact hr
        · cases hr
  loop := by
    intro g i c id items s r hi h
    obtain ⟨n, hn⟩ := loopStep_cont h
    refine lpL_of (n := n + 1) ?_
    show lpN E (callN E (n + 1)) g (n + 1) id items s = some r
    simp only [lpN, hi]
    exact loopStep_mono (callN_mono n (n + 1) (by omega)) (lpN_mono (callN_mono n (n + 1) (by omega)) g n n (Nat.le_refl _)) _ _ _ _ hn

theorem Ctx.lpN {E : Env} (C : Ctx E) (g : Nat) {κ : Kall} (hk : LeK κ C.κ) : ∀ n, LeL (lpN E κ g n) (C.lp g) := by
  intro n
  induction n with
  | zero => intro id items s r h; cases h
  | succ n ih =>
    intro id items s r h
    simp only [AM.lpN] at h
    split at h
    · rename_i i c hi
      exact C.loop hi (loopStep_mono hk ih _ _ _ _ h)
    · cases h

/-- what comes of a number of calls and rounds comes in every such context: by the kernel's run -/
theorem Ctx.run {E : Env} (C : Ctx E) : ∀ n, LeK (callN E n) C.κ := by
  intro n
  induction n with
  | zero => intro g a h r hr; cases hr
  | succ n ih =>
    intro g a h r hr
    exact C.call (enter_mono ih (fun g => C.lpN g ih n) _ _ _ _ hr)

end AM

/- A RUN: what the abstract machine runs, the model runs. -/
namespace AM
open Go

def Ex.to : Ex → Exit
  | .normal => .normal
  | .exit id => .exit id
  | .ret => .ret

/-- a function that can be entered -/
def Enters (P : Program) (g : Nat) : Prop := ∃ fn, P.funcs[g]? = some fn ∧ fn.name ≠ "runtime.NumGoroutine" ∧ fn.body.isSome

/-- what a call gives -/
def CallR (P : Program) (κ : Kall) : Prop := ∀ g args h r, κ g args h = some r → Enters P g ∧ ∀ (Φ : Phi) (w : World) (args' : Array Value), WR Φ h w → VRs Φ args args'.toList →
  Calls P g args' w (fun e w' => ∃ v' Ψ, e = .returned v' ∧ Φ.le Ψ ∧ WR Ψ r.2 w' ∧ VR Ψ r.1 v')

/-- no bounds; in a round of a loop over a function, or in none -/
def rnd (ro : Option Nat) : Fence := { Fence.wide with round := ro }

theorem callsIn_rnd {P : Program} {ro : Option Nat} {n g : Nat} {args : Array Value} {w : World} {R : Ending → World → Prop} (h : Calls P g args w R) : CallsIn (rnd ro) n P g args w R := (callsIn_wide (n := n)).2 h

section
variable {P : Program} {E : Env} {ro : Option Nat} {nd : Nat} {ds : List Deferred}

theorem val_call {h : List Obj} {o : Option AV} {f : Nat} {args : List AV} : val h o ≠ some (.call f args) := by
  cases o with
  | none => simp [val]
  | some v => simp [val]

theorem append_call {A : Ar} {esz eb : Nat} {h : List Obj} {xs : List AV} {e : Nat} {t : Tok} {ys : List AV} {e' : Nat} {f : Nat} {args : List AV} : append A esz eb h xs e t ys e' ≠ some (.call f args) := by
  unfold append
  repeat' split
  all_goals simp

theorem builtin_call {h : List Obj} {b : Builtin} {ts : Array TypeId} {as : List AV} {f : Nat} {args : List AV} : AM.builtin E h b ts as ≠ some (.call f args) := by
  unfold AM.builtin
  repeat' split
  all_goals first | exact append_call | simp

theorem op_call {Φ : Phi} {w : World} {own : Bool} {tm : List AV} {h : List Obj} {a : Act} (hT : TabR Φ) (ht : VRs Φ tm a.tmps.toList) (o : Oper) {f : Nat} {args : List AV}
    (hop : op E own tm h o.type o.op = some (.call f args)) : ∃ args', (execOp a.eval o).run P w = (callFunc f args').run P w ∧ VRs Φ args args'.toList := by
  obtain ⟨dst, o, ty, pos, after, guard⟩ := o
  simp only at hop
  unfold op at hop
  simp only at hop
  unfold execOp
  simp only
  split at hop
  case h_26 c =>
    obtain ⟨callee, as, ts⟩ := c
    simp only at hop ⊢
    split at hop
    · rename_i x
      have hx := opnd_R hT ht x
      have has := opnds_R hT ht as.toList
      unfold callVal at hop
      split at hop
      · rename_i g first cap heq
        rw [heq] at hx
        cases hop
        obtain ⟨vs, ws, he, h1, h2⟩ : ∃ vs ws, a.eval x = .func (.func f) vs ws ∧ VRs Φ first vs.toList ∧ VRs Φ cap ws.toList := by
          generalize a.eval x = x' at hx ⊢
          cases hx with | func _ _ _ vs ws hl hv kl kv => exact ⟨vs, ws, rfl, ⟨hl, hv⟩, ⟨kl, kv⟩⟩
        refine ⟨vs ++ as.map a.eval ++ ws, ?_, ?_⟩
        · simp [resolve, Deferred.ofValue, invoke, he]
        · simp only [Array.toList_append, Array.toList_map]
          exact (h1.append has).append h2
      · cases hop
    · exact absurd hop builtin_call
    · cases hop
  all_goals exfalso
  all_goals first
    | exact val_call hop
    | (simp only [Option.map_eq_some_iff] at hop; obtain ⟨_, _, h⟩ := hop; cases h; done)
    | (repeat' split at hop) <;> first | exact val_call hop | (simp only [Option.map_eq_some_iff] at hop; obtain ⟨_, _, h⟩ := hop; cases h; done) | (cases hop; done)

theorem run_callFunc {g : Nat} {args : Array Value} {w : World} (h : Enters P g) : (callFunc g args).run P w = .ok (.enter g args) w := by
  obtain ⟨fn, h1, h2, h3⟩ := h
  unfold callFunc
  have h3' : fn.body ≠ none := by intro h; rw [h] at h3; cases h3
  simp [h1, h2, h3']

theorem wanted_R {Φ : Phi} {ops : Array Oper} {t : List AV} {a : Act} (ht : VRs Φ t a.tmps.toList) {o : Oper} {b : Bool} (hw : wanted ops t o = some b) : Region.wanted o (yielded ops a.tmps) = b := by
  unfold wanted at hw
  unfold Region.wanted
  cases hg : o.guard with
  | none => rw [hg] at hw; cases hw; rfl
  | some p =>
    obtain ⟨j, want⟩ := p
    rw [hg] at hw
    simp only at hw ⊢
    unfold yielded
    cases hj : ops[j]? with
    | none => rw [hj] at hw; cases hw; rfl
    | some o' =>
      rw [hj] at hw
      simp only [Option.bind_some]
      cases hd : o'.dst with
      | none => simp only [hd] at hw; cases hw; rfl
      | some d =>
        simp only [hd] at hw
        simp only [Option.bind_some]
        cases hx : t[d]? with
        | none =>
          rw [hx] at hw; cases hw
          have : a.tmps[d]? = none := by
            have h1 := List.getElem?_eq_none_iff.1 hx
            have h2 := ht.1
            exact Array.getElem?_eq_none (by simp at h2; omega)
          rw [this]; rfl
        | some x =>
          obtain ⟨v, hv, hR⟩ := ht.get hx
          have hv' : a.tmps[d]? = some v := by simpa using hv
          rw [hx] at hw
          rw [hv']
          cases hR with
          | undef => cases hw
          | bool b => cases want <;> cases b <;> cases hw <;> rfl
          | _ => cases hw; rfl

theorem setT_R {Φ : Phi} {t : List AV} {a : Act} (ht : VRs Φ t a.tmps.toList) (dst : Option Nat) {v : AV} {v' : Value} (hv : VR Φ v v') : VRs Φ (setT t dst v) (a.put dst v').tmps.toList := by
  cases dst with
  | none => exact ht
  | some d =>
    simp only [setT, Act.put, Array.toList_setIfInBounds]
    exact ht.set d hv

theorem put_defers (a : Act) (dst : Option Nat) (v : Value) : (a.put dst v).defers = a.defers := by cases dst <;> rfl

theorem op_nodefer {own : Bool} {tm : List AV} {h : List Obj} {ty : TypeId} {o : Op} {r : Res} (hop : op E own tm h ty o = some r) : ∀ c, o ≠ .defer c := by
  rintro c rfl
  simp [op] at hop

theorem rnd_room (k : Nat) : (rnd ro).room k := fun _ h => by simp [rnd, Fence.wide] at h

theorem ops_sim (hE : EnvR P E) {κ : Kall} (hκ : CallR P κ) {own : Bool} (ops : Array Oper) : ∀ (l : List Nat) (s s' : St), runOps E κ own ops (l.filterMap (ops[·]?)) s = some s' →
    ∀ (Φ : Phi) (a : Act) (w : World), WR Φ s.heap w → VRs Φ s.tmps a.tmps.toList → a.defers = ds → ∀ Q : Exit → Act → World → Prop,
      (∀ (Ψ : Phi) (a' : Act) (w' : World), Φ.le Ψ → WR Ψ s'.heap w' → VRs Ψ s'.tmps a'.tmps.toList → a'.defers = ds → Q .normal a' w') → wpOpsIn (rnd ro) nd P ops Q l a w := by
  intro l
  induction l with
  | nil => intro s s' hr Φ a w hw ht hd Q hQ; cases hr; exact hQ Φ a w (.refl Φ) hw ht hd
  | cons i l ih =>
    intro s s' hr Φ a w hw ht hd Q hQ
    simp only [wpOpsIn]
    cases ho : ops[i]? with
    | none =>
      simp only [List.filterMap_cons, ho] at hr
      exact ih s s' hr Φ a w hw ht hd Q hQ
    | some o =>
      simp only [List.filterMap_cons, ho] at hr
      simp only
      rw [runOps] at hr
      split at hr
      · cases hr
      · rename_i hwa
        rw [wanted_R ht hwa]
        simp only [Bool.false_eq_true, if_false]
        exact ⟨fun _ _ => trivial, ih _ s' hr Φ _ w hw (setT_R ht o.dst (v' := undef) (.tuple [] #[] rfl (fun k a v h => by simp at h))) (by rw [put_defers]; exact hd) Q hQ⟩
      · rename_i hwa
        rw [wanted_R ht hwa]
        simp only [if_true]
        refine ⟨fun _ _ => trivial, ?_⟩
        split at hr
        · cases hr
        · rename_i v h' hop
          obtain ⟨Ψ, w', hle, hw', hres⟩ := op_val (P := P) hw hE ht o hop
          have next : ∀ v', VR Ψ v v' → wpOpsIn (rnd ro) nd P ops Q l (a.put o.dst v') w' := fun v' hv =>
            ih _ s' hr Ψ _ w' hw' (setT_R (ht.mono hle) o.dst hv) (by rw [put_defers]; exact hd) Q (fun Ω a' w'' h1 h2 h3 h4 => hQ Ω a' w'' (hle.trans h1) h2 h3 h4)
          rw [Oper.semAt_eq _ _ _ (op_nodefer hop)]
          rcases hres with ⟨v', hrun, hv⟩ | ⟨hrun, hv⟩
          · rw [hrun]; exact next v' hv
          · rw [hrun]; exact next undef (by rw [hv]; exact .tuple [] #[] rfl (fun k a v h => by simp at h))
        · rename_i g args hop
          obtain ⟨args', hrun, ha⟩ := op_call (P := P) (w := w) hw.tab ht o hop
          split at hr
          · rename_i v h' hk
            obtain ⟨hen, hc⟩ := hκ _ _ _ _ hk
            rw [Oper.semAt_eq _ _ _ (op_nodefer hop), hrun, run_callFunc hen]
            refine ⟨fun h => by simp [rnd, Fence.wide] at h, callsIn_rnd ?_⟩
            refine (hc Φ w args' hw ha).mono (fun e w' he => ?_)
            obtain ⟨v', Ψ, rfl, hle, hw', hv⟩ := he
            exact ih _ s' hr Ψ _ w' hw' (setT_R (ht.mono hle) o.dst hv) (by rw [put_defers]; exact hd) Q (fun Ω a' w'' h1 h2 h3 h4 => hQ Ω a' w'' (hle.trans h1) h2 h3 h4)
          · cases hr

/-- the loops of a code -/
def loopsIn : Code → List (Nat × Code)
  | .seq a b | .cond _ a b => loopsIn a ++ loopsIn b
  | .block id (.loop c) => (id, .loop c) :: loopsIn c
  | .block id (.rangeFunc f ps a b) => (id, .rangeFunc f ps a b) :: loopsIn b
  | .block _ c | .scope c | .loop c => loopsIn c
  | .rangeFunc _ _ _ b => loopsIn b
  | _ => []

theorem findLoop_eq (id : Nat) : ∀ c : Code, findLoop id c = ((loopsIn c).find? fun p => p.1 == id).map (·.2) := by
  intro c
  induction c with
  | seq a b iha ihb =>
    simp only [findLoop, loopsIn, List.find?_append, iha, ihb]
    cases (loopsIn a).find? fun p => p.1 == id <;> simp
  | cond c a b iha ihb =>
    simp only [findLoop, loopsIn, List.find?_append, iha, ihb]
    cases (loopsIn a).find? fun p => p.1 == id <;> simp
  | block id' c ih =>
    cases c with
    | loop c =>
      simp only [findLoop, loopsIn, List.find?_cons]
      by_cases h : id' = id
      · simp [h]
      · have : (id' == id) = false := by simpa using h
        rw [if_neg h, this]
        simpa only [findLoop, loopsIn] using ih
    | rangeFunc f ps a b =>
      simp only [findLoop, loopsIn, List.find?_cons]
      by_cases h : id' = id
      · simp [h]
      · have : (id' == id) = false := by simpa using h
        rw [if_neg h, this]
        simpa only [findLoop, loopsIn] using ih
    | _ => simpa only [findLoop, loopsIn] using ih
  | loop c ih => simpa only [findLoop, loopsIn] using ih
  | scope c ih => simpa only [findLoop, loopsIn] using ih
  | rangeFunc f ps a b iha ihb => simpa only [findLoop, loopsIn] using ihb
  | _ => rfl

theorem find_nodup : ∀ {l : List (Nat × Code)}, (l.map (·.1)).Nodup → ∀ p ∈ l, (l.find? fun q => q.1 == p.1) = some p := by
  intro l
  induction l with
  | nil => intro _ p hp; cases hp
  | cons q l ih =>
    intro hn p hp
    simp only [List.map_cons, List.nodup_cons] at hn
    cases hp with
    | head => simp
    | tail _ hp =>
      have hne : q.1 ≠ p.1 := fun h => hn.1 (h ▸ List.mem_map_of_mem hp)
      rw [List.find?_cons]
      have : (q.1 == p.1) = false := by simpa using hne
      rw [this]
      exact ih hn.2 p hp

/-- the regions of a code -/
def regionsIn : Code → List Code
  | .region id ops d => [.region id ops d]
  | .seq a b | .cond _ a b => regionsIn a ++ regionsIn b
  | .block _ c | .scope c | .loop c => regionsIn c
  | .rangeFunc _ _ a b => regionsIn a ++ regionsIn b
  | _ => []

/-- without a loop over a function -/
def noRF : Code → Bool
  | .seq a b | .cond _ a b => noRF a && noRF b
  | .block _ c | .scope c | .loop c => noRF c
  | .rangeFunc .. => false
  | _ => true

/-- a loop about to begin a round -/
def LoopWp (P : Program) (ro : Option Nat) (c : Code) (Q : Exit → Act → World → Prop) (a : Act) (w : World) : Prop :=
  ∀ (b : Frame) (k : List Item) (cs : List Frame), b.roundOf = ro → ∃ e a' w', Q e a' w' ∧ ArrivesIn (Machine.fenced P (rnd ro)) P (lone (b.atR a (.code c :: .inLoop c :: k)) cs w) b k cs e a' w'

theorem LoopWp.loop {c : Code} {Q : Exit → Act → World → Prop} {a : Act} {w : World} (h : LoopWp P ro c Q a w) : (Code.loop c).wpIn (rnd ro) nd P Q a w := by
  intro b k cs hro hb hr
  obtain ⟨e, a', w', hq, harr⟩ := h b k cs hro
  exact ⟨e, a', w', hq, .of_steps (.one (fenced_calm hb hr rfl) stepR_loop) harr⟩

theorem LoopWp.step {c : Code} {Q : Exit → Act → World → Prop} {a : Act} {w : World} (h : c.wpIn (rnd ro) nd P (Exit.then (LoopWp P ro c Q) Q) a w) : LoopWp P ro c Q a w := by
  intro b k cs hro
  have hb : (rnd ro).fn b.fn := trivial
  have hr : (rnd ro).room (cs.length + 1 + nd) := rnd_room _
  obtain ⟨e, a₁, w₁, hq, harr⟩ := h b (.inLoop c :: k) cs hro hb hr
  cases e with
  | normal =>
    obtain ⟨e₂, a₂, w₂, hq₂, harr₂⟩ := hq b k cs hro
    exact ⟨e₂, a₂, w₂, hq₂, .of_steps (StepsIn.trans harr (.one (fenced_calm hb hr rfl) stepR_inLoop)) harr₂⟩
  | exit id => exact ⟨_, a₁, w₁, hq, .pass (x := .inLoop c) rfl (fun _ _ => .inl (by simp)) harr⟩
  | goto l => exact ⟨_, a₁, w₁, hq, .pass (x := .inLoop c) rfl (fun _ _ => .inl (by simp)) harr⟩
  | ret => exact ⟨_, a₁, w₁, hq, .pass (x := .inLoop c) rfl (fun _ _ => .inl (by simp)) harr⟩
  | panic ch => exact ⟨_, a₁, w₁, hq, .pass (x := .inLoop c) rfl (fun _ _ => .inl (by simp)) harr⟩
  | outgrown => exact ⟨_, a₁, w₁, hq, .pass (x := .inLoop c) rfl (fun _ _ => .inl (by simp)) harr⟩

/-- what a run is to be shown to be -/
def Post (Q : Exit → Act → World → Prop) (Φ : Phi) (ds : List Deferred) (e : Exit) (s : St) : Prop :=
  ∀ (Ψ : Phi) (a' : Act) (w' : World), Φ.le Ψ → WR Ψ s.heap w' → VRs Ψ s.tmps a'.tmps.toList → a'.defers = ds → Q e a' w'

theorem Post.le {Q : Exit → Act → World → Prop} {Φ Ψ : Phi} {e : Exit} {s : St} (h : Post Q Φ ds e s) (hle : Φ.le Ψ) : Post Q Ψ ds e s :=
  fun Ω a' w' h1 h2 h3 h4 => h Ω a' w' (hle.trans h1) h2 h3 h4

/-- what a region that draws gives in any order -/
def DrawR (P : Program) (E : Env) (κ : Kall) (i : Info) (code : Code) : Prop := ∀ (ro : Option Nat) (nd : Nat) (ds : List Deferred) id ops, Code.region id ops true ∈ regionsIn code → ∀ s s', runOps E κ i.own ops ops.toList s = some s' → drawOk E i id ops s.heap.length s'.tmps = true →
  ∀ (Φ : Phi) (a : Act) (w : World), WR Φ s.heap w → VRs Φ s.tmps a.tmps.toList → a.defers = ds → ∀ Q, Post Q Φ ds .normal s' → (Code.region id ops true).wpIn (rnd ro) nd P Q a w

def LoopR (P : Program) (lp : Lp) (code : Code) : Prop := ∀ (ro : Option Nat) (ds : List Deferred) id c, (id, Code.loop c) ∈ loopsIn code → noRF c = true → ∀ items s ex s', lp id items s = some (ex, s') →
  ∀ (Φ : Phi) (a : Act) (w : World), WR Φ s.heap w → VRs Φ s.tmps a.tmps.toList → a.defers = ds → ∀ Q, Post Q Φ ds ex.to s' → LoopWp P ro c (Exit.inBlock id Q) a w

theorem keepT_R {Φ : Phi} (ks : List Nat) : ∀ (i : Nat) (t : List AV) (vs : List Value), VRs Φ t vs → VRs Φ (keepT ks i t) vs := by
  intro i t
  induction t generalizing i with
  | nil => intro vs h; exact h
  | cons x t ih =>
    intro vs h
    obtain ⟨v, us, rfl, h1, h2⟩ := h.inv_cons
    rw [keepT]
    refine .cons ?_ (ih _ _ h2)
    split
    · exact h1
    · exact .undef v

theorem norm_heap (i : Info) (id : Nat) (s : St) : (norm i id s).heap = s.heap := by unfold norm; split <;> rfl
theorem norm_R {Φ : Phi} {i : Info} {id : Nat} {s : St} {vs : List Value} (h : VRs Φ s.tmps vs) : VRs Φ (norm i id s).tmps vs := by
  unfold norm
  split
  · exact keepT_R _ _ _ _ h
  · exact h

theorem run_region {κ : Kall} {lp : Lp} {i : Info} {id : Nat} {ops : Array Oper} {draw : Bool} {s s' : St} {ex : Ex} (h : run E κ lp i (.region id ops draw) s = some (ex, s')) :
    ex = .normal ∧ runOps E κ i.own ops ops.toList s = some s' ∧ (draw = true → drawOk E i id ops s.heap.length s'.tmps = true) := by
  simp only [run] at h
  split at h
  · rename_i s1 hs
    split at h
    · cases h
    · rename_i hd
      cases h
      refine ⟨rfl, hs, fun hdr => ?_⟩
      cases hk : drawOk E i id ops s.heap.length s'.tmps with
      | true => rfl
      | false => rw [hdr, hk] at hd; exact absurd rfl hd
  · cases h

theorem range_ops (ops : Array Oper) : (List.range ops.size).filterMap (ops[·]?) = ops.toList := by
  apply List.ext_getElem?
  intro k
  have : (List.range ops.size).filterMap (ops[·]?) = (List.range ops.size).map fun j => ops.getD j default := by
    have gen : ∀ l : List Nat, (∀ j ∈ l, j < ops.size) → l.filterMap (ops[·]?) = l.map fun j => ops.getD j default := by
      intro l
      induction l with
      | nil => intro _; rfl
      | cons j l ih =>
        intro h
        have hj := h j (.head _)
        rw [List.filterMap_cons, Array.getElem?_eq_getElem hj, List.map_cons, ih (fun x hx => h x (.tail _ hx))]
        simp [Array.getD, hj]
    exact gen _ (fun j hj => List.mem_range.1 hj)
  rw [this, List.getElem?_map]
  by_cases hk : k < ops.size
  · rw [List.getElem?_range hk]
    simp [Array.getD, hk]
  · rw [List.getElem?_eq_none (by simpa using hk), List.getElem?_eq_none (by simpa using hk)]; rfl

theorem run_sim (hE : EnvR P E) {κ : Kall} (hκ : CallR P κ) {lp : Lp} {i : Info} {code : Code} (hl : LoopR P lp code) (hdr : DrawR P E κ i code) :
    ∀ c : Code, noRF c = true → (∀ p ∈ loopsIn c, p ∈ loopsIn code) → (∀ p ∈ regionsIn c, p ∈ regionsIn code) → ∀ s ex s', run E κ lp i c s = some (ex, s') → ∀ (Φ : Phi) (a : Act) (w : World), WR Φ s.heap w → VRs Φ s.tmps a.tmps.toList → a.defers = ds → ∀ Q, Post Q Φ ds ex.to s' → c.wpIn (rnd ro) nd P Q a w := by
  intro c
  induction c with
  | skip => intro _ _ _ s ex s' h Φ a w hw ht hd Q hQ; cases h; exact wpIn_skip (hQ Φ a w (.refl Φ) hw ht hd)
  | label l => intro _ _ _ s ex s' h Φ a w hw ht hd Q hQ; cases h; exact wpIn_label (hQ Φ a w (.refl Φ) hw ht hd)
  | exit id => intro _ _ _ s ex s' h Φ a w hw ht hd Q hQ; cases h; exact wpIn_exit (hQ Φ a w (.refl Φ) hw ht hd)
  | ret => intro _ _ _ s ex s' h Φ a w hw ht hd Q hQ; cases h; exact wpIn_ret (hQ Φ a w (.refl Φ) hw ht hd)
  | loop c ih => intro _ _ _ s ex s' h; simp [run] at h
  | rangeFunc f ps a b iha ihb => intro _ _ _ s ex s' h; simp [run] at h
  | scope c ih => intro _ _ _ s ex s' h; simp [run] at h
  | goto l => intro _ _ _ s ex s' h; simp [run] at h
  | refuse w => intro _ _ _ s ex s' h; simp [run] at h
  | region id ops draw =>
    intro _ _ hrg s ex s' h Φ a w hw ht hd Q hQ
    obtain ⟨rfl, hr, hdraw⟩ := run_region h
    cases draw with
    | false => exact wpIn_region (ops_sim hE hκ ops _ s s' (by rw [range_ops]; exact hr) Φ a w hw ht hd Q hQ)
    | true => exact hdr ro nd ds id ops (hrg _ (by simp [regionsIn])) s s' hr (hdraw rfl) Φ a w hw ht hd Q hQ
  | seq x y ihx ihy =>
    intro hnr hs hrg s ex s' h Φ a w hw ht hd Q hQ
    simp only [noRF, Bool.and_eq_true] at hnr
    simp only [loopsIn, List.mem_append] at hs
    simp only [regionsIn, List.mem_append] at hrg
    simp only [run] at h
    apply wpIn_seq
    split at h
    · rename_i s1 hx
      refine ihx hnr.1 (fun p hp => hs p (.inl hp)) (fun p hp => hrg p (.inl hp)) s _ s1 hx Φ a w hw ht hd _ (fun Ψ a1 w1 hle hw1 ht1 hd1 => ?_)
      exact ihy hnr.2 (fun p hp => hs p (.inr hp)) (fun p hp => hrg p (.inr hp)) s1 ex s' h Ψ a1 w1 hw1 ht1 hd1 Q (hQ.le hle)
    · rename_i hne
      refine ihx hnr.1 (fun p hp => hs p (.inl hp)) (fun p hp => hrg p (.inl hp)) s _ s' h Φ a w hw ht hd _ (fun Ψ a1 w1 hle hw1 ht1 hd1 => ?_)
      have := hQ Ψ a1 w1 hle hw1 ht1 hd1
      cases ex with
      | normal => exact absurd h (hne s')
      | exit id => exact this
      | ret => exact this
  | cond c x y ihx ihy =>
    intro hnr hs hrg s ex s' h Φ a w hw ht hd Q hQ
    simp only [noRF, Bool.and_eq_true] at hnr
    simp only [loopsIn, List.mem_append] at hs
    simp only [regionsIn, List.mem_append] at hrg
    simp only [run] at h
    have hc := opnd_R hw.tab ht c
    split at h
    · rename_i heq
      rw [heq] at hc
      refine wpIn_cond_true (by generalize a.eval c = v at hc ⊢; cases hc; rfl) (ihx hnr.1 (fun p hp => hs p (.inl hp)) (fun p hp => hrg p (.inl hp)) s ex s' h Φ a w hw ht hd Q hQ)
    · rename_i heq
      rw [heq] at hc
      refine wpIn_cond_false (by generalize a.eval c = v at hc ⊢; cases hc; rfl) (ihy hnr.2 (fun p hp => hs p (.inr hp)) (fun p hp => hrg p (.inr hp)) s ex s' h Φ a w hw ht hd Q hQ)
    · cases h
  | block id c ih =>
    have gen : noRF c = true → (∀ p ∈ loopsIn c, p ∈ loopsIn code) → (∀ p ∈ regionsIn c, p ∈ regionsIn code) → ∀ s ex s', (match run E κ lp i c s with
        | some (.exit id', s') => if id' = id then some (Ex.normal, s') else some (.exit id', s')
        | r => r) = some (ex, s') → ∀ (Φ : Phi) (a : Act) (w : World), WR Φ s.heap w → VRs Φ s.tmps a.tmps.toList → a.defers = ds → ∀ Q, Post Q Φ ds ex.to s' → (Code.block id c).wpIn (rnd ro) nd P Q a w := by
      intro hnr hs hrg s ex s' h Φ a w hw ht hd Q hQ
      apply wpIn_block
      cases hr : run E κ lp i c s with
      | none => rw [hr] at h; cases h
      | some x =>
        obtain ⟨e1, s1⟩ := x
        refine ih hnr hs hrg s e1 s1 hr Φ a w hw ht hd _ (fun Ψ a1 w1 hle hw1 ht1 hd1 => ?_)
        rw [hr] at h
        cases e1 with
        | normal => cases h; exact hQ Ψ a1 w1 hle hw1 ht1 hd1
        | ret => cases h; exact hQ Ψ a1 w1 hle hw1 ht1 hd1
        | exit id' =>
          simp only at h
          simp only [Ex.to, Exit.inBlock]
          split at h
          · rename_i he; cases h; rw [if_pos he]; exact hQ Ψ a1 w1 hle hw1 ht1 hd1
          · rename_i he; cases h; rw [if_neg he]; exact hQ Ψ a1 w1 hle hw1 ht1 hd1
    intro hnr hs hrg
    simp only [regionsIn] at hrg
    cases c with
    | loop c =>
      intro s ex s' h Φ a w hw ht hd Q hQ
      simp only [run] at h
      apply wpIn_block
      exact (hl ro ds id c (hs _ (by simp [loopsIn])) (by simpa only [noRF] using hnr) [] _ ex s' h Φ a w (by rw [norm_heap]; exact hw) (norm_R ht) hd Q hQ).loop
    | rangeFunc f ps x y =>
      simp [noRF] at hnr
    | skip => exact gen (by simpa only [noRF] using hnr) (by simpa only [loopsIn] using hs) hrg
    | region _ _ _ => exact gen (by simpa only [noRF] using hnr) (by simpa only [loopsIn] using hs) hrg
    | seq _ _ => exact gen (by simpa only [noRF] using hnr) (by simpa only [loopsIn] using hs) hrg
    | cond _ _ _ => exact gen (by simpa only [noRF] using hnr) (by simpa only [loopsIn] using hs) hrg
    | block _ _ => exact gen (by simpa only [noRF] using hnr) (by simpa only [loopsIn] using hs) hrg
    | exit _ => exact gen (by simpa only [noRF] using hnr) (by simpa only [loopsIn] using hs) hrg
    | scope _ => exact gen (by simpa only [noRF] using hnr) (by simpa only [loopsIn] using hs) hrg
    | label _ => exact gen (by simpa only [noRF] using hnr) (by simpa only [loopsIn] using hs) hrg
    | goto _ => exact gen (by simpa only [noRF] using hnr) (by simpa only [loopsIn] using hs) hrg
    | ret => exact gen (by simpa only [noRF] using hnr) (by simpa only [loopsIn] using hs) hrg
    | refuse _ => exact gen (by simpa only [noRF] using hnr) (by simpa only [loopsIn] using hs) hrg

end
end AM

/- LOOPS: their rounds. -/
namespace AM
open Go

section
variable {P : Program} {E : Env}

/-- fewer objects -/
def Phi.few (Φ : Phi) (m : Nat) : Phi := { Φ with N := m }

theorem Phi.le_few {Φ Ψ : Phi} {m : Nat} (h : Φ.le Ψ) (hm : Φ.N ≤ m) : Φ.le (Ψ.few m) :=
  ⟨h.M, h.F, h.φ, h.τ, hm, h.new, h.w0⟩

theorem VR.few {Φ : Phi} {m : Nat} {a : AV} {v : Value} (h : VR Φ a v) : VR (Φ.few m) (AM.cut m a) v :=
  h.cut (Φ := Φ) (Ψ := Φ.few m) (m := m) (fun _ _ _ h => h) (fun _ _ => rfl) (fun _ _ _ _ h => h) (Nat.le_refl _)
theorem VRs.few {Φ : Phi} {m : Nat} {as : List AV} {vs : List Value} (h : VRs Φ as vs) : VRs (Φ.few m) (as.map (AM.cut m)) vs :=
  h.cut (Φ := Φ) (Ψ := Φ.few m) (m := m) (fun _ _ _ h => h) (fun _ _ => rfl) (fun _ _ _ _ h => h) (Nat.le_refl _)

theorem cutHeap_get {m : Nat} {h : List Obj} {r : Nat} {ob : Obj} (hr : (cutHeap m h)[r]? = some ob) : r < m ∧ ∃ o, h[r]? = some o ∧ ob = cutObj m o := by
  unfold cutHeap at hr
  rw [List.getElem?_map] at hr
  cases hk : (h.take m)[r]? with
  | none => rw [hk] at hr; cases hr
  | some o =>
    rw [hk] at hr; cases hr
    rw [List.getElem?_take] at hk
    split at hk
    · exact ⟨‹_›, o, hk, rfl⟩
    · cases hk

theorem cutObj_blk {Φ : Phi} {m r : Nat} (o : Obj) : blk (Φ.few m) r (cutObj m o) = blk Φ r o := by
  cases o <;> rfl

theorem ObjR.few {Φ : Phi} {w : World} {m r : Nat} {o : Obj} (h : ObjR Φ w r o) : ObjR (Φ.few m) w r (cutObj m o) := by
  cases o with
  | cells cs => obtain ⟨vs, t, h1, h2, h3, h4⟩ := h; exact ⟨vs, t, h1, h2.few, h3, h4⟩
  | map es =>
    obtain ⟨es', c, h1, h2, h3, h4, h5⟩ := h
    refine ⟨es', c, h1, ?_, ?_, h4, h5⟩
    · have := h2.few (m := m); simpa [Function.comp_def] using this
    · have := h3.few (m := m); simpa [Function.comp_def] using this
  | tok xs e => exact h
  | dead => trivial

theorem WR.few {Φ : Phi} {h : List Obj} {w : World} (hw : WR Φ h w) {m : Nat} (hm : m ≤ Φ.N) : WR (Φ.few m) (cutHeap m h) w where
  len := by simp [cutHeap, Phi.few, hw.len, hm]
  mem := hw.mem
  frz := hw.frz
  obj := fun r ob hr => by
    obtain ⟨_, o, ho, rfl⟩ := cutHeap_get hr
    exact (hw.obj r o ho).few
  inj := fun r s x y b hr hs hx hy => by
    obtain ⟨_, x', hx', rfl⟩ := cutHeap_get hr
    obtain ⟨_, y', hy', rfl⟩ := cutHeap_get hs
    rw [cutObj_blk] at hx hy
    exact hw.inj r s x' y' b hx' hy' hx hy
  str := hw.str
  tab := hw.tab

theorem back_R {Φ Ψ : Phi} {i : Info} {id : Nat} {s : St} {w : World} {vs : List Value} (hle : Φ.le Ψ) (hw : WR Ψ s.heap w) (ht : VRs Ψ s.tmps vs) :
    ∃ Ω, Φ.le Ω ∧ WR Ω (back i id Φ.N s).heap w ∧ VRs Ω (back i id Φ.N s).tmps vs := by
  unfold back
  split
  · refine ⟨Ψ.few Φ.N, Phi.le_few hle (Nat.le_refl _), ?_, norm_R ?_⟩
    · rw [norm_heap]; exact hw.few hle.N
    · exact ht.few
  · exact ⟨Ψ, hle, by rw [norm_heap]; exact hw, norm_R ht⟩

theorem loop_sim (hE : EnvR P E) {κ : Kall} (hκ : CallR P κ) {g : Nat} {i : Info} {code : Code} (hg : infoOf E g = some (i, code)) (hn : ((loopsIn code).map (·.1)).Nodup) (hdr : DrawR P E κ i code) :
    ∀ n, LoopR P (lpN E κ g n) code := by
  intro n
  induction n with
  | zero => intro ro ds id c _ _ items s ex s' h; cases h
  | succ n ih =>
    intro ro ds id c hc hnr items s ex s' h Φ a w hw ht hd Q hQ
    simp only [lpN, hg] at h
    unfold loopStep at h
    have hf : findLoop id code = some (.loop c) := by rw [findLoop_eq, find_nodup hn (id, .loop c) hc]; rfl
    rw [hf] at h
    simp only at h
    have hsub : ∀ p ∈ loopsIn c, p ∈ loopsIn code := by
      have gen : ∀ code : Code, (id, Code.loop c) ∈ loopsIn code → ∀ p ∈ loopsIn c, p ∈ loopsIn code := by
        intro code
        induction code with
        | seq x y ihx ihy =>
          intro h p hp
          simp only [loopsIn, List.mem_append] at h ⊢
          exact h.imp (ihx · p hp) (ihy · p hp)
        | cond _ x y ihx ihy =>
          intro h p hp
          simp only [loopsIn, List.mem_append] at h ⊢
          exact h.imp (ihx · p hp) (ihy · p hp)
        | block id' c' ih =>
          intro h p hp
          cases c' with
          | loop c2 =>
            simp only [loopsIn, List.mem_cons] at h ih ⊢
            rcases h with h | h
            · cases h; exact .inr hp
            · exact .inr (ih h p hp)
          | rangeFunc f ps x y =>
            simp only [loopsIn, List.mem_cons] at h ih ⊢
            rcases h with h | h
            · cases h
            · exact .inr (ih h p hp)
          | _ => simp only [loopsIn] at h ih ⊢ <;> exact ih h p hp
        | loop c' ih => intro h p hp; simp only [loopsIn] at h ⊢; exact ih h p hp
        | scope c' ih => intro h p hp; simp only [loopsIn] at h ⊢; exact ih h p hp
        | rangeFunc f ps x y _ ih => intro h p hp; simp only [loopsIn] at h ⊢; exact ih h p hp
        | _ => intro h; simp [loopsIn] at h
      exact gen code hc
    have hsub2 : ∀ p ∈ regionsIn c, p ∈ regionsIn code := by
      have gen : ∀ code : Code, (id, Code.loop c) ∈ loopsIn code → ∀ p ∈ regionsIn c, p ∈ regionsIn code := by
        intro code
        induction code with
        | seq x y ihx ihy =>
          intro h p hp
          simp only [loopsIn, regionsIn, List.mem_append] at h ⊢
          exact h.imp (ihx · p hp) (ihy · p hp)
        | cond _ x y ihx ihy =>
          intro h p hp
          simp only [loopsIn, regionsIn, List.mem_append] at h ⊢
          exact h.imp (ihx · p hp) (ihy · p hp)
        | block id' c' ih =>
          intro h p hp
          simp only [regionsIn]
          cases c' with
          | loop c2 =>
            simp only [loopsIn, List.mem_cons] at h ih
            rcases h with h | h
            · cases h; simpa only [regionsIn] using hp
            · exact ih h p hp
          | rangeFunc f ps x y =>
            simp only [loopsIn, List.mem_cons] at h ih
            rcases h with h | h
            · cases h
            · exact ih h p hp
          | _ => exact ih (by simpa only [loopsIn] using h) p hp
        | loop c' ih => intro h p hp; simp only [loopsIn, regionsIn] at h ⊢; exact ih h p hp
        | scope c' ih => intro h p hp; simp only [loopsIn, regionsIn] at h ⊢; exact ih h p hp
        | rangeFunc f ps x y _ ih => intro h p hp; simp only [loopsIn, regionsIn, List.mem_append] at h ⊢; exact .inr (ih h p hp)
        | _ => intro h; simp [loopsIn] at h
      exact gen code hc
    apply LoopWp.step (nd := 0)
    cases hr : run E κ (lpN E κ g n) i c s with
    | none => rw [hr] at h; cases h
    | some x =>
      obtain ⟨e1, s1⟩ := x
      refine run_sim hE hκ ih hdr c hnr hsub hsub2 s e1 s1 hr Φ a w hw ht hd _ (fun Ψ a1 w1 hle hw1 ht1 hd1 => ?_)
      rw [hr] at h
      cases e1 with
      | normal =>
        simp only at h
        rw [hw.len] at h
        obtain ⟨Ω, o1, o2, o3⟩ := back_R (i := i) (id := id) hle hw1 ht1
        exact ih ro ds id c hc hnr [] _ ex s' h Ω a1 w1 o2 o3 hd1 Q (hQ.le o1)
      | ret => cases h; exact hQ Ψ a1 w1 hle hw1 ht1 hd1
      | exit id' =>
        simp only at h
        simp only [Ex.to, Exit.then, Exit.inBlock]
        split at h
        · rename_i he; cases h; rw [if_pos he]; exact hQ Ψ a1 w1 hle hw1 ht1 hd1
        · rename_i he; cases h; rw [if_neg he]; exact hQ Ψ a1 w1 hle hw1 ht1 hd1

end
end AM

/- CALLS: values that go in, values that come out. -/
namespace AM
open Go

theorem noref_cells {xs : List AV} (h : noref.go 0 xs = true) : ∀ c ∈ cellsOf xs, noref 0 c = true := by
  intro c hc
  simp only [cellsOf, List.mem_flatMap] at hc
  obtain ⟨x, hx, hcx⟩ := hc
  have h0 := (noref_go _ _).1 h x hx
  cases x <;> simp only [AV.cells, List.mem_singleton] at hcx <;> first | (subst hcx; exact h0) | (simp only [noref] at h0; exact (noref_go _ _).1 h0 c hcx)

section
variable {P : Program} {Φ Ω : Phi} {h : List Obj} {w : World}

/-- a slice of cells that can be written, as a list, where these cells may be handed on -/
theorem frozen_R (hw : WR Φ h w) {m : Nat} (hM : ∀ b o v, Φ.M b o = some v → Ω.M b o = some v) (hφ : ∀ r, r < m → Ω.φ r = Φ.φ r) (hτ : ∀ r n x, r < m → Φ.τ r n = some x → Ω.τ r n = some x) (hN : m ≤ Ω.N)
    {r off len cap e : Nat} {ag : Bool} (hS : ∀ cs, h[r]? = some (.cells cs) → ∀ o v, w.cell? ⟨Φ.φ r, o, none⟩ = some v → Ω.M (Φ.φ r) o = some v)
    {v : Value} (hv : VR Φ (.mslice r off len cap e ag) v) {xs : List AV} {e' : Nat} (he : elems h (.mslice r off len cap e ag) = some (xs, e')) : VR Ω (.slice xs e' .none) v := by
  have hcs : ∃ cs, h[r]? = some (.cells cs) := by
    unfold elems at he
    simp only at he
    split at he
    · exact ⟨_, ‹_›⟩
    · cases he
  obtain ⟨cs, hcs⟩ := hcs
  rcases elems_sim hw hv he with ⟨h0, A, hx⟩ | ⟨b, off', cap', vs, hx, hc, L⟩
  · subst hx; subst h0
    cases A with
    | none => cases hv
    | some a => exact .sodd _ _
  · subst hx
    generalize hl : xs.length = ln at hv
    cases hv with
    | mslice _ _ _ _ _ _ hr hcap =>
    subst hl
    refine .slice xs e' .none _ _ _ vs hc L.sz L.z L.R.1 (fun k v hk => hS cs hcs _ v (L.c k v hk)) (fun k c v hc hv => ?_) L.p L.o trivial
    exact (L.R.2 k c v hc hv).down hM hφ hτ hN (.inr (noref_cells L.p c (List.mem_of_getElem? hc)))

theorem freezeA_R (hw : WR Φ h w) (hM : ∀ b o v, Φ.M b o = some v → Ω.M b o = some v) {a : AV} {v : Value} (hv : VR Φ a v)
    (hS : ∀ r off len cap e ag, a = .mslice r off len cap e ag → ∀ cs, h[r]? = some (.cells cs) → ∀ o v, w.cell? ⟨Φ.φ r, o, none⟩ = some v → Ω.M (Φ.φ r) o = some v) : VR Ω (freezeA h a) v := by
  unfold freezeA
  split
  · rename_i r off len cap e ag
    split
    · rename_i xs e' he
      exact frozen_R (m := 0) hw hM (fun r h => absurd h (Nat.not_lt_zero r)) (fun r n x h => absurd h (Nat.not_lt_zero r)) (Nat.zero_le _) (hS r off len cap e ag rfl) hv he
    · exact .undef _
  · exact hv.cut hM (fun r h => absurd h (Nat.not_lt_zero r)) (fun r n x h => absurd h (Nat.not_lt_zero r)) (Nat.zero_le _)

theorem freeze_go (h : List Obj) (m : Nat) (cs : List AV) : freeze.go h m cs = cs.map (freeze h m) := by
  induction cs with
  | nil => rfl
  | cons c cs ih => simp [freeze.go, ih]

theorem freeze_R (hw : WR Φ h w) {m : Nat} (hM : ∀ b o v, Φ.M b o = some v → Ω.M b o = some v) (hφ : ∀ r, r < m → Ω.φ r = Φ.φ r) (hτ : ∀ r n x, r < m → Φ.τ r n = some x → Ω.τ r n = some x) (hN : m ≤ Ω.N)
    (hS : ∀ r cs, m ≤ r → h[r]? = some (.cells cs) → ∀ o v, w.cell? ⟨Φ.φ r, o, none⟩ = some v → Ω.M (Φ.φ r) o = some v) {a : AV} {v : Value} (r : VR Φ a v) : VR Ω (freeze h m a) v := by
  have dn : ∀ {a v}, VR Φ a v → noref m a = true → VR Ω a v := fun h hn => h.down hM hφ hτ hN (.inl hn)
  have one : ∀ {a v}, VR Φ a v → VR Ω (if noref m a = true then a else .undef) v := by
    intro a v h
    split
    · exact dn h ‹_›
    · exact .undef v
  induction r with
  | undef v => simpa only [AM.freeze] using one (VR.undef v)
  | bool b => simpa only [AM.freeze] using one (VR.bool b)
  | int k n => simpa only [AM.freeze] using one (VR.int k n)
  | str s => simpa only [AM.freeze] using one (VR.str s)
  | nilptr => simpa only [AM.freeze] using one VR.nilptr
  | ptr r o hr => simpa only [AM.freeze] using one (VR.ptr r o hr)
  | vptr cs o b off vs hl hm hv hp ih => simpa only [AM.freeze] using one (VR.vptr cs o b off vs hl hm hv hp)
  | sodd e a => simpa only [AM.freeze] using one (VR.sodd e a)
  | snil e t ht =>
    have h := VR.snil e t ht
    cases t with
    | none => simpa only [AM.freeze] using one h
    | exact => simpa only [AM.freeze] using one h
    | «at» r =>
      simp only [AM.freeze]
      split
      · exact dn h (by simpa only [noref] using ‹_›)
      · exact dn h.tokNone rfl
  | slice xs e t b off cap vs hc he hz hl hm hv hp h1 ht ih =>
    have h := VR.slice xs e t b off cap vs hc he hz hl hm hv hp h1 ht
    cases t with
    | none => simpa only [AM.freeze] using one h
    | exact => simpa only [AM.freeze] using one h
    | «at» r =>
      simp only [AM.freeze]
      split
      · exact dn h (by simpa only [noref] using ‹_›)
      · exact dn h.tokNone rfl
  | mslice r off len cap e agg hr hc =>
    have hv := VR.mslice (Φ := Φ) r off len cap e agg hr hc
    simp only [AM.freeze]
    split
    · exact dn hv (by simpa only [noref] using ‹_›)
    · rename_i hlt
      split
      · rename_i xs e' he
        refine frozen_R hw hM hφ hτ hN (fun cs hcs => hS r cs ?_ hcs) hv he
        have : ¬ r < m := fun h => hlt (blt_true.2 h)
        omega
      · exact .undef _
  | nilmap => simpa only [AM.freeze] using one VR.nilmap
  | map r hr => simpa only [AM.freeze] using one (VR.map r hr)
  | nilfunc => simpa only [AM.freeze] using one VR.nilfunc
  | func fn as bs vs ws hl hv kl kv => simpa only [AM.freeze] using one (VR.func fn as bs vs ws hl hv kl kv)
  | agg as vs hl hv ih =>
    simp only [AM.freeze, freeze_go]
    refine .agg _ _ (by simpa using hl) (fun k a v ha hv => ?_)
    rw [List.getElem?_map] at ha
    cases hk : as[k]? with
    | none => rw [hk] at ha; cases ha
    | some c => rw [hk] at ha; cases ha; exact ih k c v hk hv
  | tuple as vs hl hv ih =>
    simp only [AM.freeze, freeze_go]
    refine .tuple _ _ (by simpa using hl) (fun k a v ha hv => ?_)
    rw [List.getElem?_map] at ha
    cases hk : as[k]? with
    | none => rw [hk] at ha; cases ha
    | some c => rw [hk] at ha; cases ha; exact ih k c v hk hv
  | niliface => simpa only [AM.freeze] using one VR.niliface
  | iface t v => simpa only [AM.freeze] using one (VR.iface t v)

theorem killed_spec : ∀ (args : List AV) (h : List Obj), (killed args h).length = h.length ∧ ∀ (r : Nat) ob, (killed args h)[r]? = some ob → ob = .dead ∨ (h[r]? = some ob ∧ ∀ off len cap e ag, AV.mslice r off len cap e ag ∉ args) := by
  intro args
  induction args with
  | nil => intro h; exact ⟨rfl, fun r ob hr => .inr ⟨hr, fun _ _ _ _ _ hm => by cases hm⟩⟩
  | cons a args ih =>
    intro h
    have other : killed (a :: args) h = killed args h → (∀ r off len cap e ag, a ≠ .mslice r off len cap e ag) → (killed (a :: args) h).length = h.length ∧ ∀ (r : Nat) ob, (killed (a :: args) h)[r]? = some ob → ob = .dead ∨ (h[r]? = some ob ∧ ∀ off len cap e ag, AV.mslice r off len cap e ag ∉ a :: args) := by
      intro he hne
      rw [he]
      refine ⟨(ih h).1, fun r ob hr => ?_⟩
      rcases (ih h).2 r ob hr with h1 | ⟨h1, h2⟩
      · exact .inl h1
      · refine .inr ⟨h1, fun off len cap e ag hm => ?_⟩
        cases hm with
        | head => exact hne _ _ _ _ _ _ rfl
        | tail _ hm => exact h2 _ _ _ _ _ hm
    cases a with
    | mslice r0 off0 len0 cap0 e0 ag0 =>
      rw [killed]
      obtain ⟨i1, i2⟩ := ih (h.set r0 .dead)
      refine ⟨by rw [i1]; simp, fun r ob hr => ?_⟩
      rcases i2 r ob hr with h1 | ⟨h1, h2⟩
      · exact .inl h1
      · rw [List.getElem?_set] at h1
        split at h1
        · split at h1
          · cases h1; exact .inl rfl
          · cases h1
        · rename_i hne
          refine .inr ⟨h1, fun off len cap e ag hm => ?_⟩
          cases hm with
          | head => exact hne rfl
          | tail _ hm => exact h2 _ _ _ _ _ hm
    | _ => exact other rfl (fun _ _ _ _ _ _ h => by cases h)

/-- objects that are no more -/
theorem WR.less (hw : WR Φ h w) {h' : List Obj} (hl : h'.length = h.length) (hk : ∀ (r : Nat) ob, h'[r]? = some ob → ob = .dead ∨ h[r]? = some ob) : WR Φ h' w where
  len := hl.trans hw.len
  mem := hw.mem
  frz := hw.frz
  obj := fun r ob hr => by
    rcases hk r ob hr with rfl | h1
    · trivial
    · exact hw.obj r ob h1
  inj := fun r s x y b hr hs hx hy => by
    rcases hk r x hr with rfl | h1
    · cases hx
    · rcases hk s y hs with rfl | h2
      · cases hy
      · exact hw.inj r s x y b h1 h2 hx hy
  str := hw.str
  tab := hw.tab

/-- blocks that no object is in may be handed on -/
theorem WR.shared (hw : WR Φ h w) (S : Nat → Prop) (hS : ∀ (r : Nat) ob b, h[r]? = some ob → blk Φ r ob = some b → ¬ S b) (hF : ∀ b, S b → Φ.F b = none) : WR (Φ.share S w Φ.N) h w := by
  refine hw.same (Phi.le_share hF (Nat.le_refl _)) rfl (fun _ _ => rfl) (fun _ _ => rfl) (fun b o v hv => ?_) ⟨rfl, rfl, rfl⟩
  rcases Phi.share_inv hv with h1 | ⟨_, h2, h3⟩
  · exact .inl h1
  · exact .inr ⟨h3, fun r ob hr hb => hS r ob b hr hb h2⟩

/-- the blocks of a call's arguments that can be written -/
def given (Φ : Phi) (h : List Obj) (args : List AV) (b : Nat) : Prop :=
  ∃ r off len cap e ag cs, AV.mslice r off len cap e ag ∈ args ∧ h[r]? = some (.cells cs) ∧ b = Φ.φ r

/-- a call's arguments: what can be written goes over as it is -/
theorem args_R (hw : WR Φ h w) {args : List AV} {vs : List Value} (ha : VRs Φ args vs) :
    ∃ Φ1, Φ.le Φ1 ∧ Φ1.N = Φ.N ∧ WR Φ1 (killed args h) w ∧ (∀ Ω : Phi, (∀ b o v, Φ1.M b o = some v → Ω.M b o = some v) → VRs Ω (args.map (freezeA h)) vs) := by
  have hF : ∀ b, given Φ h args b → Φ.F b = none := by
    rintro b ⟨r, off, len, cap, e, ag, cs, _, hr, rfl⟩
    exact (hw.obj r _ hr).F rfl
  obtain ⟨k1, k2⟩ := killed_spec args h
  have hless := hw.less (h' := killed args h) k1 (fun r ob hr => (k2 r ob hr).imp id (·.1))
  refine ⟨Φ.share (given Φ h args) w Φ.N, Phi.le_share hF (Nat.le_refl _), rfl, hless.shared _ (fun r ob b hr hb => ?_) hF, fun Ω hM => ?_⟩
  · rintro ⟨r', off, len, cap, e, ag, cs, hm, hr', rfl⟩
    rcases k2 r ob hr with rfl | ⟨h1, h2⟩
    · cases hb
    · have : r = r' := hw.inj r r' ob _ _ h1 hr' hb rfl
      subst this
      exact h2 _ _ _ _ _ hm
  · refine ⟨by simpa using ha.1, fun k a v hk hv => ?_⟩
    rw [List.getElem?_map] at hk
    cases hx : args[k]? with
    | none => rw [hx] at hk; cases hk
    | some x =>
      rw [hx] at hk; cases hk
      refine freezeA_R hw (fun b o v h => hM b o v (Phi.share_M h)) (ha.2 k x v hx hv) (fun r off len cap e ag he cs hcs o u hu => ?_)
      refine hM _ _ _ (Phi.share_S ⟨r, off, len, cap, e, ag, cs, he ▸ List.mem_of_getElem? hx, hcs, rfl⟩ hu (fun u' hu' => ?_))
      have := hw.mem _ _ _ hu'
      rw [hu] at this; cases this; rfl

end
end AM

/- THE RECORDS OF LOOPS OVER FUNCTIONS: they lie as they lay, whatever the machine does. -/
namespace AM
open Go

def isBook : Go.Obj → Bool
  | .loop _ | .deferred _ => true
  | _ => false

/-- such blocks lie as they lay -/
def Kept (w w' : World) : Prop := ∀ (b : Nat) (o : Go.Obj), w.heap[b]? = some o → isBook o = true → w'.heap[b]? = some o

theorem Kept.refl (w : World) : Kept w w := fun _ _ h _ => h
theorem Kept.trans {w₁ w₂ w₃ : World} (h : Kept w₁ w₂) (k : Kept w₂ w₃) : Kept w₁ w₃ := fun b o hb ho => k b o (h b o hb ho) ho

def bookF (F : Nat → Option Go.Obj) (w : World) (b : Nat) : Option Go.Obj :=
  match w.heap[b]? with
  | some o => if isBook o then some o else F b
  | none => F b

theorem bookF_none {F : Nat → Option Go.Obj} {w : World} {b : Nat} (h : bookF F w b = none) : F b = none := by
  unfold bookF at h
  split at h
  · split at h
    · cases h
    · exact h
  · exact h

theorem bookF_plain {F : Nat → Option Go.Obj} {w : World} {b : Nat} {o : Go.Obj} (h : w.heap[b]? = some o) (ho : isBook o = false) : bookF F w b = F b := by
  unfold bookF
  rw [h]
  simp [ho]

theorem bookF_book {F : Nat → Option Go.Obj} {w : World} {b : Nat} {o : Go.Obj} (h : w.heap[b]? = some o) (ho : isBook o = true) : bookF F w b = some o := by
  unfold bookF
  rw [h]
  simp [ho]

theorem TokR.reF {Φ : Phi} (F : Nat → Option Go.Obj) {t : Tok} {n : Nat} {a : Option Addr} {cap : Nat} (ht : TokR Φ t n a cap) : TokR { Φ with F := F } t n a cap := by
  cases t with
  | none => trivial
  | exact => exact ht
  | «at» r => exact ht

theorem VR.reF {Φ : Phi} (F : Nat → Option Go.Obj) {a : AV} {v : Value} (r : VR Φ a v) : VR { Φ with F := F } a v := by
  induction r with
  | undef v => exact .undef v
  | bool b => exact .bool b
  | int k n => exact .int k n
  | str s => exact .str s
  | nilptr => exact .nilptr
  | ptr r o hr => exact .ptr (Φ := { Φ with F := F }) r o hr
  | vptr cs o b off vs hl hm hv hp ih => exact .vptr cs o b off vs hl hm ih hp
  | snil e t ht => exact .snil e t (ht.reF F)
  | sodd e a => exact .sodd e a
  | slice xs e t b off cap vs hc he hz hl hm hv hp h1 ht ih => exact .slice xs e t b off cap vs hc he hz hl hm ih hp h1 (ht.reF F)
  | mslice r off len cap e agg hr hc => exact .mslice (Φ := { Φ with F := F }) r off len cap e agg hr hc
  | nilmap => exact .nilmap
  | map r hr => exact .map (Φ := { Φ with F := F }) r hr
  | nilfunc => exact .nilfunc
  | func fn as bs vs ws hl hv kl kv ih1 ih2 => exact .func fn as bs vs ws hl ih1 kl ih2
  | agg as vs hl hv ih => exact .agg as vs hl ih
  | tuple as vs hl hv ih => exact .tuple as vs hl ih
  | niliface => exact .niliface
  | iface t v => exact .iface t v

theorem VRs.reF {Φ : Phi} (F : Nat → Option Go.Obj) {as : List AV} {vs : List Value} (r : VRs Φ as vs) : VRs { Φ with F := F } as vs := ⟨r.1, fun k a v ha hv => (r.2 k a v ha hv).reF F⟩

theorem ObjR.reF {Φ : Phi} {F : Nat → Option Go.Obj} {w : World} {r : Nat} {ob : Obj} (h : ObjR Φ w r ob) (hF : ∀ b o, w.heap[b]? = some o → isBook o = false → Φ.F b = none → F b = none) : ObjR { Φ with F := F } w r ob := by
  cases ob with
  | cells cs => obtain ⟨vs, t, h1, h2, h3, h4⟩ := h; exact ⟨vs, t, h1, h2.reF F, h3, hF _ _ h1 rfl h4⟩
  | map es => obtain ⟨es', c, h1, h2, h3, h4, h5⟩ := h; exact ⟨es', c, h1, h2.reF F, h3.reF F, h4, hF _ _ h1 rfl h5⟩
  | tok xs e =>
    obtain ⟨a, cap, h1, h2, h3, h4, h5⟩ := h
    refine ⟨a, cap, h1, h2, h3, h4, fun hlt => ?_⟩
    obtain ⟨b, k1, ⟨vs, t, k2, k3⟩, k4, k5⟩ := h5 hlt
    exact ⟨b, k1, ⟨vs, t, k2, k3⟩, k4, hF _ _ k2 rfl k5⟩
  | dead => trivial

theorem WR.reF {Φ : Phi} {F : Nat → Option Go.Obj} {h : List Obj} {w : World} (hw : WR Φ h w) (hF : ∀ b o, w.heap[b]? = some o → isBook o = false → Φ.F b = none → F b = none)
    (hfrz : ∀ b ob, F b = some ob → w.heap[b]? = some ob) : WR { Φ with F := F } h w where
  len := hw.len
  mem := hw.mem
  frz := hfrz
  obj := fun r ob hr => (hw.obj r ob hr).reF hF
  inj := fun r s x y b hr hs hx hy => hw.inj r s x y b hr hs (by cases x <;> exact hx) (by cases y <;> exact hy)
  str := hw.str
  tab := hw.tab

/-- the records are taken for what stays -/
def Phi.book (Φ : Phi) (w : World) : Phi := { Φ with F := bookF Φ.F w }

theorem WR.book {Φ : Phi} {h : List Obj} {w : World} (hw : WR Φ h w) : WR (Φ.book w) h w :=
  hw.reF (fun b o hb ho hn => by rw [bookF_plain hb ho]; exact hn) (fun b ob hb => by
    unfold bookF at hb
    split at hb
    · rename_i o ho
      split at hb
      · cases hb; exact ho
      · exact hw.frz b ob hb
    · exact hw.frz b ob hb)

theorem unbook {Φ Ψ : Phi} {h h' : List Obj} {w w' : World} (hw : WR Φ h w) (hle : (Φ.book w).le Ψ) (hw' : WR Ψ h' w') :
    Φ.le { Ψ with F := Φ.F } ∧ WR { Ψ with F := Φ.F } h' w' ∧ Kept w w' := by
  have hF : ∀ b, Ψ.F b = bookF Φ.F w b := fun b => by rw [hle.F]; rfl
  have hfix : ∀ b ob, Φ.F b = some ob → bookF Φ.F w b = some ob := by
    intro b ob hb
    have := hw.frz b ob hb
    unfold bookF
    rw [this]
    simp only
    split
    · rfl
    · exact hb
  refine ⟨⟨hle.M, rfl, hle.φ, hle.τ, hle.N, fun b o h1 h2 => bookF_none (hle.new b o h1 h2), hle.w0⟩, hw'.reF (fun b o _ _ hn => bookF_none ((hF b) ▸ hn)) (fun b ob hb => hw'.frz b ob (by rw [hF]; exact hfix b ob hb)), fun b o hb ho => hw'.frz b o (by rw [hF]; exact bookF_book hb ho)⟩

section
variable {P : Program} {E : Env} {ro : Option Nat} {nd : Nat} {ds : List Deferred}

/-- a run keeps the records -/
theorem run_simK (hE : EnvR P E) {κ : Kall} (hκ : CallR P κ) {lp : Lp} {i : Info} {code : Code} (hl : LoopR P lp code) (hdr : DrawR P E κ i code) {c : Code} (hnr : noRF c = true) (hs : ∀ p ∈ loopsIn c, p ∈ loopsIn code) (hrg : ∀ p ∈ regionsIn c, p ∈ regionsIn code)
    {s : St} {ex : Ex} {s' : St} (h : run E κ lp i c s = some (ex, s')) {Φ : Phi} {a : Act} {w : World} (hw : WR Φ s.heap w) (ht : VRs Φ s.tmps a.tmps.toList) (hd : a.defers = ds) {Q : Exit → Act → World → Prop}
    (hQ : ∀ (Ψ : Phi) (a' : Act) (w' : World), Φ.le Ψ → WR Ψ s'.heap w' → VRs Ψ s'.tmps a'.tmps.toList → a'.defers = ds → Kept w w' → Q ex.to a' w') : c.wpIn (rnd ro) nd P Q a w := by
  refine run_sim hE hκ hl hdr c hnr hs hrg s ex s' h (Φ.book w) a w hw.book (ht.reF _) hd Q (fun Ψ a' w' l1 l2 l3 l4 => ?_)
  obtain ⟨k1, k2, k3⟩ := unbook hw l1 l2
  exact hQ _ a' w' k1 k2 (l3.reF _) l4 k3

end
end AM

/- LOOPS OVER FUNCTIONS. -/
namespace AM
open Go

/-- WHAT A FUNCTION THAT IS RANGED OVER DOES: as many rounds as it says at its beginning; what it hands over it reads in each round. -/
def IterR1 (P : Program) (E : Env) (gf : Nat) (cap : List AV) (h0 : List Obj) (l0 : List (List AV)) : Prop := Enters P gf ∧
  ∀ (Φ : Phi) (w : World) (cap' : Array Value), WR Φ h0 w → VRs Φ cap cap'.toList → ∀ (lb : Nat) (J : Nat → List Obj → Phi → World → Prop) (J' : Nat → List AV → List Obj → Phi → World → Prop) (Jx : World → Prop),
    (∀ r h Ψ W, J r h Ψ W → Φ.le Ψ ∧ WR Ψ h W ∧ (∀ q, r = q + 1 → ∃ l, E.iter gf cap h = some l ∧ q < l.length) ∧ (r = 0 → E.fin gf cap h = true)) →
    (∀ r h Ψ W Ψ' W', J r h Ψ W → Ψ.le Ψ' → WR Ψ' h W' → Kept W W' → J r h Ψ' W') →
    (∀ r x h Ψ W, J' r x h Ψ W → Φ.le Ψ ∧ WR Ψ h W ∧ ∃ h2, E.post gf cap x h = some h2) →
    (∀ r x h Ψ W h2 Ψ' W', J' r x h Ψ W → E.post gf cap x h = some h2 → Ψ.le Ψ' → WR Ψ' h2 W' → Kept W W' → ∃ h3 Ω, J r h3 Ω W') →
    (∀ r h Ψ W l x (args' : Array Value), J (r + 1) h Ψ W → E.iter gf cap h = some l → l[r]? = some x → VRs Ψ x args'.toList →
      YieldAt (rnd none) 0 P lb args' W (fun e W' => (e = .returned (.bool true) ∧ ∃ h' Ψ', J' r x h' Ψ' W') ∨ (e = .returned (.bool false) ∧ Jx W'))) →
    ∀ h Ψ W, J l0.length h Ψ W → (∃ l, E.iter gf cap h = some l ∧ l.length = l0.length) →
    CallsIn (rnd none) 0 P gf (#[.func (.yield lb) #[] #[]] ++ cap') W (fun e W' => (∃ v, e = .returned v) ∧ ((∃ h Ψ, J 0 h Ψ W') ∨ Jx W'))

def IterR (P : Program) (E : Env) : Prop := ∀ gf cap h0 l0, E.iter gf cap h0 = some l0 → IterR1 P E gf cap h0 l0

def marks (Ds : List Nat) : List Deferred := Ds.map fun D => { target := .collected D, args := #[] }

/-- the marks of loops that are over -/
def DefOk (F : Nat → Option Go.Obj) (ds : List Deferred) (w : World) : Prop := ∃ Ds : List Nat, ds = marks Ds ∧ Ds.Nodup ∧ ∀ D ∈ Ds, w.heap[D]? = some (.deferred (some [])) ∧ F D = none

theorem DefOk.kept {F : Nat → Option Go.Obj} {ds : List Deferred} {w w' : World} (h : DefOk F ds w) (hk : Kept w w') : DefOk F ds w' := by
  obtain ⟨Ds, h1, h2, h3⟩ := h
  exact ⟨Ds, h1, h2, fun D hD => ⟨hk _ _ (h3 D hD).1 rfl, (h3 D hD).2⟩⟩

def PostM (Q : Exit → Act → World → Prop) (Φ : Phi) (e : Exit) (s : St) : Prop :=
  ∀ (Ψ : Phi) (a' : Act) (w' : World), Φ.le Ψ → WR Ψ s.heap w' → VRs Ψ s.tmps a'.tmps.toList → DefOk Ψ.F a'.defers w' → Q e a' w'

theorem PostM.le {Q : Exit → Act → World → Prop} {Φ Ψ : Phi} {e : Exit} {s : St} (h : PostM Q Φ e s) (hle : Φ.le Ψ) : PostM Q Ψ e s :=
  fun Ω a' w' h1 h2 h3 h4 => h Ω a' w' (hle.trans h1) h2 h3 h4

/-- an assignment to a loop's variables -/
def straight : Code → Bool
  | .skip | .label _ | .region .. => true
  | .seq a b => straight a && straight b
  | _ => false

section
variable {P : Program} {E : Env}

theorem straight_run {κ : Kall} {lp : Lp} {i : Info} : ∀ {c : Code}, straight c = true → ∀ {s : St} {ex : Ex} {s' : St}, run E κ lp i c s = some (ex, s') → ex = .normal := by
  intro c
  induction c with
  | skip => intro _ s ex s' h; cases h; rfl
  | label l => intro _ s ex s' h; cases h; rfl
  | region id ops d => intro _ s ex s' h; exact (run_region h).1
  | seq a b iha ihb =>
    intro hst s ex s' h
    simp only [straight, Bool.and_eq_true] at hst
    simp only [run] at h
    split at h
    · exact ihb hst.2 h
    · rename_i hne
      have := iha hst.1 h
      subst this
      exact absurd h (hne s')
  | cond _ _ _ => intro h; cases h
  | block _ _ => intro h; cases h
  | loop _ => intro h; cases h
  | rangeFunc _ _ _ _ => intro h; cases h
  | exit _ => intro h; cases h
  | scope _ => intro h; cases h
  | goto _ => intro h; cases h
  | ret => intro h; cases h
  | refuse _ => intro h; cases h

theorem setAll_R {Φ : Phi} : ∀ (ps : List Nat) (xs : List AV) (vs : List Value) (t : List AV) (u : Array Value), xs.length = ps.length → VRs Φ xs vs → VRs Φ t u.toList →
    VRs Φ (setAll ps xs t) ((ps.zip vs).foldl (fun t (p, v) => t.setIfInBounds p v) u).toList := by
  intro ps
  induction ps with
  | nil => intro xs vs t u _ _ ht; cases xs <;> exact ht
  | cons p ps ih =>
    intro xs vs t u hl hx ht
    cases xs with
    | nil => simp at hl
    | cons x xs =>
      obtain ⟨v, us, rfl, h1, h2⟩ := hx.inv_cons
      simp only [setAll, List.zip_cons_cons, List.foldl_cons]
      exact ih xs us _ _ (by simpa using hl) h2 (by rw [Array.toList_setIfInBounds]; exact ht.set p h1)

theorem zip_foldl {ps : Array Nat} {args : Array Value} {u : Array Value} : (ps.zip args).foldl (fun t (p, v) => t.setIfInBounds p v) u = (ps.toList.zip args.toList).foldl (fun t (p, v) => t.setIfInBounds p v) u := by
  rw [← Array.foldl_toList, Array.toList_zip]

/-- a record turns -/
theorem WR.putObj {Φ : Phi} {h : List Obj} {w : World} (hw : WR Φ h w) {l : Nat} {o o' : Go.Obj} (hl : w.heap[l]? = some o) (ho : isBook o = true) (hF : Φ.F l = none) : WR Φ h (w.putObj l o') := by
  refine hw.same (.refl Φ) rfl (fun _ _ => rfl) (fun b hb => ?_) (fun b o v hm => .inl hm) ⟨rfl, rfl, rfl⟩
  refine World.putObj_heap_other (fun e => ?_)
  subst e
  rcases hb with ⟨k, v, hm⟩ | ⟨ob, hm⟩ | ⟨r, ob, hr, hk⟩
  · have := hw.mem _ _ _ hm
    cases o <;> simp [World.cell?, hl] at this <;> cases ho
  · rw [hF] at hm; cases hm
  · have hne : ∀ vs t z, o ≠ .cells vs t z := by intro vs t z e; subst e; cases ho
    have hno : ∀ es c, o ≠ .map es c := by intro es c e; subst e; cases ho
    have hR := hw.obj r ob hr
    cases ob with
    | cells cs =>
      obtain ⟨vs, t, h1, _⟩ := hR
      simp only [blk, Option.some.injEq] at hk
      rw [hk, hl] at h1; cases h1; exact hne _ _ _ rfl
    | map es =>
      obtain ⟨es', c, h1, _⟩ := hR
      simp only [blk, Option.some.injEq] at hk
      rw [hk, hl] at h1; cases h1; exact hno _ _ rfl
    | tok xs e =>
      obtain ⟨a, cap, h1, _, _, _, h5⟩ := hR
      simp only [blk, h1, Option.bind_some] at hk
      split at hk
      · rename_i hlt
        obtain ⟨b', rfl, ⟨vs, t, k2, _⟩, _⟩ := h5 hlt
        simp only [Option.map_some, Option.some.injEq] at hk
        rw [hk, hl] at k2; cases k2; exact hne _ _ _ rfl
      · cases hk
    | dead => cases hk

/-- a record is laid -/
theorem WR.allocBook {Φ : Phi} {h : List Obj} {w : World} (hw : WR Φ h w) (o : Go.Obj) : WR Φ h (w.alloc o) := by
  refine hw.same (.refl Φ) rfl (fun _ _ => rfl) (fun b hb => ?_) (fun b o v hm => .inl hm) ⟨rfl, rfl, rfl⟩
  have := hw.held_lt hb
  show (w.heap.push o)[b]? = _
  rw [Array.getElem?_push, if_neg (by omega)]

theorem Kept.alloc (w : World) (o : Go.Obj) : Kept w (w.alloc o) := fun b o' hb _ => by
  have := (Array.getElem?_eq_some_iff.1 hb).1
  show (w.heap.push o)[b]? = _
  rw [Array.getElem?_push, if_neg (by omega)]; exact hb

theorem Kept.putObj {w W : World} {l : Nat} {o : Go.Obj} (h : Kept w W) (hl : w.heap.size ≤ l) : Kept w (W.putObj l o) := fun b o' hb ho => by
  have := (Array.getElem?_eq_some_iff.1 hb).1
  rw [World.putObj_heap_other (by omega)]
  exact h b o' hb ho

theorem backR_R {Φ Ψ : Phi} {i : Info} {s s' : St} {w : World} {vs : List Value} (hN : s.heap.length = Φ.N) (hle : Φ.le Ψ) (hw : WR Ψ s'.heap w) (ht : VRs Φ s.tmps vs) :
    ∃ Ω, Φ.le Ω ∧ WR Ω (backR i s s').heap w ∧ VRs Ω (backR i s s').tmps vs := by
  unfold backR
  split
  · refine ⟨Ψ.few Φ.N, Phi.le_few hle (Nat.le_refl _), ?_, ?_⟩
    · simp only [hN]; exact hw.few hle.N
    · simp only [hN]; exact (ht.mono hle).few
  · exact ⟨Ψ, hle, hw, ht.mono hle⟩

theorem opnd_cut {t : List AV} {m : Nat} {f : Operand} {v : AV} (h : opnd t f = v) (hv : noref m v = true ∨ v = .undef ∨ True) (hf : ∀ c, f ≠ .const c) :
    opnd (t.map (AM.cut m)) f = AM.cut m v := by
  subst h
  cases f with
  | tmp d =>
    simp only [opnd, List.getD_eq_getElem?_getD, List.getElem?_map]
    cases t[d]? with
    | none => rfl
    | some x => rfl
  | const c => exact absurd rfl (hf c)
  | global g =>
    simp only [opnd]
    split
    · rfl
    · simp [AM.cut, noref]
  | func g => rfl

end
end AM

/- LOOPS OVER FUNCTIONS: the law. -/
namespace AM
open Go

section
variable {P : Program} {E : Env}

theorem cut_func {m gf : Nat} {cap : List AV} : AM.cut m (.func (.func gf) [] cap) = .func (.func gf) [] cap ∨ AM.cut m (.func (.func gf) [] cap) = .undef := by
  simp only [AM.cut]
  split
  · exact .inl rfl
  · exact .inr rfl

theorem opnd_back {i : Info} {s s' : St} {f : Operand} {gf : Nat} {cap : List AV} (hf : opnd s.tmps f = .func (.func gf) [] cap ∨ opnd s.tmps f = .undef) (hc : ∀ c, f ≠ .const c) :
    opnd (backR i s s').tmps f = .func (.func gf) [] cap ∨ opnd (backR i s s').tmps f = .undef := by
  unfold backR
  split
  · simp only
    rcases hf with hf | hf
    · rw [opnd_cut hf (.inr (.inr trivial)) hc]; exact cut_func
    · rw [opnd_cut hf (.inr (.inr trivial)) hc]; exact .inr rfl
  · exact hf

/-- the law -/
theorem rf_sim (hE : EnvR P E) {κ : Kall} (hκ : CallR P κ) {g : Nat} {i : Info} {code : Code} (hg : infoOf E g = some (i, code)) (hn : ((loopsIn code).map (·.1)).Nodup) (hdr : DrawR P E κ i code) (hI : IterR P E)
    {id : Nat} {f : Operand} {ps : Array Nat} {x y : Code} (hmem : (id, Code.rangeFunc f ps x y) ∈ loopsIn code) (hx : straight x = true) (hxr : noRF x = true) (hyr : noRF y = true) (hfc : ∀ c, f ≠ .const c)
    (hlx : ∀ p ∈ loopsIn x, p ∈ loopsIn code) (hly : ∀ p ∈ loopsIn y, p ∈ loopsIn code) (hrx : ∀ p ∈ regionsIn x, p ∈ regionsIn code) (hry : ∀ p ∈ regionsIn y, p ∈ regionsIn code)
    {n : Nat} {s : St} {gf : Nat} {cap : List AV} {items : List (List AV)} (hf : opnd s.tmps f = .func (.func gf) [] cap) (hit : E.iter gf cap s.heap = some items) {ex : Ex} {s' : St} (hlp : lpN E κ g n id items s = some (ex, s'))
    {Φ : Phi} {a : Act} {w : World} (hw : WR Φ s.heap w) (ht : VRs Φ s.tmps a.tmps.toList) (hd : DefOk Φ.F a.defers w) {Q : Exit → Act → World → Prop} (hQ : PostM Q Φ ex.to s') :
    (Code.rangeFunc f ps x y).wpIn (rnd none) 0 P (Exit.inBlock id Q) a w := by
  have hfind : findLoop id code = some (.rangeFunc f ps x y) := by rw [findLoop_eq, find_nodup hn (id, .rangeFunc f ps x y) hmem]; rfl
  have hloop := loop_sim hE hκ hg hn hdr
  obtain ⟨hent, hiter⟩ := hI gf cap s.heap items hit
  have hfv := opnd_R hw.tab ht f
  rw [hf] at hfv
  obtain ⟨cap', he, hcap⟩ : ∃ ws, a.eval f = .func (.func gf) #[] ws ∧ VRs Φ cap ws.toList := by
    generalize a.eval f = z at hfv
    cases hfv with
    | func _ _ _ vs ws hl hv kl kv =>
      have : vs = #[] := by simpa using hl.symm
      subst this
      exact ⟨ws, rfl, kl, kv⟩
  refine wpIn_rangeFunc ?_
  intro fn hfn
  obtain ⟨rec, hrec⟩ : ∃ rec : LoopState → Option Code → Loop, rec = fun st pe => { state := st, pending := pe, fn, tmps := a.tmps, params := ps, assign := x, body := y, defers := w.heap.size } := ⟨_, rfl⟩
  obtain ⟨W1, hW1⟩ : ∃ W1, (w.alloc (.deferred (some []))).alloc (.loop (rec .ready none)) = W1 := ⟨_, rfl⟩
  have hL1 : W1.heap[w.heap.size + 1]? = some (.loop (rec .ready none)) := by
    rw [← hW1]; have := World.alloc_heap_new (w.alloc (.deferred (some []))) (.loop (rec .ready none)); rwa [World.size_alloc] at this
  have hK1 : W1.heap[w.heap.size]? = some (.deferred (some [])) := by
    rw [← hW1]; exact Kept.alloc _ _ _ _ (World.alloc_heap_new w _) rfl
  have hw1 : WR Φ s.heap W1 := by rw [← hW1]; exact (hw.allocBook _).allocBook _
  have hkept1 : Kept w W1 := by rw [← hW1]; exact (Kept.alloc _ _).trans (Kept.alloc _ _)
  have hFL : Φ.F (w.heap.size + 1) = none := by
    cases hc : Φ.F (w.heap.size + 1) with
    | none => rfl
    | some v => have := (Array.getElem?_eq_some_iff.1 (hw.frz _ _ hc)).1; omega
  -- what lies between two rounds
  let J : Nat → List Obj → Phi → World → Prop := fun r h Ψ W => ∃ (m : Nat) (sk : St) (xs : List (List AV)), sk.heap = h ∧ Φ.le Ψ ∧ WR Ψ h W ∧ VRs Ψ sk.tmps a.tmps.toList ∧ (opnd sk.tmps f = .func (.func gf) [] cap ∨ opnd sk.tmps f = .undef) ∧
    xs.length = r ∧ lpN E κ g m id xs sk = some (ex, s') ∧ W.heap[w.heap.size + 1]? = some (.loop (rec .ready none)) ∧ W.heap[w.heap.size]? = some (.deferred (some [])) ∧ Kept w W
  let J' : Nat → List AV → List Obj → Phi → World → Prop := fun r v h Ψ W => ∃ (m : Nat) (sk s1 : St) (ys : List (List AV)) (Ψk : Phi) (h2 : List Obj), s1.heap = h ∧ Φ.le Ψk ∧ Ψk.le Ψ ∧ sk.heap.length = Ψk.N ∧ VRs Ψk sk.tmps a.tmps.toList ∧
    (opnd sk.tmps f = .func (.func gf) [] cap ∨ opnd sk.tmps f = .undef) ∧ ys.length = r ∧ E.post gf cap v h = some h2 ∧ lpN E κ g m id ys (backR i sk { s1 with heap := h2 }) = some (ex, s') ∧ WR Ψ h W ∧
    W.heap[w.heap.size + 1]? = some (.loop (rec .ready none)) ∧ W.heap[w.heap.size]? = some (.deferred (some [])) ∧ Kept w W
  let Jx : World → Prop := fun W => ∃ (Ψ : Phi) (c : Code), Φ.le Ψ ∧ WR Ψ s'.heap W ∧ VRs Ψ s'.tmps a.tmps.toList ∧
    ((c = .exit id ∧ ex = .normal) ∨ (∃ id', id' ≠ id ∧ c = .exit id' ∧ ex = .exit id') ∨ (c = .ret ∧ ex = .ret)) ∧
    W.heap[w.heap.size + 1]? = some (.loop (rec .done (some c))) ∧ W.heap[w.heap.size]? = some (.deferred (some [])) ∧ Kept w W
  -- a round of the machine
  have step : ∀ {m : Nat} {xs : List (List AV)} {sk : St} {r : Nat}, lpN E κ g m id xs sk = some (ex, s') → xs.length = r + 1 → (opnd sk.tmps f = .func (.func gf) [] cap ∨ opnd sk.tmps f = .undef) →
      ∃ m' ys l v, opnd sk.tmps f = .func (.func gf) [] cap ∧ ys.length = r ∧ E.iter gf cap sk.heap = some l ∧ l[r]? = some v ∧ v.length = ps.size ∧
        ∃ e1 s1, run E κ (lpN E κ g m') i (.seq x y) { sk with tmps := setAll ps.toList v sk.tmps } = some (e1, s1) ∧
          ((e1 = .normal ∧ ∃ h2, E.post gf cap v s1.heap = some h2 ∧ lpN E κ g m' id ys (backR i sk { s1 with heap := h2 }) = some (ex, s')) ∨ (∃ id', e1 = .exit id' ∧ s' = { sk with heap := s1.heap } ∧ ((id' = id ∧ ex = .normal) ∨ (id' ≠ id ∧ ex = .exit id'))) ∨ (e1 = .ret ∧ ex = .ret ∧ s' = { sk with heap := s1.heap })) := by
    intro m xs sk r h hl ho
    cases m with
    | zero => cases h
    | succ m' =>
      simp only [lpN, hg] at h
      unfold loopStep at h
      rw [hfind] at h
      simp only at h
      rcases ho with ho | ho
      · rw [ho] at h
        simp only at h
        cases xs with
        | nil => simp at hl
        | cons z ys =>
          have hys : ys.length = r := by simpa using hl
          simp only at h
          cases hl1 : E.iter gf cap sk.heap with
          | none => rw [hl1] at h; cases h
          | some l =>
            rw [hl1] at h
            simp only at h
            rw [hys] at h
            cases hv : l[r]? with
            | none => rw [hv] at h; cases h
            | some v =>
              rw [hv] at h
              simp only at h
              split at h
              · rename_i hvl
                refine ⟨m', ys, l, v, ho, hys, rfl, hv, hvl, ?_⟩
                cases hr : run E κ (lpN E κ g m') i (.seq x y) { sk with tmps := setAll ps.toList v sk.tmps } with
                | none => rw [hr] at h; cases h
                | some q =>
                  obtain ⟨e1, s1⟩ := q
                  rw [hr] at h
                  refine ⟨e1, s1, rfl, ?_⟩
                  cases e1 with
                  | normal =>
                    simp only at h
                    cases hp : E.post gf cap v s1.heap with
                    | none => rw [hp] at h; cases h
                    | some h2 => rw [hp] at h; exact .inl ⟨rfl, h2, rfl, h⟩
                  | exit id' =>
                    simp only at h
                    split at h
                    · rename_i hid; cases h; exact .inr (.inl ⟨id', rfl, rfl, .inl ⟨hid, rfl⟩⟩)
                    · rename_i hid; cases h; exact .inr (.inl ⟨id', rfl, rfl, .inr ⟨hid, rfl⟩⟩)
                  | ret => cases h; exact .inr (.inr ⟨rfl, rfl, rfl⟩)
              · cases h
      · rw [ho] at h; cases h
  -- the machine at its end
  have step0 : ∀ {m : Nat} {xs : List (List AV)} {sk : St}, lpN E κ g m id xs sk = some (ex, s') → xs.length = 0 → (opnd sk.tmps f = .func (.func gf) [] cap ∨ opnd sk.tmps f = .undef) → E.fin gf cap sk.heap = true ∧ ex = .normal ∧ s' = sk := by
    intro m xs sk h hl ho
    have hnil : xs = [] := by cases xs with | nil => rfl | cons _ _ => simp at hl
    subst hnil
    cases m with
    | zero => cases h
    | succ m' =>
      simp only [lpN, hg] at h
      unfold loopStep at h
      rw [hfind] at h
      simp only at h
      rcases ho with ho | ho
      · rw [ho] at h
        simp only at h
        cases hf : E.fin gf cap sk.heap with
        | true => rw [hf] at h; cases h; exact ⟨rfl, rfl, rfl⟩
        | false => rw [hf] at h; cases h
      · rw [ho] at h; cases h
  refine ⟨w.heap.size + 1, [{ target := .collected w.heap.size, args := #[] }], W1, { target := .fn (.func gf) cap', args := #[.func (.yield (w.heap.size + 1)) #[] #[]] }, W1, gf,
    #[.func (.yield (w.heap.size + 1)) #[] #[]] ++ cap', W1, ?_, ?_, ?_, ?_, fun h => by simp [rnd, Fence.wide] at h, ?_⟩
  · rw [← hW1, hrec]; exact run_enterLoop_outer _ _ _ _ _
  · simp only [resolve, he]
    simp [go_sem]
  · intro f' _; trivial
  · simp [invoke, go_sem, run_callFunc hent]
  · refine CallsIn.mono (hiter Φ w cap' hw hcap (w.heap.size + 1) J J' Jx ?_ ?_ ?_ ?_ ?_ s.heap Φ W1 ?_ ⟨items, hit, rfl⟩) ?_
    · rintro r h Ψ W ⟨m, sk, xs, rfl, h1, h2, h3, h4, h5, h6, h7, h8, h9⟩
      refine ⟨h1, h2, fun q hq => ?_, fun hq => (step0 h6 (by omega) h4).1⟩
      obtain ⟨m', ys, l, v, _, _, k1, k2, _⟩ := step h6 (by omega : xs.length = q + 1) h4
      exact ⟨l, k1, (List.getElem?_eq_some_iff.1 k2).1⟩
    · rintro r h Ψ W Ψ' W' ⟨m, sk, xs, rfl, h1, h2, h3, h4, h5, h6, h7, h8, h9⟩ hle hw' hk
      exact ⟨m, sk, xs, rfl, h1.trans hle, hw', h3.mono hle, h4, h5, h6, hk _ _ h7 rfl, hk _ _ h8 rfl, h9.trans hk⟩
    · rintro r v h Ψ W ⟨m, sk, s1, ys, Ψk, h2, rfl, k1, k2, k3, k4, k5, k6, k7, k8, k9, _⟩
      exact ⟨k1.trans k2, k9, h2, k7⟩
    · rintro r v h Ψ W h2 Ψ' W' ⟨m, sk, s1, ys, Ψk, h2', rfl, k1, k2, k3, k4, k5, k6, k7, k8, k9, k10, k11, k12⟩ hp hle hw' hk
      rw [k7] at hp; cases hp
      obtain ⟨Ω, o1, o2, o3⟩ := backR_R (i := i) (s := sk) (s' := { s1 with heap := h2 }) k3 (k2.trans hle) hw' k4
      exact ⟨_, Ω, m, _, ys, rfl, k1.trans o1, o2, o3, opnd_back k5 hfc, k6, k8, hk _ _ k10 rfl, hk _ _ k11 rfl, k12.trans hk⟩
    · rintro r h Ψ W l0 v args' ⟨m, sk, xs, rfl, h1, h2, h3, h4, h5, h6, hl, hk, hkw⟩ hit0 hv0 hav
      obtain ⟨m', ys, l, v0, ho, hys, k1, k2, k3, e1, s1, hrun, hend⟩ := step h6 h5 h4
      rw [k1] at hit0; cases hit0
      rw [k2] at hv0; cases hv0
      have hsz : args'.size = ps.size := by
        have := hav.1
        simp only [Array.length_toList] at this
        omega
      have hyld := run_yield (P := P) (args := args') hl (by rw [hrec]; exact hsz)
      rw [hrec] at hyld
      have hlt : w.heap.size + 1 < W.heap.size := (Array.getElem?_eq_some_iff.1 hl).1
      refine ⟨fn, _, x, y, hyld, roundIn_of_wpIn hfn ?_⟩
      -- the machine's round
      simp only [run] at hrun
      obtain ⟨s0, hx0, hy0⟩ : ∃ s0, run E κ (lpN E κ g m') i x { sk with tmps := setAll ps.toList v sk.tmps } = some (.normal, s0) ∧ run E κ (lpN E κ g m') i y s0 = some (e1, s1) := by
        split at hrun
        · rename_i s0 h0; exact ⟨s0, h0, hrun⟩
        · rename_i hne
          have := straight_run hx hrun
          subst this
          exact absurd hrun (hne s1)
      have hset : VRs Ψ (setAll ps.toList v sk.tmps) ((ps.zip args').foldl (fun t (p, u) => t.setIfInBounds p u) a.tmps).toList := by
        rw [zip_foldl]; exact setAll_R _ _ _ _ _ (by simpa using k3) hav h3
      refine run_simK (ro := some (w.heap.size + 1)) (nd := 0) (ds := []) hE hκ (hloop m') hdr hxr hlx hrx hx0 (Φ := Ψ) h2 hset rfl ?_
      intro Ψ1 a1 Wa l1 l2 l3 l4 l5
      have hFΨ : ∀ {Ω : Phi}, Φ.le Ω → Ω.F (w.heap.size + 1) = none := fun h => by rw [h.F]; exact hFL
      have hla := l5 _ _ hl rfl
      have hka := l5 _ _ hk rfl
      have hlta : w.heap.size + 1 < Wa.heap.size := (Array.getElem?_eq_some_iff.1 hla).1
      refine ⟨_, run_beginRound hla (by rw [hrec]), ?_⟩
      have hl2 : (Wa.putObj (w.heap.size + 1) (.loop { rec .ready none with state := .busy })).heap[w.heap.size + 1]? = some (.loop { rec .ready none with state := .busy }) := World.putObj_heap_same hlta
      have hk2 : (Wa.putObj (w.heap.size + 1) (.loop { rec .ready none with state := .busy })).heap[w.heap.size]? = some (.deferred (some [])) := (World.putObj_heap_other (by omega)).trans hka
      have hw2 : WR Ψ1 s0.heap (Wa.putObj (w.heap.size + 1) (.loop { rec .ready none with state := .busy })) := l2.putObj hla rfl (hFΨ (h1.trans l1))
      have hkw2 : Kept w (Wa.putObj (w.heap.size + 1) (.loop { rec .ready none with state := .busy })) := (hkw.trans l5).putObj (by omega)
      refine run_simK (ro := some (w.heap.size + 1)) (nd := 0) (ds := []) hE hκ (hloop m') hdr hyr hly hry hy0 (Φ := Ψ1) hw2 l3 l4 ?_
      intro Ψ2 a2 W3 n1 n2 n3 n4 n5
      have hl3 := n5 _ _ hl2 rfl
      have hk3 := n5 _ _ hk2 rfl
      have hlt3 : w.heap.size + 1 < W3.heap.size := (Array.getElem?_eq_some_iff.1 hl3).1
      have hle2 : Φ.le Ψ2 := (h1.trans l1).trans n1
      have fin : ∀ jump : Option Code,
          (Instr.endRound (w.heap.size + 1) jump).run P W3 = .ok (.bool jump.isNone) (W3.putObj (w.heap.size + 1) (.loop (rec (if jump.isNone then .ready else .done) jump))) ∧
          (W3.putObj (w.heap.size + 1) (.loop (rec (if jump.isNone then .ready else .done) jump))).heap[w.heap.size + 1]? = some (.loop (rec (if jump.isNone then .ready else .done) jump)) ∧
          (W3.putObj (w.heap.size + 1) (.loop (rec (if jump.isNone then .ready else .done) jump))).heap[w.heap.size]? = some (.deferred (some [])) ∧
          WR Ψ2 s1.heap (W3.putObj (w.heap.size + 1) (.loop (rec (if jump.isNone then .ready else .done) jump))) ∧
          Kept w (W3.putObj (w.heap.size + 1) (.loop (rec (if jump.isNone then .ready else .done) jump))) := fun jump => by
        have := run_endRound (P := P) jump hl3
        rw [hrec] at this ⊢
        exact ⟨this, World.putObj_heap_same hlt3, (World.putObj_heap_other (by omega)).trans hk3, n2.putObj hl3 rfl (hFΨ hle2), (hkw2.trans n5).putObj (by omega)⟩
      rcases hend with ⟨rfl, h2p, hpost, hnext⟩ | ⟨id', rfl, hs', hid⟩ | ⟨rfl, hret, hs'⟩
      · obtain ⟨q1, q2, q3, q4, q5⟩ := fin none
        exact ⟨_, _, q1, .inl ⟨rfl, s1.heap, Ψ2, m', sk, s1, ys, Ψ, h2p, rfl, h1, l1.trans n1, h2.len, h3, h4, hys, hpost, hnext, q4, q2, q3, q5⟩⟩
      · obtain ⟨q1, q2, q3, q4, q5⟩ := fin (some (.exit id'))
        refine ⟨_, _, q1, .inr ⟨rfl, Ψ2, .exit id', hle2, ?_, ?_, ?_, q2, q3, q5⟩⟩
        · rw [hs']; exact q4
        · rw [hs']; exact h3.mono (l1.trans n1)
        · rcases hid with ⟨rfl, rfl⟩ | ⟨hid, rfl⟩
          · exact .inl ⟨rfl, rfl⟩
          · exact .inr (.inl ⟨id', hid, rfl, rfl⟩)
      · obtain ⟨q1, q2, q3, q4, q5⟩ := fin (some .ret)
        refine ⟨_, _, q1, .inr ⟨rfl, Ψ2, .ret, hle2, ?_, ?_, .inr (.inr ⟨rfl, hret⟩), q2, q3, q5⟩⟩
        · rw [hs']; exact q4
        · rw [hs']; exact h3.mono (l1.trans n1)
    · exact ⟨n, s, items, rfl, .refl Φ, hw1, ht, .inl hf, rfl, hlp, hL1, hK1, hkept1⟩
    · -- behind
      have hdef : ∀ {W : World}, W.heap[w.heap.size]? = some (.deferred (some [])) → Kept w W → DefOk Φ.F ([{ target := .collected w.heap.size, args := #[] }] ++ a.defers) W := by
        intro W hk hkw
        obtain ⟨Ds, d1, d2, d3⟩ := hd
        refine ⟨w.heap.size :: Ds, by rw [d1]; rfl, List.nodup_cons.2 ⟨fun hm => ?_, d2⟩, fun D hD => ?_⟩
        · have := (Array.getElem?_eq_some_iff.1 (d3 _ hm).1).1; omega
        · cases hD with
          | head => exact ⟨hk, hw.fresh.2.1⟩
          | tail _ hD => exact ⟨hkw _ _ (d3 D hD).1 rfl, (d3 D hD).2⟩
      rintro e W2 ⟨⟨v, rfl⟩, (⟨_, Ψ, m, sk, xs, rfl, h1, h2, h3, h4, h5, h6, hl, hk, hkw⟩ | ⟨Ψ, c, h1, h2, h3, h4, hl, hk, hkw⟩)⟩
      · obtain ⟨_, rfl, rfl⟩ := step0 h6 h5 h4
        have hlt : w.heap.size + 1 < W2.heap.size := (Array.getElem?_eq_some_iff.1 hl).1
        refine ⟨none, _, by have := run_endLoop (P := P) hl (by rw [hrec]; simp); rw [hrec] at this; exact this, ?_⟩
        exact hQ Ψ _ _ h1 (h2.putObj hl rfl (by rw [h1.F]; exact hFL)) h3 (by rw [h1.F]; exact hdef ((World.putObj_heap_other (by omega)).trans hk) (hkw.putObj (by omega)))
      · refine ⟨some c, _, by have := run_endLoop (P := P) hl (by rw [hrec]; simp); rw [hrec] at this; exact this, ?_⟩
        have fin := hQ Ψ { a with defers := [{ target := .collected w.heap.size, args := #[] }] ++ a.defers } _ h1 (h2.putObj (o' := .loop { rec .done (some c) with state := .exhausted }) hl rfl (by rw [h1.F]; exact hFL)) h3 (by rw [h1.F]; exact hdef ((World.putObj_heap_other (by omega)).trans hk) (hkw.putObj (by omega)))
        rw [hrec] at fin
        rcases h4 with ⟨rfl, rfl⟩ | ⟨id', hid, rfl, rfl⟩ | ⟨rfl, rfl⟩
        · refine wpIn_exit ?_
          simp only [Exit.inBlock, if_true]
          exact fin
        · refine wpIn_exit ?_
          simp only [Exit.inBlock, if_neg hid]
          exact fin
        · exact wpIn_ret fin

theorem straight_loops : ∀ {c : Code}, straight c = true → loopsIn c = [] := by
  intro c
  induction c with
  | seq a b iha ihb =>
    intro h
    simp only [straight, Bool.and_eq_true] at h
    simp only [loopsIn, iha h.1, ihb h.2, List.append_nil]
  | skip => intro _; rfl
  | label l => intro _; rfl
  | region _ _ _ => intro _; rfl
  | _ => intro h; cases h

/-- where loops over functions may stand -/
def okRF : Code → Bool
  | .seq a b | .cond _ a b => okRF a && okRF b
  | .block _ (.loop c) => noRF c
  | .block _ (.rangeFunc f _ x y) => straight x && noRF x && noRF y && (match f with | .const _ => false | _ => true)
  | .block _ c => okRF c
  | .loop c => noRF c
  | .scope c => noRF c
  | .rangeFunc .. => false
  | _ => true

theorem runM_sim (hE : EnvR P E) {κ : Kall} (hκ : CallR P κ) {g : Nat} {i : Info} {code : Code} (hg : infoOf E g = some (i, code)) (hn : ((loopsIn code).map (·.1)).Nodup) (hdr : DrawR P E κ i code) (hI : IterR P E) {n : Nat} :
    ∀ c : Code, okRF c = true → (∀ p ∈ loopsIn c, p ∈ loopsIn code) → (∀ p ∈ regionsIn c, p ∈ regionsIn code) → ∀ s ex s', run E κ (lpN E κ g n) i c s = some (ex, s') →
      ∀ (Φ : Phi) (a : Act) (w : World), WR Φ s.heap w → VRs Φ s.tmps a.tmps.toList → DefOk Φ.F a.defers w → ∀ Q, PostM Q Φ ex.to s' → c.wpIn (rnd none) 0 P Q a w := by
  have hloop := loop_sim hE hκ hg hn hdr n
  have plain : ∀ c : Code, noRF c = true → (∀ p ∈ loopsIn c, p ∈ loopsIn code) → (∀ p ∈ regionsIn c, p ∈ regionsIn code) → ∀ s ex s', run E κ (lpN E κ g n) i c s = some (ex, s') →
      ∀ (Φ : Phi) (a : Act) (w : World), WR Φ s.heap w → VRs Φ s.tmps a.tmps.toList → DefOk Φ.F a.defers w → ∀ Q, PostM Q Φ ex.to s' → c.wpIn (rnd none) 0 P Q a w :=
    fun c hnr hs hrg s ex s' h Φ a w hw ht hd Q hQ => run_simK hE hκ hloop hdr hnr hs hrg h hw ht rfl (fun Ψ a' w' l1 l2 l3 l4 l5 => hQ Ψ a' w' l1 l2 l3 (by rw [l4, l1.F]; exact hd.kept l5))
  intro c
  induction c with
  | skip => intro _; exact plain _ rfl
  | label l => intro _; exact plain _ rfl
  | exit id => intro _; exact plain _ rfl
  | ret => intro _; exact plain _ rfl
  | goto l => intro _; exact plain _ rfl
  | refuse w => intro _; exact plain _ rfl
  | region id ops draw => intro _; exact plain _ rfl
  | loop c ih => intro hk; exact plain _ hk
  | scope c ih => intro hk; exact plain _ hk
  | rangeFunc f ps a b iha ihb => intro hk; cases hk
  | seq x y ihx ihy =>
    intro hk hs hrg s ex s' h Φ a w hw ht hd Q hQ
    simp only [okRF, Bool.and_eq_true] at hk
    simp only [loopsIn, List.mem_append] at hs
    simp only [regionsIn, List.mem_append] at hrg
    simp only [run] at h
    apply wpIn_seq
    split at h
    · rename_i s1 hx
      refine ihx hk.1 (fun p hp => hs p (.inl hp)) (fun p hp => hrg p (.inl hp)) s _ s1 hx Φ a w hw ht hd _ (fun Ψ a1 w1 hle hw1 ht1 hd1 => ?_)
      exact ihy hk.2 (fun p hp => hs p (.inr hp)) (fun p hp => hrg p (.inr hp)) s1 ex s' h Ψ a1 w1 hw1 ht1 hd1 Q (hQ.le hle)
    · rename_i hne
      refine ihx hk.1 (fun p hp => hs p (.inl hp)) (fun p hp => hrg p (.inl hp)) s _ s' h Φ a w hw ht hd _ (fun Ψ a1 w1 hle hw1 ht1 hd1 => ?_)
      have := hQ Ψ a1 w1 hle hw1 ht1 hd1
      cases ex with
      | normal => exact absurd h (hne s')
      | exit id => exact this
      | ret => exact this
  | cond c x y ihx ihy =>
    intro hk hs hrg s ex s' h Φ a w hw ht hd Q hQ
    simp only [okRF, Bool.and_eq_true] at hk
    simp only [loopsIn, List.mem_append] at hs
    simp only [regionsIn, List.mem_append] at hrg
    simp only [run] at h
    have hc := opnd_R hw.tab ht c
    split at h
    · rename_i heq
      rw [heq] at hc
      refine wpIn_cond_true (by generalize a.eval c = v at hc ⊢; cases hc; rfl) (ihx hk.1 (fun p hp => hs p (.inl hp)) (fun p hp => hrg p (.inl hp)) s ex s' h Φ a w hw ht hd Q hQ)
    · rename_i heq
      rw [heq] at hc
      refine wpIn_cond_false (by generalize a.eval c = v at hc ⊢; cases hc; rfl) (ihy hk.2 (fun p hp => hs p (.inr hp)) (fun p hp => hrg p (.inr hp)) s ex s' h Φ a w hw ht hd Q hQ)
    · cases h
  | block id c ih =>
    have gen : okRF c = true → (∀ p ∈ loopsIn c, p ∈ loopsIn code) → (∀ p ∈ regionsIn c, p ∈ regionsIn code) → ∀ s ex s', (match run E κ (lpN E κ g n) i c s with
        | some (.exit id', s') => if id' = id then some (Ex.normal, s') else some (.exit id', s')
        | r => r) = some (ex, s') → ∀ (Φ : Phi) (a : Act) (w : World), WR Φ s.heap w → VRs Φ s.tmps a.tmps.toList → DefOk Φ.F a.defers w → ∀ Q, PostM Q Φ ex.to s' → (Code.block id c).wpIn (rnd none) 0 P Q a w := by
      intro hk hs hrg s ex s' h Φ a w hw ht hd Q hQ
      apply wpIn_block
      cases hr : run E κ (lpN E κ g n) i c s with
      | none => rw [hr] at h; cases h
      | some x =>
        obtain ⟨e1, s1⟩ := x
        refine ih hk hs hrg s e1 s1 hr Φ a w hw ht hd _ (fun Ψ a1 w1 hle hw1 ht1 hd1 => ?_)
        rw [hr] at h
        cases e1 with
        | normal => cases h; exact hQ Ψ a1 w1 hle hw1 ht1 hd1
        | ret => cases h; exact hQ Ψ a1 w1 hle hw1 ht1 hd1
        | exit id' =>
          simp only at h
          simp only [Ex.to, Exit.inBlock]
          split at h
          · rename_i he; cases h; rw [if_pos he]; exact hQ Ψ a1 w1 hle hw1 ht1 hd1
          · rename_i he; cases h; rw [if_neg he]; exact hQ Ψ a1 w1 hle hw1 ht1 hd1
    intro hk hs hrg
    simp only [regionsIn] at hrg
    cases c with
    | loop c => exact plain _ hk hs (by simpa only [regionsIn] using hrg)
    | rangeFunc f ps x y =>
      intro s ex s' h Φ a w hw ht hd Q hQ
      simp only [okRF, Bool.and_eq_true] at hk
      obtain ⟨⟨⟨k1, k2⟩, k3⟩, k4⟩ := hk
      simp only [run] at h
      split at h
      · rename_i gf cap hf
        split at h
        · rename_i items hit
          apply wpIn_block
          refine rf_sim hE hκ hg hn hdr hI (hs _ (by simp [loopsIn])) k1 k2 k3 (fun c hc => by subst hc; cases k4) (fun p hp => by rw [straight_loops k1] at hp; cases hp) (fun p hp => hs p (by simp [loopsIn, hp])) (fun p hp => hrg p (by simp [regionsIn, hp])) (fun p hp => hrg p (by simp [regionsIn, hp])) hf hit h hw ht hd hQ
        · cases h
      · cases h
    | skip => exact gen rfl (by simpa only [loopsIn] using hs) hrg
    | region _ _ _ => exact gen rfl (by simpa only [loopsIn] using hs) hrg
    | seq _ _ => exact gen (by simpa only [okRF] using hk) (by simpa only [loopsIn] using hs) hrg
    | cond _ _ _ => exact gen (by simpa only [okRF] using hk) (by simpa only [loopsIn] using hs) hrg
    | block _ _ => exact gen (by simpa only [okRF] using hk) (by simpa only [loopsIn] using hs) hrg
    | exit _ => exact gen rfl (by simpa only [loopsIn] using hs) hrg
    | scope _ => exact gen (by simpa only [okRF] using hk) (by simpa only [loopsIn] using hs) hrg
    | label _ => exact gen rfl (by simpa only [loopsIn] using hs) hrg
    | goto _ => exact gen rfl (by simpa only [loopsIn] using hs) hrg
    | ret => exact gen rfl (by simpa only [loopsIn] using hs) hrg
    | refuse _ => exact gen rfl (by simpa only [loopsIn] using hs) hrg

/-- a function's way out -/
theorem leaves_marks {fn : Func} {tmps : Array Value} {R : Ending → World → Prop} {Φ : Phi} {h : List Obj} : ∀ (Ds : List Nat) (w : World), Ds.Nodup → (∀ D ∈ Ds, w.heap[D]? = some (.deferred (some [])) ∧ Φ.F D = none) → WR Φ h w →
    (∀ w', WR Φ h w' → ∃ v, (Go.results fn tmps).run P w' = .ok v w' ∧ R (.returned v) w') → LeavesInM (rnd none) 0 P fn tmps R (marks Ds) .returning w := by
  intro Ds
  induction Ds with
  | nil => intro w _ _ hw hR; exact hR w hw
  | cons D Ds ih =>
    intro w hnd hm hw hR
    obtain ⟨h1, h2⟩ := List.nodup_cons.1 hnd
    obtain ⟨k1, k2⟩ := hm D (.head _)
    refine ⟨by simp, .inl ⟨D, _, rfl, run_takeDeferred k1, ?_⟩⟩
    refine ih _ h2 (fun D' hD' => ?_) (hw.putObj k1 rfl k2) hR
    have hne : D' ≠ D := fun e => h1 (e ▸ hD')
    obtain ⟨q1, q2⟩ := hm D' (.tail _ hD')
    exact ⟨(World.putObj_heap_other hne).trans q1, q2⟩

end
end AM

/- CALLS: whatever the abstract machine's call gives, the model's gives. -/
namespace AM
open Go

/-- a call of a function with a heap of its own, without arguments that can be written, is the same on every heap -/
def Still (E : Env) (κ : Kall) : Prop := (∀ g args h r, isPure E g = true → κ g args h = some r →
  (noM args = true → r.2 = h ∧ ∀ h2, κ g args h2 = some (r.1, h2)) ∧
  (∀ q, oneM args = some q → q < h.length ∧ r.2 = h.set q .dead ∧ ∀ h2 : List Obj, h2[q]? = h[q]? → κ g args h2 = some (r.1, h2.set q .dead))) ∧ ∀ g args h r, κ g args h = some r → h.length ≤ r.2.length

/-- a function that is taken as it is -/
def PrimR (P : Program) (g : Nat) (p : List AV → Option AV) : Prop := Enters P g ∧ ∀ args v, p args = some v → ∀ (Φ : Phi) (h : List Obj) (w : World) (args' : Array Value), WR Φ h w → VRs Φ args args'.toList →
  Calls P g args' w (fun e w' => ∃ v' Ψ, e = .returned v' ∧ Φ.le Ψ ∧ WR Ψ h w' ∧ VR Ψ v v')

structure FnR (P : Program) (E : Env) : Prop where
  go : ∀ g i fn, E.fn g = some (.go i fn) → P.funcs[g]? = some fn ∧ fn.name ≠ "runtime.NumGoroutine" ∧ ∀ c, fn.body = some c → okRF c = true ∧ ((loopsIn c).map (·.1)).Nodup ∧
    ∀ κ, CallR P κ → Still E κ → DrawR P E κ i c
  prim : ∀ g p, E.fn g = some (.prim p) → PrimR P g p
  iter : IterR P E

section
variable {P : Program} {E : Env}

theorem noM_freezeA {args : List AV} (h : noM args = true) (h1 h2 : List Obj) : args.map (freezeA h1) = args.map (freezeA h2) := by
  induction args with
  | nil => rfl
  | cons a args ih =>
    cases a with
    | mslice => simp [noM] at h
    | _ => simp only [List.map_cons, ih (by simpa only [noM] using h)]; rfl

theorem noM_killed {args : List AV} (h : noM args = true) (h1 : List Obj) : killed args h1 = h1 := by
  induction args with
  | nil => rfl
  | cons a args ih =>
    cases a with
    | mslice => simp [noM] at h
    | _ => exact ih (by simpa only [noM] using h)

/-- a function with a heap of its own, of its arguments as they are read -/
def pureOut (E : Env) (κ : Kall) (lp : Nat → Lp) (g : Nat) (as : List AV) : Option AV :=
  match E.fn g with
  | none => none
  | some (.prim p) => p as
  | some (.go i fn) => match fn.body with
    | none => none
    | some c => match run E κ (lp g) i c { tmps := as ++ List.replicate (fn.ntmps - as.length) (.tuple []), heap := [] } with
      | some (.normal, s) | some (.ret, s) => match results fn s.tmps s.heap E.td with
        | none => none
        | some v => some (freeze s.heap 0 v)
      | _ => none

theorem enter0_pure {κ : Kall} {lp : Nat → Lp} {g : Nat} (hp : isPure E g = true) (args : List AV) (h : List Obj) :
    enter0 E κ lp g args h = (pureOut E κ lp g (args.map (freezeA h))).map fun v => (v, killed args h) := by
  unfold isPure at hp
  unfold enter0 pureOut
  cases hg : E.fn g with
  | none => rfl
  | some e =>
    rw [hg] at hp
    cases e with
    | prim p =>
      simp only
      cases p (args.map (freezeA h)) <;> rfl
    | go i fn =>
      simp only at hp ⊢
      have hi : i.mode = .pure := by
        cases hm : i.mode <;> simp [hm] at hp <;> rfl
      cases hb : fn.body with
      | none => rfl
      | some c =>
        simp only [hi, if_true]
        cases hr : run E κ (lp g) i c { tmps := args.map (freezeA h) ++ List.replicate (fn.ntmps - (args.map (freezeA h)).length) (.tuple []), heap := [] } with
        | none => rfl
        | some x =>
          obtain ⟨e, s⟩ := x
          cases e with
          | exit id => rfl
          | normal =>
            simp only
            cases results fn s.tmps s.heap E.td <;> rfl
          | ret =>
            simp only
            cases results fn s.tmps s.heap E.td <;> rfl

theorem oneM_freezeA {h1 h2 : List Obj} {q : Nat} : ∀ {args : List AV}, oneM args = some q → h1[q]? = h2[q]? → args.map (freezeA h1) = args.map (freezeA h2) := by
  intro args
  induction args with
  | nil => intro h; cases h
  | cons a args ih =>
    intro h he
    cases a with
    | mslice r off len cap esz agg =>
      simp only [oneM] at h
      cases hn : noM args with
      | false => rw [hn] at h; cases h
      | true =>
        rw [hn] at h; cases h
        simp only [List.map_cons, noM_freezeA hn h1 h2, freezeA, elems, he]
    | _ => simp only [oneM] at h; simp only [List.map_cons, ih h he]; rfl

theorem oneM_killed {h : List Obj} {q : Nat} : ∀ {args : List AV}, oneM args = some q → killed args h = h.set q .dead := by
  intro args
  induction args with
  | nil => intro h; cases h
  | cons a args ih =>
    intro h
    cases a with
    | mslice r off len cap esz agg =>
      simp only [oneM] at h
      cases hn : noM args with
      | false => rw [hn] at h; cases h
      | true => rw [hn] at h; cases h; simp only [killed, noM_killed hn]
    | _ => simp only [oneM] at h; simp only [killed, ih h]

theorem noM_okM {h : List Obj} : ∀ {args : List AV}, noM args = true → okM h args = true := by
  intro args
  induction args with
  | nil => intro _; rfl
  | cons a args ih =>
    intro h
    cases a with
    | mslice => simp [noM] at h
    | _ => simp only [okM, ih (by simpa only [noM] using h)]

theorem oneM_okM {h : List Obj} {q : Nat} : ∀ {args : List AV}, oneM args = some q → (okM h args = true ↔ q < h.length) := by
  intro args
  induction args with
  | nil => intro h; cases h
  | cons a args ih =>
    intro h
    cases a with
    | mslice r off len cap esz agg =>
      simp only [oneM] at h
      cases hn : noM args with
      | false => rw [hn] at h; cases h
      | true => rw [hn] at h; cases h; simp only [okM, noM_okM hn, Bool.and_true]; exact blt_true
    | _ => simp only [oneM] at h; simp only [okM, ih h]

theorem enter_still (κ : Kall) (lp : Nat → Lp) : Still E (enter E κ lp) := by
  refine ⟨fun g args h r hp hr => ?_, fun g args h r hr => (enter_some hr).2.2⟩
  obtain ⟨hm, hr, hlen⟩ := enter_some hr
  rw [enter0_pure hp] at hr
  cases hv : pureOut E κ lp g (args.map (freezeA h)) with
  | none => rw [hv] at hr; cases hr
  | some v =>
    rw [hv] at hr; cases hr
    refine ⟨fun hn => ⟨noM_killed hn h, fun h2 => ?_⟩, fun q hq => ⟨(oneM_okM hq).1 hm, oneM_killed hq, fun h2 he => ?_⟩⟩
    · exact enter_of (noM_okM hn) (by rw [enter0_pure hp, noM_freezeA hn h2 h, hv, noM_killed hn h2]; rfl) (Nat.le_refl _)
    · have hlt : q < h2.length := by
        rcases Nat.lt_or_ge q h2.length with h' | h'
        · exact h'
        · rw [List.getElem?_eq_none h', List.getElem?_eq_getElem ((oneM_okM hq).1 hm)] at he; cases he
      exact enter_of ((oneM_okM hq).2 hlt) (by rw [enter0_pure hp, oneM_freezeA hq he, hv, oneM_killed hq]; rfl) (by simp)

theorem resultsOf_R (hE : EnvR P E) {Φ : Phi} {h : List Obj} {w : World} (hw : WR Φ h w) {t : List AV} {a : Act} (ht : VRs Φ t a.tmps.toList) :
    ∀ (rs : List ResultVar) vs, resultsOf t h E.td rs = some vs → ∃ vs', (rs.mapM (fun r => match r with
      | .tmp t => pure (a.tmps.getD t undef)
      | .cell x t => do loadVar t (← asAddr (a.tmps.getD x undef)) : ResultVar → Sem Value)).run P w = .ok vs' w ∧ VRs Φ vs vs' := by
  have tmp : ∀ d, VR Φ (t.getD d .undef) (a.tmps.getD d undef) := fun d => tmp_R ht d
  intro rs
  induction rs with
  | nil => intro vs h; cases h; exact ⟨[], rfl, .nil⟩
  | cons r rs ih =>
    intro vs hv
    unfold resultsOf at hv
    split at hv
    · rename_i v us h1 h2
      cases hv
      obtain ⟨us', k1, k2⟩ := ih us h2
      have one : ∃ v', ((match r with
          | .tmp t => pure (a.tmps.getD t undef)
          | .cell x t => do loadVar t (← asAddr (a.tmps.getD x undef)) : Sem Value)).run P w = .ok v' w ∧ VR Φ v v' := by
        cases r with
        | tmp d => cases h1; exact ⟨_, rfl, tmp d⟩
        | cell x ty =>
          simp only [resultOf] at h1
          split at h1
          · rename_i d hd
            obtain ⟨v', l1, l2⟩ := load_sim (P := P) (hE.td _ _ hd) hw (tmp x) h1
            refine ⟨v', ?_, l2⟩
            have hx := tmp x
            show (do loadVar ty (← asAddr (a.tmps.getD x undef)) : Sem Value).run P w = .ok v' w
            generalize a.tmps.getD x undef = y at hx l1 ⊢
            unfold load at h1
            generalize t.getD x .undef = z at hx h1
            cases z <;> simp at h1
            · cases hx
              simpa [Instr.loadAt, Instr.sureAddr, asAddr] using l1
            · cases hx
              simpa [Instr.loadAt, Instr.sureAddr, asAddr] using l1
          · cases h1
      obtain ⟨v', l1, l2⟩ := one
      refine ⟨v' :: us', ?_, .cons l2 k2⟩
      rw [List.mapM_cons]
      simp only [Sem.run_bind, l1, k1, Result.andThen_ok, Sem.run_pure]
    · cases hv

theorem results_R (hE : EnvR P E) {Φ : Phi} {h : List Obj} {w : World} (hw : WR Φ h w) {t : List AV} {a : Act} (ht : VRs Φ t a.tmps.toList) {fn : Func} {v : AV} (hv : results fn t h E.td = some v) :
    ∃ v', (Go.results fn a.tmps).run P w = .ok v' w ∧ VR Φ v v' := by
  unfold AM.results at hv
  have fin : ∀ vs vs', (fn.results.toList.mapM (fun r => match r with
      | .tmp t => pure (a.tmps.getD t undef)
      | .cell x t => do loadVar t (← asAddr (a.tmps.getD x undef)) : ResultVar → Sem Value)).run P w = .ok vs' w → VRs Φ vs vs' →
      ∃ v', (Go.results fn a.tmps).run P w = .ok v' w ∧ v' = (if h : vs'.toArray.size = 1 then vs'.toArray[0] else .tuple vs'.toArray) := by
    intro vs vs' k1 k2
    refine ⟨_, ?_, rfl⟩
    unfold Go.results
    rw [Array.mapM_eq_mapM_toList]
    simp only [Sem.run_bind, Sem.run_map]
    erw [k1]
    rfl
  split at hv
  · rename_i x hx
    cases hv
    obtain ⟨vs', k1, k2⟩ := resultsOf_R (P := P) hE hw ht _ _ hx
    obtain ⟨v', l1, rfl⟩ := fin _ _ k1 k2
    obtain ⟨y, us, rfl, r1, r2⟩ := k2.inv_cons
    have := r2.inv_nil
    subst this
    exact ⟨_, l1, by simpa using r1⟩
  · rename_i vs hne hx
    cases hv
    obtain ⟨vs', k1, k2⟩ := resultsOf_R (P := P) hE hw ht _ _ hx
    obtain ⟨v', l1, rfl⟩ := fin _ _ k1 k2
    refine ⟨_, l1, ?_⟩
    have hlen : vs'.toArray.size ≠ 1 := by
      intro h1
      have h2 := k2.1
      simp only [List.size_toArray] at h1
      rw [h1] at h2
      match vs, h2 with
      | [x], _ => exact hne x rfl
    rw [dif_neg hlen]
    exact .tuple _ _ (by simpa using k2.1) (by simpa using k2.2)
  · cases hv

end
end AM

/- CALLS, the whole: by induction on the fuel. -/
namespace AM
open Go

section
variable {P : Program} {E : Env}

open Classical in
/-- what a function with a heap of its own sees: all that its caller may still use stays as it is -/
noncomputable def Phi.inner (Φ : Phi) (h : List Obj) (w : World) : Phi :=
  { M := Φ.M, F := fun b => if ∃ r ob, h[r]? = some ob ∧ blk Φ r ob = some b then w.heap[b]? else Φ.F b, φ := Φ.φ, τ := fun _ _ => none, N := 0, w0 := Φ.w0 }

theorem inner_WR {Φ : Phi} {h : List Obj} {w : World} (hw : WR Φ h w) : WR (Φ.inner h w) [] w where
  len := rfl
  mem := hw.mem
  frz := fun b ob hf => by
    simp only [Phi.inner] at hf
    split at hf
    · exact hf
    · exact hw.frz b ob hf
  obj := fun r ob hr => by simp at hr
  inj := fun r s x y b hr => by simp at hr
  str := hw.str
  tab := hw.tab

theorem inner_F {Φ : Phi} {h : List Obj} {w : World} (hw : WR Φ h w) {b : Nat} (hb : (Φ.inner h w).F b = none) : Φ.F b = none ∧ ∀ (r : Nat) ob, h[r]? = some ob → blk Φ r ob ≠ some b := by
  simp only [Phi.inner] at hb
  split at hb
  · rename_i hc
    obtain ⟨r, ob, hr, hk⟩ := hc
    have := (hw.obj r ob hr).lt hk
    rw [Array.getElem?_eq_getElem this] at hb
    cases hb
  · rename_i hc
    exact ⟨hb, fun r ob hr hk => hc ⟨r, ob, hr, hk⟩⟩

/-- the blocks of objects from m on -/
def left (Φ : Phi) (h : List Obj) (m b : Nat) : Prop := ∃ r cs, m ≤ r ∧ h[r]? = some (.cells cs) ∧ b = Φ.φ r

/-- back from a function with a heap of its own -/
theorem outer_R {Φ Ψ : Phi} {h hc : List Obj} {w w' : World} (hw : WR Φ h w) (hle : (Φ.inner h w).le Ψ) (hw' : WR Ψ hc w') {v : AV} {v' : Value} (hv : VR Ψ v v') :
    ∃ Ω, Φ.le Ω ∧ WR Ω h w' ∧ VR Ω (freeze hc 0 v) v' := by
  let S := left Ψ hc 0
  let Ω : Phi := { Φ with M := (Ψ.share S w' 0).M }
  have hSF : ∀ b, S b → (Φ.inner h w).F b = none := by
    rintro b ⟨r, cs, _, hr, rfl⟩
    have := (hw'.obj r _ hr).F rfl
    rw [hle.F] at this
    exact this
  have hnew : ∀ b o, Φ.M b o = none → Ω.M b o ≠ none → (Φ.inner h w).F b = none := by
    intro b o h1 h2
    cases hx : Ω.M b o with
    | none => exact absurd hx h2
    | some x =>
      rcases Phi.share_inv (m := 0) hx with h3 | ⟨_, h3, _⟩
      · exact hle.new b o h1 (by rw [h3]; simp)
      · exact hSF b h3
  have hΦΩ : Φ.le Ω := ⟨fun b o v hm => Phi.share_M (m := 0) (hle.M b o v hm), rfl, fun _ _ => rfl, fun _ _ _ _ h => h, Nat.le_refl _, fun b o h1 h2 => (inner_F hw (hnew b o h1 h2)).1, rfl⟩
  have hheap : ∀ (r : Nat) ob b, h[r]? = some ob → blk Φ r ob = some b → w'.heap[b]? = w.heap[b]? := by
    intro r ob b hr hk
    have hlt := (hw.obj r ob hr).lt hk
    have hF : (Φ.inner h w).F b = w.heap[b]? := by
      simp only [Phi.inner]
      rw [if_pos ⟨r, ob, hr, hk⟩]
    rw [Array.getElem?_eq_getElem hlt] at hF
    rw [Array.getElem?_eq_getElem hlt]
    exact hw'.frz b _ (by rw [hle.F]; exact hF)
  refine ⟨Ω, hΦΩ, ?_, ?_⟩
  · refine ⟨hw.len, fun b o x hx => ?_, fun b ob hf => ?_, fun r ob hr => ?_, hw.inj, ?_, fun g k v h => hΦΩ.M _ _ _ (hw.tab g k v h)⟩
    · rcases Phi.share_inv (m := 0) hx with h3 | ⟨_, _, h3⟩
      · exact hw'.mem b o x h3
      · exact h3
    · have hf' : (Φ.inner h w).F b = some ob := by
        simp only [Phi.inner]
        split
        · exact hw.frz b ob hf
        · exact hf
      exact hw'.frz b ob (by rw [hle.F]; exact hf')
    · have hrN : r < Φ.N := hw.len ▸ lt_of_get hr
      refine (hw.obj r ob hr).move hΦΩ hrN (fun _ => rfl) (fun b hk => ⟨hheap r ob b hr hk, fun o ho => ?_⟩)
      cases hx : Ω.M b o with
      | none => rfl
      | some x => exact absurd hk ((inner_F hw (hnew b o ho (by rw [hx]; simp))).2 r ob hr)
    · have := hw'.str
      rw [hle.w0] at this
      exact this
  · refine freeze_R (Ω := Ω) (m := 0) hw' (fun b o x hx => Phi.share_M (S := S) (w := w') (m := 0) hx) (fun r h => absurd h (Nat.not_lt_zero r)) (fun r n x h => absurd h (Nat.not_lt_zero r)) (Nat.zero_le _) (fun r cs _ hr o x hx => ?_) hv
    refine Phi.share_S (S := S) (m := 0) ⟨r, cs, Nat.zero_le _, hr, rfl⟩ hx (fun u hu => ?_)
    have := hw'.mem _ _ _ hu
    rw [hx] at this; cases this; rfl

/-- back from a function on its caller's heap; what it has made goes -/
theorem local_R {Φ Ψ : Phi} {hc : List Obj} {w' : World} (hle : Φ.le Ψ) (hw' : WR Ψ hc w') {v : AV} {v' : Value} (hv : VR Ψ v v') :
    ∃ Ω, Φ.le Ω ∧ WR Ω (cutHeap Φ.N hc) w' ∧ VR Ω (freeze hc Φ.N v) v' := by
  let S := left Ψ hc Φ.N
  have hSF : ∀ b, S b → Ψ.F b = none := by
    rintro b ⟨r, cs, _, hr, rfl⟩
    exact (hw'.obj r _ hr).F rfl
  have hw1 : WR (Ψ.few Φ.N) (cutHeap Φ.N hc) w' := hw'.few hle.N
  have hw2 := hw1.shared S (fun r ob b hr hk => ?_) hSF
  · refine ⟨(Ψ.few Φ.N).share S w' (Ψ.few Φ.N).N, (Phi.le_few hle (Nat.le_refl _)).trans (Phi.le_share (Φ := Ψ.few Φ.N) hSF (Nat.le_refl _)), hw2, ?_⟩
    refine freeze_R hw' (fun b o x hx => Phi.share_M hx) (fun _ _ => rfl) (fun _ _ _ _ h => h) (Nat.le_refl _) (fun r cs hm hr o x hx => ?_) hv
    refine Phi.share_S ⟨r, cs, hm, hr, rfl⟩ hx (fun u hu => ?_)
    have := hw'.mem _ _ _ hu
    rw [hx] at this; cases this; rfl
  · rintro ⟨r', cs, hm, hr', rfl⟩
    obtain ⟨hlt, o, ho, rfl⟩ := cutHeap_get hr
    rw [cutObj_blk] at hk
    have : r = r' := hw'.inj r r' o _ _ ho hr' hk rfl
    omega

theorem enter0_sim (hE : EnvR P E) (hF : FnR P E) {κ : Kall} (hκ : CallR P κ) (hs : Still E κ) (n : Nat) : CallR P (enter0 E κ (fun g => lpN E κ g n)) := by
  intro g args h r hr
  unfold enter0 at hr
  cases hg : E.fn g with
  | none => rw [hg] at hr; cases hr
  | some e =>
    rw [hg] at hr
    cases e with
    | prim p =>
      simp only at hr
      split at hr
      · rename_i v hv
        cases hr
        obtain ⟨h1, h2⟩ := hF.prim g p hg
        refine ⟨h1, fun Φ w args' hw ha => ?_⟩
        obtain ⟨Φ1, hle, _, hw1, hargs⟩ := args_R hw ha
        refine (h2 _ _ hv Φ1 _ w args' hw1 (hargs Φ1 (fun _ _ _ h => h))).mono (fun e w' he => ?_)
        obtain ⟨v', Ψ, rfl, l1, l2, l3⟩ := he
        exact ⟨v', Ψ, rfl, hle.trans l1, l2, l3⟩
      · cases hr
    | go i fn =>
      simp only at hr
      obtain ⟨hf, hname, hbody⟩ := hF.go g i fn hg
      split at hr
      · cases hr
      · rename_i c hc
        obtain ⟨hok, hnod, hdraw⟩ := hbody c hc
        have hinfo : infoOf E g = some (i, c) := by simp [infoOf, hg, hc]
        have hdr := hdraw κ hκ hs
        refine ⟨⟨fn, hf, hname, by rw [hc]; rfl⟩, fun Φ w args' hw ha => ?_⟩
        -- the body, from whatever it begins with
        have body : ∀ (Φ0 : Phi) (h0 : List Obj) (as : List AV), WR Φ0 h0 w → VRs Φ0 as args'.toList → ∀ ex s v, run E κ (lpN E κ g n) i c { tmps := as ++ List.replicate (fn.ntmps - as.length) (.tuple []), heap := h0 } = some (ex, s) → (ex = .normal ∨ ex = .ret) → results fn s.tmps s.heap E.td = some v →
            ∀ R : Ending → World → Prop, (∀ Ψ w' v', Φ0.le Ψ → WR Ψ s.heap w' → VR Ψ v v' → R (.returned v') w') → Calls P g args' w R := by
          intro Φ0 h0 as hw0 ha0 ex s v hrun hex hv R hR
          refine (callsIn_wide (n := 0)).1 (callsIn_of_wp_marks (F := rnd none) hf hc trivial ?_ rfl)
          have ht0 : VRs Φ0 (as ++ List.replicate (fn.ntmps - as.length) (.tuple [])) (args' ++ Array.replicate (fn.ntmps - args'.size) undef).toList := by
            have hl : as.length = args'.size := by simpa using ha0.1
            rw [Array.toList_append, Array.toList_replicate, hl]
            refine ha0.append ?_
            have : ∀ k, VRs Φ0 (List.replicate k (.tuple [])) (List.replicate k undef) := by
              intro k
              induction k with
              | zero => exact .nil
              | succ k ih => exact .cons (.tuple [] #[] rfl (fun k a v h => by simp at h)) ih
            exact this _
          refine runM_sim hE hκ hinfo hnod hdr hF.iter c hok (fun p hp => hp) (fun p hp => hp) _ ex s hrun Φ0 _ w hw0 ht0 ⟨[], rfl, List.nodup_nil, fun D hD => by cases hD⟩ _ (fun Ψ a' w' l1 l2 l3 l4 => ?_)
          obtain ⟨Ds, d1, d2, d3⟩ := l4
          have : LeavesInM (rnd none) 0 P fn a'.tmps R a'.defers .returning w' := by
            rw [d1]
            refine leaves_marks (Φ := Ψ) (h := s.heap) Ds w' d2 d3 l2 (fun w2 hw2 => ?_)
            obtain ⟨v', r1, r2⟩ := results_R (P := P) hE hw2 l3 hv
            exact ⟨v', r1, hR Ψ w2 v' l1 hw2 r2⟩
          rcases hex with rfl | rfl <;> exact this
        have fin : ∀ ex s v, run E κ (lpN E κ g n) i c { tmps := (if i.mode = .pure then args.map (freezeA h) else args) ++ List.replicate (fn.ntmps - (if i.mode = .pure then args.map (freezeA h) else args).length) (.tuple []), heap := if i.mode = .pure then [] else h } = some (ex, s) → (ex = .normal ∨ ex = .ret) → results fn s.tmps s.heap E.td = some v → r = leave i.mode args h v s.heap →
            Calls P g args' w (fun e w' => ∃ v' Ψ, e = .returned v' ∧ Φ.le Ψ ∧ WR Ψ r.2 w' ∧ VR Ψ r.1 v') := by
          intro ex s v hrun hex hv hleave
          subst hleave
          cases hm : i.mode with
          | pure =>
            rw [hm] at hrun
            simp only [if_true] at hrun
            obtain ⟨Φ1, hle, _, hw1, hargs⟩ := args_R hw ha
            refine body (Φ1.inner (killed args h) w) [] _ (inner_WR hw1) (hargs _ (fun _ _ _ h => h)) ex s v hrun hex hv _ (fun Ψ w' v' l1 l2 l3 => ?_)
            obtain ⟨Ω, o1, o2, o3⟩ := outer_R hw1 l1 l2 l3
            exact ⟨v', Ω, rfl, hle.trans o1, o2, o3⟩
          | loc =>
            rw [hm] at hrun
            simp only [reduceCtorEq, if_false] at hrun
            refine body Φ h args hw ha ex s v hrun hex hv _ (fun Ψ w' v' l1 l2 l3 => ?_)
            obtain ⟨Ω, o1, o2, o3⟩ := local_R l1 l2 l3
            refine ⟨v', Ω, rfl, o1, ?_, ?_⟩
            · simp only [leave]; rw [hw.len]; exact o2
            · simp only [leave]; rw [hw.len]; exact o3
          | raw =>
            rw [hm] at hrun
            simp only [reduceCtorEq, if_false] at hrun
            refine body Φ h args hw ha ex s v hrun hex hv _ (fun Ψ w' v' l1 l2 l3 => ⟨v', Ψ, rfl, l1, l2, l3⟩)
        split at hr
        · rename_i s hs
          split at hr
          · cases hr
          · rename_i v hv; cases hr; exact fin _ _ _ hs (.inl rfl) hv rfl
        · rename_i s hs
          split at hr
          · cases hr
          · rename_i v hv; cases hr; exact fin _ _ _ hs (.inr rfl) hv rfl
        · cases hr

theorem enter_sim (hE : EnvR P E) (hF : FnR P E) {κ : Kall} (hκ : CallR P κ) (hs : Still E κ) (n : Nat) : CallR P (enter E κ (fun g => lpN E κ g n)) :=
  fun g args h r hr => enter0_sim hE hF hκ hs n g args h r (enter_some hr).2.1

theorem callN_still (n : Nat) : Still E (callN E n) := by
  cases n with
  | zero =>
    refine And.intro (fun g args h r _ hr => ?_) (fun g args h r hr => ?_)
    · cases hr
    · cases hr
  | succ n => exact enter_still _ _

/-- WHAT THE ABSTRACT MACHINE GIVES, THE MODEL GIVES. -/
theorem callN_sim (hE : EnvR P E) (hF : FnR P E) : ∀ n, CallR P (callN E n)
  | 0 => fun g args h r hr => by cases hr
  | n + 1 => enter_sim hE hF (callN_sim hE hF n) (callN_still n) n

theorem callL_sim (hE : EnvR P E) (hF : FnR P E) : CallR P (callL E) := by
  intro g args h r hr
  obtain ⟨n, hn⟩ := callL_some hr
  exact callN_sim hE hF n g args h r hn

end
end AM

/- REGIONS THAT DRAW: operations that do not touch one another change places. -/
namespace AM
open Go

section
variable {P : Program} {E : Env}

theorem parts_congr {t t' : List AV} (ps : Array (Nat × Operand)) (h : ∀ x ∈ ps.map (·.2), opnd t x = opnd t' x) : (ps.toList.map fun p => (p.1, opnd t p.2)) = (ps.toList.map fun p => (p.1, opnd t' p.2)) :=
  List.map_congr_left fun p hp => by rw [h p.2 (Array.mem_map.2 ⟨p, by simpa using hp, rfl⟩)]
theorem parts_congr2 {t t' : List AV} (ps : Array (Nat × Operand)) (h : ∀ x ∈ ps.map (·.2), opnd t x = opnd t' x) : (ps.toList.map fun p => opnd t p.2) = (ps.toList.map fun p => opnd t' p.2) :=
  List.map_congr_left fun p hp => h p.2 (Array.mem_map.2 ⟨p, by simpa using hp, rfl⟩)
theorem args_congr {t t' : List AV} (xs : Array Operand) (h : ∀ x ∈ xs, opnd t x = opnd t' x) : xs.toList.map (opnd t) = xs.toList.map (opnd t') :=
  List.map_congr_left fun x hx => h x (by simpa using hx)
theorem bnd_congr {t t' : List AV} (o : Option Operand) (h : ∀ x, o = some x → opnd t x = opnd t' x) : bnd? t o = bnd? t' o := by
  cases o with
  | none => rfl
  | some x => simp only [bnd?, h x rfl]

theorem op_congr {own : Bool} {t t' : List AV} {h : List Obj} {ty : Nat} (o : Op) (hx : ∀ x ∈ o.operands, opnd t x = opnd t' x) : op E own t h ty o = op E own t' h ty o ∧ foot E t o = foot E t' o := by
  cases o <;> simp only [Op.operands] at hx <;> simp only [op, foot]
  case build ty ps => simp only [parts_congr ps (by simpa using hx), and_self]
  case buildSlice ty n ps => simp only [parts_congr2 ps (by simpa using hx), and_self]
  case makeFunc fn a b => simp only [args_congr a (fun x h => hx x (by simp [h])), args_congr b (fun x h => hx x (by simp [h])), and_self]
  case slice ty x lo hi mx =>
    cases mx with
    | some m => simp
    | none => simp only [bnd_congr (t := t) (t' := t') lo (fun x h => hx x (by simp [h])), bnd_congr (t := t) (t' := t') hi (fun x h => hx x (by simp [h])), hx x (by simp), and_self]
  case makeMap ty r => cases r <;> simp
  case call c =>
    have ha := args_congr (t := t) (t' := t') c.args (fun x h => hx x (by simp [Call.operands, h]))
    rw [ha]
    cases hc : c.callee with
    | value f => simp only [hx f (by simp [Call.operands, hc]), and_self]
    | invoke r m => simp
    | builtin b => cases b <;> simp
  all_goals simp_all

end
end AM

/- What an operation touches. -/
namespace AM
open Go

/-- F gives this on the heap h, and what it touches is f -/
def Foot.ok (f : Foot) (F : List Obj → Option (AV × List Obj)) (h : List Obj) (v : AV) (h' : List Obj) : Prop :=
  match f with
  | .none => h' = h ∧ ∀ h2, F h2 = some (v, h2)
  | .rd r => h' = h ∧ r < h.length ∧ ∀ h2 : List Obj, h2[r]? = h[r]? → F h2 = some (v, h2)
  | .wr r => ∃ ob, h' = h.set r ob ∧ r < h.length ∧ ∀ h2 : List Obj, h2[r]? = h[r]? → F h2 = some (v, h2.set r ob)
  | .mk => ∃ ob, h' = h ++ [ob] ∧ ∀ h2 : List Obj, h2.length = h.length → F h2 = some (v, h2 ++ [ob])
  | .any => True

def valOf : Option Res → Option (AV × List Obj)
  | some (.val v h) => some (v, h)
  | _ => none

section
variable {E : Env}

theorem val_ok {X : Option AV} {h h' : List Obj} {v : AV} (hv : val h X = some (.val v h')) : Foot.ok .none (fun h2 => valOf (val h2 X)) h v h' := by
  obtain ⟨h1, rfl⟩ := val_inv hv
  exact ⟨rfl, fun h2 => by rw [h1]; rfl⟩

theorem load_ok {d : TD} {a : AV} {h h' : List Obj} {v : AV} (hv : val h (load d a h) = some (.val v h')) :
    Foot.ok (match (generalizing := false) a with | .ptr r _ => .rd r | _ => .none) (fun h2 => valOf (val h2 (load d a h2))) h v h' := by
  obtain ⟨h1, rfl⟩ := val_inv hv
  unfold load at h1
  split at h1
  · rename_i r o
    have hlt : r < h'.length := by
      cases hx : h'[r]? with
      | none => rw [hx] at h1; cases h1
      | some x => exact lt_of_get hx
    refine ⟨rfl, hlt, fun h2 hr => ?_⟩
    simp only [load, hr]
    rw [h1]; rfl
  · refine ⟨rfl, fun h2 => ?_⟩
    simp only [load, h1]; rfl
  · cases h1

theorem store_ok {d : TD} {a x : AV} {h h' : List Obj} {v : AV} (hv : (store d a x h).map (fun h' => Res.val (.tuple []) h') = some (.val v h')) :
    Foot.ok (match (generalizing := false) a with | .ptr r _ => .wr r | _ => .none) (fun h2 => valOf ((store d a x h2).map fun h' => Res.val (.tuple []) h')) h v h' := by
  simp only [Option.map_eq_some_iff] at hv
  obtain ⟨h1, hs, he⟩ := hv
  cases he
  unfold store at hs
  split at hs
  · rename_i r o
    split at hs
    · rename_i cs hcs
      split at hs
      · rename_i hc
        cases hp : put cs o x.cells with
        | none => rw [hp] at hs; cases hs
        | some cs' =>
          rw [hp] at hs; cases hs
          refine ⟨.cells cs', rfl, lt_of_get hcs, fun h2 hr => ?_⟩
          simp only [store, hr, hcs, if_pos hc, hp]
          rfl
      · cases hs
    · cases hs
  · cases hs

theorem op_foot {own : Bool} {t : List AV} {h h' : List Obj} {ty : Nat} {v : AV} (o : Op) (hop : op E own t h ty o = some (.val v h')) : (foot E t o).ok (fun h2 => valOf (op E own t h2 ty o)) h v h' := by
  cases o <;> simp only [op] at hop <;> simp only [op, foot] <;> try (trivial; done)
  case move x => cases hop; exact ⟨rfl, fun _ => rfl⟩
  case assign x =>
    cases hn : isNil x with
    | true => trivial
    | false =>
      rw [hn] at hop
      simp only [Bool.and_false, Bool.false_eq_true, if_false] at hop
      cases hop
      exact ⟨rfl, fun _ => by simp [valOf, hn]⟩
  case convert s d x =>
    split at hop
    · rename_i sd dd hs hd
      cases hcb : convB sd dd (opnd t x) with
      | some b =>
        rw [hcb] at hop
        obtain ⟨_, _, hxb⟩ := convB_inv hcb
        rw [hxb]
        cases hop
        exact ⟨rfl, fun h2 => by simp only [← hxb, hcb]; rfl⟩
      | none =>
      rw [hcb] at hop
      simp only
      have other : (∀ r off len cap e ag, opnd t x ≠ .mslice r off len cap e ag) → Foot.ok .none (fun h2 => valOf (val h2 (convert E.ar sd dd (opnd t x) h2))) h v h' := by
        intro hne
        have same : ∀ h2, convert E.ar sd dd (opnd t x) h2 = convert E.ar sd dd (opnd t x) h := by
          intro h2
          have : elems h2 (opnd t x) = elems h (opnd t x) := by
            cases hx : opnd t x <;> first | rfl | exact absurd hx (hne _ _ _ _ _ _)
          generalize opnd t x = y at this ⊢
          unfold convert
          split
          · rfl
          · rfl
          · rfl
          · rw [this]
          · rfl
        have := val_ok hop
        exact ⟨this.1, fun h2 => by simp only [same h2]; exact this.2 h2⟩
      cases hx : opnd t x with
      | mslice r off len cap e ag => trivial
      | _ => rw [hx] at other; exact other (fun _ _ _ _ _ _ h => by cases h)
    · cases hop
  case pick c a b => split at hop <;> cases hop <;> exact ⟨rfl, fun _ => by simp_all [valOf]⟩
  case alloc e =>
    cases hd : E.td e with
    | none => rw [hd] at hop; cases hop
    | some d => rw [hd] at hop; cases hop; exact ⟨_, rfl, fun h2 hl => by simp [valOf, hl]⟩
  case box e x =>
    split at hop
    · rename_i hc; cases hop; exact ⟨_, rfl, fun h2 hl => by simp [valOf, hc, hl]⟩
    · cases hop
  case build ty ps =>
    split at hop
    · exact val_ok hop
    · exact val_ok hop
    · cases hop
  case buildSlice ty n ps =>
    split at hop
    · split at hop
      · rename_i hc; cases hop; exact ⟨rfl, fun h2 => by simp only [if_pos hc]; rfl⟩
      · cases hop
    · cases hop
  case load ty a =>
    split at hop
    · exact load_ok hop
    · cases hop
  case store ty a x =>
    split at hop
    · exact store_ok hop
    · cases hop
  case nilCheck x => split at hop <;> cases hop <;> exact ⟨rfl, fun _ => by simp_all [valOf]⟩
  case binOp b xt x y z =>
    split at hop
    · rename_i d hd
      split at hop
      · rename_i v0 hn
        cases hop
        exact ⟨rfl, fun h2 => by simp only [hn]; rfl⟩
      · rename_i hn
        have := val_ok hop
        exact ⟨this.1, fun h2 => by simp only [hn]; exact this.2 h2⟩
    · cases hop
  case unOp => exact val_ok hop
  case makeFunc => cases hop; exact ⟨rfl, fun _ => rfl⟩
  case makeMap ty r =>
    cases r with
    | none => cases hop; exact ⟨_, rfl, fun h2 hl => by simp [valOf, hl]⟩
    | some r => cases hop
  case makeSlice ty l c =>
    split at hop
    · split at hop
      · rename_i hc
        split at hop
        · split at hop
          · split at hop
            · rename_i hl; cases hop; exact ⟨_, rfl, fun h2 hl2 => by simp only [if_pos hc, if_pos hl, hl2]; rfl⟩
            · rename_i hl; cases hop; exact ⟨_, rfl, fun h2 hl2 => by simp only [if_pos hc, if_neg hl, hl2]; rfl⟩
          · cases hop
        · cases hop
      · cases hop
    · cases hop
  case slice ty x lo hi mx =>
    cases mx with
    | some m => cases hop
    | none =>
      simp only at hop ⊢
      split at hop
      · split at hop
        · exact val_ok hop
        · cases hop
      · cases hop
  case fieldAddr s x f =>
    split at hop
    · split at hop
      · split at hop
        · cases hop
        · rename_i hc; cases hop; exact ⟨rfl, fun _ => by simp only [if_neg hc]; rfl⟩
      · cases hop
    · split at hop
      · split at hop
        · cases hop
        · rename_i hc; cases hop; exact ⟨rfl, fun _ => by simp only [if_neg hc]; rfl⟩
      · cases hop
    · cases hop
  case field s x f =>
    split at hop
    · split at hop
      · exact val_ok hop
      · cases hop
    · cases hop
  case indexAddr ty x i =>
    split at hop
    · split at hop
      · rename_i hc
        split at hop
        · cases hop; exact ⟨rfl, fun _ => by simp only [if_pos hc]; rfl⟩
        · cases hop
      · cases hop
    · split at hop
      · rename_i hc
        split at hop
        · cases hop; exact ⟨rfl, fun _ => by simp only [if_pos hc]; rfl⟩
        · cases hop
      · cases hop
    · split at hop
      · cases hop; exact ⟨rfl, fun _ => rfl⟩
      · cases hop
    · split at hop
      · cases hop; exact ⟨rfl, fun _ => rfl⟩
      · cases hop
    · cases hop
  case index ty x i =>
    split at hop
    · split at hop
      · exact val_ok hop
      · cases hop
    · split at hop
      · cases hop; exact ⟨rfl, fun _ => rfl⟩
      · cases hop
    · cases hop
  case extract x i =>
    split at hop
    · split at hop
      · cases hop; exact ⟨rfl, fun _ => rfl⟩
      · cases hop
    · cases hop
  case lookup ty x k ok =>
    split at hop
    · rename_i ks vagg z hd
      cases hx : opnd t x with
      | map r =>
        simp only [hx] at hop ⊢
        cases hr : h[r]? with
        | none => rw [hr] at hop; cases hop
        | some ob =>
          cases ob with
          | map es =>
            rw [hr] at hop
            simp only at hop
            have same : ∀ h2 : List Obj, h2[r]? = h[r]? → (match (match h2[r]? with | some (.map es) => some es | _ => none) with | some es => some es | none => none) = some es := by
              intro h2 h3; rw [h3, hr]
            split at hop
            · rename_i hko
              split at hop
              · rename_i hf
                cases hop
                exact ⟨rfl, lt_of_get hr, fun h2 h3 => by simp only [h3, hr, if_pos hko, hf]; rfl⟩
              · rename_i hf hz
                cases hop
                exact ⟨rfl, lt_of_get hr, fun h2 h3 => by simp only [h3, hr, if_pos hko, hf, hz]; rfl⟩
              · cases hop
            · cases hop
          | _ => rw [hr] at hop; cases hop
      | nilmap =>
        simp only [hx] at hop ⊢
        split at hop
        · rename_i hko
          split at hop
          · rename_i hf
            cases hop
            exact ⟨rfl, fun h2 => by simp only [if_pos hko, hf]; rfl⟩
          · rename_i hf hz
            cases hop
            exact ⟨rfl, fun h2 => by simp only [if_pos hko, hf, hz]; rfl⟩
          · cases hop
        · cases hop
      | _ => simp only [hx] at hop; cases hop
    · cases hop
  case call c =>
    obtain ⟨callee, as, ts⟩ := c
    cases callee with
    | value f =>
      simp only at hop
      unfold callVal at hop
      split at hop <;> cases hop
    | invoke r m => cases hop
    | builtin b =>
      simp only at hop ⊢
      cases b <;> simp only <;> try (trivial; done)
      case len =>
        generalize List.map (opnd t) as.toList = args at hop ⊢
        match args, hop with
        | [x], hop =>
          unfold AM.builtin at hop
          simp only at hop
          cases x with
          | map r =>
            split at hop
            all_goals first | (rename_i heq; cases heq; done) | skip
            · rename_i ht heq
              cases heq
              split at hop
              · rename_i es hes
                cases hop
                exact ⟨rfl, lt_of_get hes, fun h2 h3 => by simp only [AM.builtin, ht, h3, hes]; rfl⟩
              · cases hop
            · cases hop
          | _ =>
            split at hop
            all_goals first
              | (cases hop; done)
              | contradiction
              | (rename_i ht heq; cases heq; cases hop; exact ⟨rfl, fun h2 => by simp only [AM.builtin, ht]; rfl⟩)
              | (cases hop; rename_i ht; exact ⟨rfl, fun h2 => by simp only [AM.builtin, ht]; rfl⟩)
        | [], hop => cases hop
        | _ :: _ :: _, hop => cases hop
      case append =>
        generalize List.map (opnd t) as.toList = args at hop ⊢
        have hap : ∀ xs e tk y, args = [.slice xs e tk, y] → Foot.ok (match (generalizing := false) y with
            | .mslice .. => .any
            | _ => match (generalizing := false) tk with
              | .exact => .mk
              | .at r => .wr r
              | .none => .any) (fun h2 => valOf (AM.builtin E h2 .append ts args)) h v h' := by
          intro xs e tk y hargs
          subst hargs
          have key : ∀ (hy : ∀ r off len cap e ag, y ≠ .mslice r off len cap e ag), (match tk with
              | .exact => Foot.mk
              | .at r => Foot.wr r
              | .none => Foot.any).ok (fun h2 => valOf (AM.builtin E h2 .append ts [.slice xs e tk, y])) h v h' := by
            intro hy
            have el : ∀ h2, elems h2 y = elems h y := fun h2 => by cases y <;> first | rfl | exact absurd rfl (hy _ _ _ _ _ _)
            have core : ∀ (esz eb : Nat) (ys : List AV) (e' : Nat), append E.ar esz eb h xs e tk ys e' = some (.val v h') → (match tk with
              | .exact => Foot.mk
              | .at r => Foot.wr r
              | .none => Foot.any).ok (fun h2 => valOf (append E.ar esz eb h2 xs e tk ys e')) h v h' := by
              intro esz eb ys e' ha
              cases tk with
              | none => trivial
              | exact =>
                unfold append at ha
                split at ha
                · rename_i c1
                  split at ha
                  · rename_i c2
                    cases ha
                    exact ⟨_, rfl, fun h2 hl => by simp only [append, if_pos c1, c2, if_true, valOf, hl]⟩
                  · cases ha
                · cases ha
              | «at» r =>
                unfold append at ha
                split at ha
                · rename_i c1
                  split at ha
                  · rename_i c2
                    simp only at ha
                    split at ha
                    · rename_i l e'' hr
                      split at ha
                      · rename_i c3
                        split at ha
                        · rename_i c4
                          cases ha
                          exact ⟨_, rfl, lt_of_get hr, fun h2 h3 => by simp only [append, if_pos c1, c2, if_true, h3, hr, if_pos c3, c4, valOf]⟩
                        · cases ha
                      · cases ha
                    · cases ha
                  · cases ha
                · cases ha
            unfold AM.builtin at hop
            simp only at hop
            have ext : ∀ G : List Obj → Option (AV × List Obj), (∀ h2, G h2 = valOf (AM.builtin E h2 .append ts [.slice xs e tk, y])) → (match tk with
              | .exact => Foot.mk
              | .at r => Foot.wr r
              | .none => Foot.any).ok G h v h' → (match tk with
              | .exact => Foot.mk
              | .at r => Foot.wr r
              | .none => Foot.any).ok (fun h2 => valOf (AM.builtin E h2 .append ts [.slice xs e tk, y])) h v h' := fun G hG hk => by
              have : G = fun h2 => valOf (AM.builtin E h2 .append ts [.slice xs e tk, y]) := funext hG
              rw [← this]; exact hk
            split at hop
            · rename_i t0 t1
              split at hop
              · rename_i ys e' hys
                exact ext _ (fun h2 => by simp only [AM.builtin, t0, t1, el h2, hys]) (core _ _ _ _ hop)
              · cases hop
            · rename_i t0 t1
              split at hop
              · exact ext _ (fun h2 => by simp only [AM.builtin, t0, t1]) (core _ _ _ _ hop)
              · cases hop
            · cases hop
          cases y with
          | mslice => trivial
          | _ => exact key (fun _ _ _ _ _ _ h => by cases h)
        split
        · exact hap _ _ _ _ rfl
        · trivial
      case max =>
        generalize List.map (opnd t) as.toList = args at hop ⊢
        unfold AM.builtin at hop
        split at hop
        all_goals first
          | (rename_i heq; cases heq; done)
          | (cases hop; done)
          | (cases hop; exact ⟨rfl, fun h2 => rfl⟩)
      case min =>
        generalize List.map (opnd t) as.toList = args at hop ⊢
        unfold AM.builtin at hop
        split at hop
        all_goals first
          | (rename_i heq; cases heq; done)
          | (cases hop; done)
          | (cases hop; exact ⟨rfl, fun h2 => rfl⟩)

end
end AM

/- REGIONS THAT DRAW: an order that is drawn gives what the text's order gives. -/
namespace AM
open Go

def eff (E : Env) (κ : Kall) (own : Bool) (ops : Array Oper) (o : Oper) (t : List AV) (h : List Obj) : Option (AV × List Obj) :=
  match wanted ops t o with
  | none => none
  | some false => some (.tuple [], h)
  | some true => match op E own t h o.type o.op with
    | none => none
    | some (.val v h') => some (v, h')
    | some (.call g args) => κ g args h

def footO (E : Env) (ops : Array Oper) (o : Oper) (t : List AV) : Foot :=
  match wanted ops t o with
  | some true => foot E t o.op
  | _ => .none

section
variable {P : Program} {E : Env} {κ : Kall} {own : Bool} {ops : Array Oper}

theorem Foot.ok_mono {f : Foot} {F G : List Obj → Option (AV × List Obj)} {h h' : List Obj} {v : AV} (hFG : ∀ h2 v h', F h2 = some (v, h') → G h2 = some (v, h')) (hF : f.ok F h v h') : f.ok G h v h' := by
  cases f with
  | none => exact ⟨hF.1, fun h2 => hFG _ _ _ (hF.2 h2)⟩
  | rd r => exact ⟨hF.1, hF.2.1, fun h2 e => hFG _ _ _ (hF.2.2 h2 e)⟩
  | wr r => obtain ⟨ob, h1, h2, h3⟩ := hF; exact ⟨ob, h1, h2, fun h2 e => hFG _ _ _ (h3 h2 e)⟩
  | mk => obtain ⟨ob, h1, h2⟩ := hF; exact ⟨ob, h1, fun h3 e => hFG _ _ _ (h2 h3 e)⟩
  | any => trivial

theorem op_call_foot {t : List AV} {h : List Obj} {ty : Nat} {g : Nat} {args : List AV} (o : Op) (hop : op E own t h ty o = some (.call g args)) :
    (∀ h2, op E own t h2 ty o = some (.call g args)) ∧ (foot E t o = .any ∨ (isPure E g = true ∧ noM args = true ∧ foot E t o = .none) ∨ (isPure E g = true ∧ ∃ q, oneM args = some q ∧ foot E t o = .wr q)) := by
  have key : ∃ c f, o = .call c ∧ c.callee = .value f := by
    unfold op at hop
    simp only at hop
    split at hop
    case h_26 c =>
      cases hc : c.callee with
      | value f => exact ⟨c, f, rfl, hc⟩
      | invoke r m => rw [hc] at hop; cases hop
      | builtin b => rw [hc] at hop; exact absurd hop builtin_call
    all_goals exfalso
    all_goals first
      | exact val_call hop
      | (simp only [Option.map_eq_some_iff] at hop; obtain ⟨_, _, h⟩ := hop; cases h; done)
      | (repeat' split at hop) <;> first | exact val_call hop | (simp only [Option.map_eq_some_iff] at hop; obtain ⟨_, _, h⟩ := hop; cases h; done) | (cases hop; done)
  obtain ⟨c, f, rfl, hc⟩ := key
  simp only [op, hc] at hop ⊢
  refine ⟨fun _ => hop, ?_⟩
  simp only [foot, hc]
  unfold callVal at hop
  split at hop
  · rename_i heq
    cases hop
    by_cases hb : isPure E g = true
    · rw [hb]
      simp only [cond_true]
      rename_i first cap
      by_cases hn : noM (first ++ List.map (opnd t) c.args.toList ++ cap) = true
      · rw [hn]; exact .inr (.inl (by simp))
      · simp only [Bool.not_eq_true] at hn
        rw [hn]
        simp only [cond_false]
        split
        · rename_i q hq; exact .inr (.inr ⟨by simp, q, hq, rfl⟩)
        · exact .inl rfl
    · simp only [Bool.not_eq_true] at hb
      rw [hb]; exact .inl rfl
  · cases hop

theorem eff_ok (hs : Still E κ) {o : Oper} {t : List AV} {h h' : List Obj} {v : AV} (he : eff E κ own ops o t h = some (v, h')) : (footO E ops o t).ok (fun h2 => eff E κ own ops o t h2) h v h' := by
  unfold eff at he
  unfold footO
  cases hw : wanted ops t o with
  | none => rw [hw] at he; cases he
  | some b =>
    rw [hw] at he
    cases b with
    | false => cases he; exact ⟨rfl, fun h2 => by simp only [eff, hw]⟩
    | true =>
      simp only at he ⊢
      split at he
      · cases he
      · rename_i hop
        cases he
        refine Foot.ok_mono (fun h2 v h' h3 => ?_) (op_foot o.op hop)
        simp only [eff, hw]
        cases hr : op E own t h2 o.type o.op with
        | none => rw [hr] at h3; cases h3
        | some r => rw [hr] at h3; cases r with
          | val v h => cases h3; rfl
          | call g a => cases h3
      · rename_i g args hop
        obtain ⟨h1, h2⟩ := op_call_foot o.op hop
        rcases h2 with h2 | ⟨hp, hm, h2⟩ | ⟨hp, q, hq, h2⟩
        · rw [h2]; trivial
        · rw [h2]
          obtain ⟨k1, k2⟩ := (hs.1 g args h _ hp he).1 hm
          exact ⟨k1, fun h3 => by simp only [eff, hw, h1 h3]; exact k2 h3⟩
        · rw [h2]
          obtain ⟨k0, k1, k2⟩ := (hs.1 g args h _ hp he).2 q hq
          exact ⟨.dead, k1, k0, fun h3 h4 => by simp only [eff, hw, h1 h3]; exact k2 h3 h4⟩

theorem eff_congr {o : Oper} {t t' : List AV} (ht : ∀ d ∈ o.looksAt ops, t[d]? = t'[d]?) (h : List Obj) : eff E κ own ops o t h = eff E κ own ops o t' h ∧ footO E ops o t = footO E ops o t' := by
  have hw : wanted ops t o = wanted ops t' o := by
    unfold wanted
    cases hg : o.guard with
    | none => rfl
    | some p =>
      obtain ⟨j, want⟩ := p
      simp only
      cases hj : ops[j]? with
      | none => rfl
      | some o' =>
        simp only
        cases hd : o'.dst with
        | none => rfl
        | some d =>
          simp only
          rw [ht d (List.mem_append_right _ (by simp [hg, hj, hd]))]
  have hx : ∀ x ∈ o.op.operands, opnd t x = opnd t' x := by
    intro x hx
    cases x with
    | tmp d =>
      have := ht d (List.mem_append_left _ (List.mem_filterMap.2 ⟨.tmp d, by simpa using hx, rfl⟩))
      simp only [opnd, List.getD, this]
    | _ => rfl
  obtain ⟨h1, h2⟩ := op_congr (E := E) (own := own) (h := h) (ty := o.type) o.op hx
  unfold eff footO
  rw [hw, h1, h2]
  exact ⟨rfl, rfl⟩

/-- a run of some of a region's operations; F: what each touches -/
def Runs (E : Env) (κ : Kall) (own : Bool) (ops : Array Oper) (F : Nat → Foot) : List Nat → St → St → Prop
  | [], s, s' => s = s'
  | k :: l, s, s' => ∃ o v h', ops[k]? = some o ∧ eff E κ own ops o s.tmps s.heap = some (v, h') ∧ footO E ops o s.tmps = F k ∧ Runs E κ own ops F l { tmps := setT s.tmps o.dst v, heap := h' } s'

theorem runs_append {F : Nat → Foot} : ∀ {l l' : List Nat} {s s' : St}, Runs E κ own ops F (l ++ l') s s' ↔ ∃ s1, Runs E κ own ops F l s s1 ∧ Runs E κ own ops F l' s1 s' := by
  intro l
  induction l with
  | nil => intro l' s s'; exact ⟨fun h => ⟨s, rfl, h⟩, fun ⟨s1, h1, h2⟩ => by cases h1; exact h2⟩
  | cons k l ih =>
    intro l' s s'
    constructor
    · rintro ⟨o, v, h', h1, h2, h3, h4⟩
      obtain ⟨s1, k1, k2⟩ := ih.1 h4
      exact ⟨s1, ⟨o, v, h', h1, h2, h3, k1⟩, k2⟩
    · rintro ⟨s1, ⟨o, v, h', h1, h2, h3, k1⟩, k2⟩
      exact ⟨o, v, h', h1, h2, h3, ih.2 ⟨s1, k1, k2⟩⟩

theorem setT_ne {t : List AV} {dst : Option Nat} {v : AV} {d : Nat} (h : ∀ e, dst = some e → e ≠ d) : (setT t dst v)[d]? = t[d]? := by
  cases dst with
  | none => rfl
  | some e => simp only [setT]; rw [List.getElem?_set_ne (h e rfl)]
theorem setT_comm {t : List AV} {x y : Option Nat} (v u : AV) (h : ∀ d, x = some d → y ≠ some d) : setT (setT t x v) y u = setT (setT t y u) x v := by
  cases x with
  | none => rfl
  | some d => cases y with
    | none => rfl
    | some e =>
      simp only [setT]
      exact List.set_comm _ _ (fun he => h d rfl (by rw [he]))

theorem append_len {A : Ar} {esz eb : Nat} {h : List Obj} {xs : List AV} {e : Nat} {t : Tok} {ys : List AV} {e' : Nat} {v : AV} {h' : List Obj} (hr : append A esz eb h xs e t ys e' = some (.val v h')) : h.length ≤ h'.length := by
  unfold append at hr
  repeat' split at hr
  all_goals first | (cases hr; simp; done) | cases hr

theorem builtin_len {h : List Obj} {b : Builtin} {ts : Array TypeId} {as : List AV} {v : AV} {h' : List Obj} (hr : AM.builtin E h b ts as = some (.val v h')) : h.length ≤ h'.length := by
  unfold AM.builtin at hr
  repeat' split at hr
  all_goals first | exact append_len hr | (cases hr; simp; done) | cases hr

theorem store_len {d : TD} {a v : AV} {h h' : List Obj} (hr : store d a v h = some h') : h.length ≤ h'.length := by
  unfold store at hr
  repeat' split at hr
  all_goals first | (simp only [Option.map_eq_some_iff] at hr; obtain ⟨_, _, rfl⟩ := hr; simp; done) | cases hr

theorem op_len {t : List AV} {h : List Obj} {ty : Nat} {o : Op} {v : AV} {h' : List Obj} (hop : op E own t h ty o = some (.val v h')) : h.length ≤ h'.length := by
  unfold op at hop
  simp only at hop
  split at hop
  all_goals first
    | (obtain ⟨_, rfl⟩ := val_inv hop; exact Nat.le_refl _)
    | (cases hop; simp; done)
    | (cases hop; done)
    | skip
  all_goals (repeat' split at hop)
  all_goals first
    | (obtain ⟨_, rfl⟩ := val_inv hop; exact Nat.le_refl _)
    | (cases hop; simp; done)
    | (cases hop; done)
    | exact builtin_len hop
    | (simp only [Option.map_eq_some_iff] at hop; obtain ⟨_, h1, h2⟩ := hop; cases h2; first | exact store_len h1 | simp)
    | (unfold callVal at hop; split at hop <;> cases hop)

theorem eff_len (hs : Still E κ) {o : Oper} {t : List AV} {h h' : List Obj} {v : AV} (he : eff E κ own ops o t h = some (v, h')) : h.length ≤ h'.length := by
  unfold eff at he
  split at he
  · cases he
  · cases he; exact Nat.le_refl _
  · split at he
    · cases he
    · rename_i hop; cases he; exact op_len hop
    · exact hs.2 _ _ _ _ he

/-- two operations change places -/
theorem swap (hs : Still E κ) {F : Nat → Foot} {x y : Nat} {ox oy : Oper} (hx : ops[x]? = some ox) (hy : ops[y]? = some oy) (ht : oy.apart ops ox = true) {m : Nat} (hf : apart m (F y) (F x) = true) {s s' : St} (hm : m ≤ s.heap.length) (hr : Runs E κ own ops F [y, x] s s') :
    Runs E κ own ops F [x, y] s s' := by
  obtain ⟨o, vy, hy', h1, h2, h3, h4⟩ := hr
  rw [hy] at h1; cases h1
  obtain ⟨o, vx, hx', k1, k2, k3, k4⟩ := h4
  rw [hx] at k1; cases k1
  cases k4
  obtain ⟨a1, a2, a3⟩ := Oper.apart_spec ht
  have cx := fun h => eff_congr (E := E) (κ := κ) (own := own) (ops := ops) (o := ox) (t := setT s.tmps oy.dst vy) (t' := s.tmps) (fun d hd => setT_ne (fun e he hne => a1 e he (hne ▸ hd))) h
  simp only at k2 k3
  rw [(cx _).1] at k2
  rw [(cx []).2] at k3
  have ey := eff_ok hs h2
  have ex := eff_ok hs k2
  rw [h3] at ey
  rw [k3] at ex
  have fin : ∀ hx2, eff E κ own ops ox s.tmps s.heap = some (vx, hx2) → eff E κ own ops oy s.tmps hx2 = some (vy, hx') → Runs E κ own ops F [x, y] s { tmps := setT (setT s.tmps oy.dst vy) ox.dst vx, heap := hx' } := by
    intro hx2 e1 e2
    have cy := fun h => eff_congr (E := E) (κ := κ) (own := own) (ops := ops) (o := oy) (t := setT s.tmps ox.dst vx) (t' := s.tmps) (fun d hd => setT_ne (fun e he hne => a3 e he (hne ▸ hd))) h
    refine ⟨ox, vx, hx2, hx, e1, k3, oy, vy, hx', hy, ?_, ?_, ?_⟩
    · simp only; rw [(cy _).1]; exact e2
    · simp only; rw [(cy []).2]; exact h3
    · show _ = _
      rw [setT_comm (t := s.tmps) vy vx (fun d hd => a2 d hd)]
  generalize F x = fx at ex hf
  generalize F y = fy at ey hf
  cases fy with
  | none =>
    obtain ⟨rfl, e2⟩ := ey
    exact fin hx' k2 (e2 hx')
  | rd r =>
    obtain ⟨rfl, hlt, e2⟩ := ey
    cases fx with
    | none => obtain ⟨rfl, e3⟩ := ex; exact fin _ (e3 _) h2
    | rd r2 => obtain ⟨rfl, _, e3⟩ := ex; exact fin _ k2 h2
    | wr r2 =>
      obtain ⟨ob, rfl, hl2, e3⟩ := ex
      have hne : r2 ≠ r := by simp only [apart, Bool.not_eq_true', Nat.beq_eq_true_eq] at hf; intro h; subst h; simp at hf
      exact fin _ k2 (e2 _ (by rw [List.getElem?_set_ne hne]))
    | mk =>
      obtain ⟨ob, rfl, e3⟩ := ex
      exact fin _ k2 (e2 _ (by rw [List.getElem?_append_left hlt]))
    | any => cases hf
  | wr r =>
    obtain ⟨ob1, rfl, hlt, e2⟩ := ey
    cases fx with
    | none => obtain ⟨rfl, e3⟩ := ex; exact fin _ (e3 _) h2
    | rd r2 =>
      obtain ⟨rfl, hl2, e3⟩ := ex
      have hne : r ≠ r2 := by simp only [apart] at hf; intro h; subst h; simp at hf
      exact fin _ (e3 _ (by rw [List.getElem?_set_ne hne])) h2
    | wr r2 =>
      obtain ⟨ob, rfl, hl2, e3⟩ := ex
      have hne : r ≠ r2 := by simp only [apart] at hf; intro h; subst h; simp at hf
      refine fin _ (e3 _ (by rw [List.getElem?_set_ne hne])) ?_
      rw [List.set_comm _ _ hne]
      exact e2 _ (by rw [List.getElem?_set_ne (Ne.symm hne)])
    | mk =>
      obtain ⟨ob, rfl, e3⟩ := ex
      refine fin _ (e3 _ (by simp)) ?_
      rw [← List.set_append_left _ _ hlt]
      exact e2 _ (by rw [List.getElem?_append_left hlt])
    | any => cases hf
  | mk =>
    obtain ⟨ob1, rfl, e2⟩ := ey
    cases fx with
    | none => obtain ⟨rfl, e3⟩ := ex; exact fin _ (e3 _) h2
    | rd r2 =>
      obtain ⟨rfl, hl2, e3⟩ := ex
      have hlt : r2 < s.heap.length := Nat.lt_of_lt_of_le (blt_true.1 hf) hm
      exact fin _ (e3 _ (by rw [List.getElem?_append_left hlt])) h2
    | wr r2 =>
      obtain ⟨ob, rfl, hl2, e3⟩ := ex
      have hlt : r2 < s.heap.length := Nat.lt_of_lt_of_le (blt_true.1 hf) hm
      refine fin _ (e3 _ (by rw [List.getElem?_append_left hlt])) ?_
      rw [List.set_append_left _ _ hlt]
      exact e2 _ (by simp)
    | mk => cases hf
    | any => cases hf
  | any =>
    cases fx with
    | none => obtain ⟨rfl, e3⟩ := ex; exact fin _ (e3 _) h2
    | _ => cases hf

/-- an operation that none of those before it has to come before comes first -/
theorem bubble (hs : Still E κ) {F : Nat → Foot} {x : Nat} {ox : Oper} (hx : ops[x]? = some ox) {m : Nat} : ∀ (p : List Nat) (s s' : St), m ≤ s.heap.length → (∀ y ∈ p, ∃ oy, ops[y]? = some oy ∧ oy.apart ops ox = true ∧ apart m (F y) (F x) = true) →
    Runs E κ own ops F (p ++ [x]) s s' → Runs E κ own ops F (x :: p) s s' := by
  intro p
  induction p with
  | nil => intro s s' _ _ h; exact h
  | cons y p ih =>
    intro s s' hm hp hr
    obtain ⟨oy, v, h', h1, h2, h3, h4⟩ := hr
    have h5 := ih _ s' (Nat.le_trans hm (eff_len hs h2)) (fun z hz => hp z (.tail _ hz)) h4
    obtain ⟨oy', hy, ht, hf⟩ := hp y (.head _)
    rw [hy] at h1; cases h1
    obtain ⟨o2, v2, h2', k1, k2, k3, k4⟩ := h5
    have : Runs E κ own ops F [x, y] s _ := swap hs hx hy ht hf hm ⟨_, v, h', hy, h2, h3, o2, v2, h2', k1, k2, k3, rfl⟩
    exact runs_append (l := [x, y]).2 ⟨_, this, k4⟩

end
end AM

/- REGIONS THAT DRAW: what is to be looked at in the code, and what follows. -/
namespace AM
open Go

/-- which operations have to come before which, as bits -/
def befs : List Oper → List Nat → List Nat
  | [], acc => acc
  | o :: os, acc => befs os (acc ++ [o.after.toList.foldl (fun s e => bif Region.binds .any e then s ||| 2 ^ e.on ||| acc.getD e.on 0 else s) 0])

def kindN : Op → Bool
  | .move _ | .pick .. | .build .. | .buildSlice .. | .nilCheck _ | .binOp .. | .unOp .. | .makeFunc .. | .slice .. | .fieldAddr .. | .field .. | .indexAddr .. | .index .. | .extract .. => true
  | .assign x => !isNil x
  | .call c => match c.callee with
    | .builtin .min | .builtin .max => true
    | _ => false
  | _ => false

def kindR : Op → Bool
  | .load .. | .lookup .. => true
  | .call c => match c.callee with
    | .builtin .len => true
    | _ => false
  | _ => false

def stab (ops : Array Oper) (a : Nat) : Bool :=
  match ops[a]? with
  | some x => (List.range ops.size).all fun k => Nat.blt k a || (match ops[k]? with
    | some o => match o.dst with
      | some d => !(x.looksAt ops).contains d
      | none => true
    | none => true)
  | none => false

def drawSt (ops : Array Oper) (ps : List (Nat × Nat)) : Bool :=
  ps.all (fun p => stab ops p.1 && stab ops p.2) &&
  ((List.range ops.size).all fun j => match ops[j]? with
    | none => false
    | some y => (y.after.toList.all fun e => !Region.binds .any e || Nat.blt e.on j) &&
      (List.range j).all fun i => ((befs ops.toList []).getD j 0).testBit i || (match ops[i]? with
        | none => false
        | some x => x.apart ops y && (kindN x.op || kindN y.op || (kindR x.op && kindR y.op) || ps.contains (i, j))))

section
variable {P : Program} {E : Env} {κ : Kall} {own : Bool} {ops : Array Oper}

inductive Bef (ops : Array Oper) : Nat → Nat → Prop
  | edge {i : Nat} {o : Oper} {e : Edge} (ho : ops[i]? = some o) (he : e ∈ o.after) (hb : Region.binds .any e = true) : Bef ops e.on i
  | trans {i j : Nat} {o : Oper} {e : Edge} (ho : ops[i]? = some o) (he : e ∈ o.after) (hb : Region.binds .any e = true) (h : Bef ops j e.on) : Bef ops j i

theorem befs_sound : ∀ (os pre : List Oper) (acc : List Nat), ops.toList = pre ++ os → acc.length = pre.length → (∀ i j, (acc.getD i 0).testBit j = true → Bef ops j i) →
    ∀ i j, ((befs os acc).getD i 0).testBit j = true → Bef ops j i := by
  intro os
  induction os with
  | nil => intro pre acc _ _ h; exact h
  | cons o os ih =>
    intro pre acc hops hlen hacc
    rw [befs]
    refine ih (pre ++ [o]) _ (by rw [hops]; simp) (by simp [hlen]) (fun i j hij => ?_)
    have ho : ops[pre.length]? = some o := by
      rw [← Array.getElem?_toList, hops]
      simp
    simp only [List.getD_eq_getElem?_getD, List.getElem?_append] at hij
    split at hij
    · exact hacc i j (by simpa [List.getD_eq_getElem?_getD] using hij)
    · rename_i hlt
      by_cases hi : i = acc.length
      · subst hi
        simp only [Nat.sub_self, List.getElem?_cons_zero, Option.getD_some] at hij
        rw [hlen]
        have gen : ∀ (es : List Edge) (s : Nat), (∀ e ∈ es, e ∈ o.after) → (s.testBit j = true → Bef ops j pre.length) → (es.foldl (fun s e => bif Region.binds .any e then s ||| 2 ^ e.on ||| acc.getD e.on 0 else s) s).testBit j = true → Bef ops j pre.length := by
          intro es
          induction es with
          | nil => intro s _ hs h; exact hs h
          | cons e es ihe =>
            intro s hes hs h
            rw [List.foldl_cons] at h
            refine ihe _ (fun e' he' => hes e' (.tail _ he')) (fun hb => ?_) h
            cases hbd : Region.binds .any e with
            | false => rw [hbd] at hb; exact hs hb
            | true =>
              rw [hbd] at hb
              simp only [cond_true, Nat.testBit_or, Bool.or_eq_true, Nat.testBit_two_pow] at hb
              rcases hb with (hb | hb) | hb
              · exact hs hb
              · simp only [decide_eq_true_eq] at hb
                rw [← hb]
                exact .edge ho (hes e (.head _)) hbd
              · exact .trans ho (hes e (.head _)) hbd (hacc _ _ hb)
        exact gen o.after.toList 0 (fun e he => by simpa using he) (by simp) hij
      · have : i - acc.length ≠ 0 := by omega
        rw [List.getElem?_eq_none (by simp; omega)] at hij
        simp at hij

theorem kindN_foot {o : Op} (h : kindN o = true) (t : List AV) : foot E t o = .none := by
  cases o <;> simp only [kindN] at h <;> first | rfl | cases h | skip
  case assign x => simp only [foot]; rw [Bool.not_eq_true'] at h; rw [h]; rfl
  case call c =>
    simp only [foot]
    cases hc : c.callee with
    | builtin b => rw [hc] at h; cases b <;> first | rfl | cases h
    | _ => rw [hc] at h; cases h

theorem kindR_foot {o : Op} (h : kindR o = true) (t : List AV) : foot E t o = .none ∨ ∃ r, foot E t o = .rd r := by
  cases o <;> simp only [kindR] at h <;> first | cases h | skip
  case load => simp only [foot]; split <;> first | exact .inr ⟨_, rfl⟩ | exact .inl rfl
  case lookup => simp only [foot]; split <;> first | exact .inr ⟨_, rfl⟩ | exact .inl rfl
  case call c =>
    simp only [foot]
    cases hc : c.callee with
    | builtin b =>
      rw [hc] at h
      cases b <;> first | cases h | skip
      simp only
      split <;> first | exact .inr ⟨_, rfl⟩ | exact .inl rfl
    | _ => rw [hc] at h; cases h

theorem footO_N {o : Oper} (h : kindN o.op = true) (t : List AV) : footO E ops o t = .none := by
  unfold footO
  split
  · exact kindN_foot h t
  · rfl
theorem footO_R {o : Oper} (h : kindR o.op = true) (t : List AV) : footO E ops o t = .none ∨ ∃ r, footO E ops o t = .rd r := by
  unfold footO
  split
  · exact kindR_foot h t
  · exact .inl rfl

/-- what is left of a region's operations -/
def rest (ops : Array Oper) (listed : Array Bool) : List Nat := (List.range ops.size).filter fun i => !listed.getD i true

end
end AM

/- REGIONS THAT DRAW: any order gives what the text's order gives. -/
namespace AM
open Go

section
variable {P : Program} {E : Env} {κ : Kall} {own : Bool} {ops : Array Oper} {ro : Option Nat} {nd : Nat} {ds : List Deferred}

theorem runOps_cons (o : Oper) (os : List Oper) (s : St) : runOps E κ own ops (o :: os) s = (match eff E κ own ops o s.tmps s.heap with
    | none => none
    | some (v, h') => runOps E κ own ops os { tmps := setT s.tmps o.dst v, heap := h' }) := by
  rw [runOps]
  unfold eff
  cases hw : wanted ops s.tmps o with
  | none => rfl
  | some b =>
    cases b with
    | false => rfl
    | true =>
      simp only
      cases ho : op E own s.tmps s.heap o.type o.op with
      | none => rfl
      | some r =>
        cases r with
        | val v h => rfl
        | call g args =>
          simp only
          cases κ g args s.heap with
          | none => rfl
          | some x => rfl

theorem runs_congr {F G : Nat → Foot} : ∀ {l : List Nat} {s s' : St}, (∀ k ∈ l, F k = G k) → Runs E κ own ops F l s s' → Runs E κ own ops G l s s' := by
  intro l
  induction l with
  | nil => intro s s' _ h; exact h
  | cons k l ih =>
    rintro s s' h ⟨o, v, h', h1, h2, h3, h4⟩
    exact ⟨o, v, h', h1, h2, by rw [h3]; exact h k (.head _), ih (fun j hj => h j (.tail _ hj)) h4⟩

theorem runs_exists : ∀ (l : List Nat), l.Nodup → (∀ k ∈ l, k < ops.size) → ∀ s s', runOps E κ own ops (l.filterMap (ops[·]?)) s = some s' → ∃ F, Runs E κ own ops F l s s' := by
  intro l
  induction l with
  | nil => intro _ _ s s' h; cases h; exact ⟨fun _ => .none, rfl⟩
  | cons k l ih =>
    intro hn hk s s' h
    have hks := hk k (.head _)
    obtain ⟨o, ho⟩ : ∃ o, ops[k]? = some o := ⟨_, Array.getElem?_eq_getElem hks⟩
    rw [List.filterMap_cons, ho] at h
    simp only at h
    rw [runOps_cons] at h
    simp only [List.nodup_cons] at hn
    cases he : eff E κ own ops o s.tmps s.heap with
    | none => rw [he] at h; cases h
    | some x =>
      obtain ⟨v, h'⟩ := x
      rw [he] at h
      obtain ⟨F, hF⟩ := ih hn.2 (fun j hj => hk j (.tail _ hj)) _ s' h
      refine ⟨fun j => if j = k then footO E ops o s.tmps else F j, o, v, h', ho, he, by simp, runs_congr (fun j hj => ?_) hF⟩
      have : j ≠ k := fun e => hn.1 (e ▸ hj)
      simp [this]

theorem runs_stable {F : Nat → Foot} {d : Nat} : ∀ {l : List Nat} {s s' : St}, Runs E κ own ops F l s s' → (∀ k ∈ l, ∀ o, ops[k]? = some o → o.dst ≠ some d) → s'.tmps[d]? = s.tmps[d]? := by
  intro l
  induction l with
  | nil => intro s s' h _; cases h; rfl
  | cons k l ih =>
    rintro s s' ⟨o, v, h', h1, h2, h3, h4⟩ hd
    rw [ih h4 (fun j hj => hd j (.tail _ hj))]
    exact setT_ne (fun e he hed => hd k (.head _) o h1 (hed ▸ he))

/-- what a listed operation touches can be seen at the end -/
theorem foot_end {F : Nat → Foot} {s s' : St} (hr : Runs E κ own ops F (List.range ops.size) s s') {a : Nat} (ha : stab ops a = true) : F a = footAt E ops s'.tmps a := by
  unfold stab at ha
  cases hx : ops[a]? with
  | none => rw [hx] at ha; cases ha
  | some x =>
    rw [hx] at ha
    simp only [List.all_eq_true] at ha
    have hlt : a < ops.size := by
      rcases Nat.lt_or_ge a ops.size with h | h
      · exact h
      · rw [Array.getElem?_eq_none h] at hx; cases hx
    obtain ⟨p, q, hpq⟩ := List.append_of_mem (List.mem_range.2 hlt)
    have hsort := List.pairwise_lt_range (n := ops.size)
    rw [hpq] at hr hsort
    obtain ⟨s1, h1, h2⟩ := runs_append.1 hr
    have h2' := h2
    obtain ⟨o, v, h', k1, k2, k3, k4⟩ := h2
    rw [hx] at k1; cases k1
    rw [← k3]
    have hq : ∀ k ∈ a :: q, a ≤ k := by
      intro k hk
      cases hk with
      | head => exact Nat.le_refl _
      | tail _ hk => exact Nat.le_of_lt ((List.pairwise_cons.1 (List.pairwise_append.1 hsort).2.1).1 k hk)
    have hmem : ∀ k ∈ a :: q, k ∈ List.range ops.size := fun k hk => by rw [hpq]; exact List.mem_append_right _ hk
    have agree : ∀ d ∈ x.looksAt ops, s1.tmps[d]? = s'.tmps[d]? := by
      intro d hd
      refine (runs_stable h2' (fun k hk o ho hdst => ?_)).symm
      have := ha k (hmem k hk)
      rw [ho] at this
      simp only [hdst, Bool.or_eq_true, blt_true, Bool.not_eq_true', List.contains_eq_mem, decide_eq_false_iff_not] at this
      rcases this with h | h
      · have := hq k hk; omega
      · exact h hd
    rw [(eff_congr (E := E) (κ := κ) (own := own) agree []).2]
    unfold footO footAt
    rw [hx]
    rfl

theorem step_sim (hE : EnvR P E) (hκ : CallR P κ) {k : Nat} {o : Oper} (ho : ops[k]? = some o) {s : St} {v : AV} {h' : List Obj} (he : eff E κ own ops o s.tmps s.heap = some (v, h'))
    {Φ : Phi} {a : Act} {w : World} (hw : WR Φ s.heap w) (ht : VRs Φ s.tmps a.tmps.toList) (hd : a.defers = ds) {Q : Exit → Act → World → Prop} {K : Act → World → Prop}
    (hK : ∀ (Ψ : Phi) (a' : Act) (w' : World), Φ.le Ψ → WR Ψ h' w' → VRs Ψ (setT s.tmps o.dst v) a'.tmps.toList → a'.defers = ds → K a' w') : wpOpIn (rnd ro) nd P ops Q k K a w := by
  unfold wpOpIn
  rw [ho]
  simp only
  unfold eff at he
  have htup : VR Φ (.tuple []) undef := .tuple [] #[] rfl (fun k a v h => by simp at h)
  split at he
  · cases he
  · rename_i hwa
    cases he
    rw [wanted_R ht hwa]
    simp only [Bool.false_eq_true, if_false]
    exact ⟨fun _ _ => trivial, hK Φ _ w (.refl Φ) hw (setT_R ht o.dst htup) (by rw [put_defers]; exact hd)⟩
  · rename_i hwa
    rw [wanted_R ht hwa]
    simp only [if_true]
    refine ⟨fun _ _ => trivial, ?_⟩
    split at he
    · cases he
    · rename_i hop
      cases he
      obtain ⟨Ψ, w', hle, hw', hres⟩ := op_val (P := P) hw hE ht o hop
      rw [Oper.semAt_eq _ _ _ (op_nodefer hop)]
      rcases hres with ⟨v', hrun, hv⟩ | ⟨hrun, hv⟩
      · rw [hrun]; exact hK Ψ _ w' hle hw' (setT_R (ht.mono hle) o.dst hv) (by rw [put_defers]; exact hd)
      · rw [hrun]; subst hv; exact hK Ψ _ w' hle hw' (setT_R (ht.mono hle) o.dst (htup.mono hle)) (by rw [put_defers]; exact hd)
    · rename_i g args hop
      obtain ⟨args', hrun, ha⟩ := op_call (P := P) (w := w) hw.tab ht o hop
      obtain ⟨hen, hc⟩ := hκ _ _ _ _ he
      rw [Oper.semAt_eq _ _ _ (op_nodefer hop), hrun, run_callFunc hen]
      refine ⟨fun h => by simp [rnd, Fence.wide] at h, callsIn_rnd ?_⟩
      refine (hc Φ w args' hw ha).mono (fun e w' he => ?_)
      obtain ⟨v', Ψ, rfl, hle, hw', hv⟩ := he
      exact hK Ψ _ w' hle hw' (setT_R (ht.mono hle) o.dst hv) (by rw [put_defers]; exact hd)

def Closed (ops : Array Oper) (listed : Array Bool) : Prop := ∀ k o, ops[k]? = some o → listed.getD k false = true → ∀ e ∈ o.after, Region.binds .any e = true → listed.getD e.on false = true

theorem Closed.bef {listed : Array Bool} (hc : Closed ops listed) {i j : Nat} (h : Bef ops i j) : listed.getD j false = true → listed.getD i false = true := by
  induction h with
  | edge ho he hb => exact fun hj => hc _ _ ho hj _ he hb
  | trans ho he hb _ ih => exact fun hj => ih (hc _ _ ho hj _ he hb)

theorem mem_rest {listed : Array Bool} {i : Nat} : i ∈ rest ops listed ↔ i < ops.size ∧ listed.getD i true = false := by
  simp [rest]

theorem getD_true {listed : Array Bool} {i : Nat} (hl : i < listed.size) : listed.getD i true = listed.getD i false := by simp [Array.getD, hl]

theorem getD_set {listed : Array Bool} {i k : Nat} {d : Bool} (h : i ≠ k) : (listed.setIfInBounds i true).getD k d = listed.getD k d := by
  rw [Array.getD_eq_getD_getElem?, Array.getD_eq_getD_getElem?, Array.getElem?_setIfInBounds_ne h]

theorem wpAny_sim (hE : EnvR P E) (hκ : CallR P κ) (hs : Still E κ) {m : Nat} {F : Nat → Foot}
    (hind : ∀ i j, i < j → j < ops.size → Bef ops i j ∨ ∃ x y, ops[i]? = some x ∧ ops[j]? = some y ∧ x.apart ops y = true ∧ apart m (F i) (F j) = true)
    (hedge : ∀ j o, ops[j]? = some o → ∀ e ∈ o.after, Region.binds .any e = true → e.on < j) {Q : Exit → Act → World → Prop} {s' : St} :
    ∀ (fuel : Nat) (listed : Array Bool) (s : St) (Φ : Phi) (a : Act) (w : World), listed.size = ops.size → Closed ops listed → (rest ops listed).length ≤ fuel → m ≤ s.heap.length → Runs E κ own ops F (rest ops listed) s s' →
      WR Φ s.heap w → VRs Φ s.tmps a.tmps.toList → a.defers = ds → Post Q Φ ds .normal s' → wpAnyIn (rnd ro) nd P .any ops Q fuel listed a w := by
  have ready_spec : ∀ {listed : Array Bool} {i : Nat}, i ∈ Region.ready .any ops listed → i ∈ rest ops listed ∧ ∃ o, ops[i]? = some o ∧ ∀ e ∈ o.after, Region.binds .any e = true → listed.getD e.on false = true := by
    intro listed i hi
    simp only [Region.ready, List.mem_filter, List.mem_range, Bool.and_eq_true, Bool.not_eq_true'] at hi
    obtain ⟨h1, h2, h3⟩ := hi
    refine ⟨mem_rest.2 ⟨h1, h2⟩, ?_⟩
    cases ho : ops[i]? with
    | none => rw [ho] at h3; cases h3
    | some o =>
      rw [ho] at h3
      simp only [Option.map_some, Option.getD_some, Array.all_eq_true'] at h3
      refine ⟨o, rfl, fun e he hb => ?_⟩
      have := h3 e he
      rw [hb] at this
      simpa using this
  have empty : ∀ {listed : Array Bool}, listed.size = ops.size → Region.ready .any ops listed = [] → rest ops listed = [] := by
    intro listed hsz hr
    have all : ∀ k, k < ops.size → listed.getD k false = true := by
      intro k
      induction k using Nat.strongRecOn with
      | _ k ih =>
        intro hk
        cases hlk : listed.getD k false with
        | true => rfl
        | false =>
          have : k ∈ Region.ready .any ops listed := by
            simp only [Region.ready, List.mem_filter, List.mem_range, Bool.and_eq_true, Bool.not_eq_true']
            refine ⟨hk, by rw [getD_true (by omega)]; exact hlk, ?_⟩
            rw [Array.getElem?_eq_getElem hk]
            simp only [Option.map_some, Option.getD_some, Array.all_eq_true']
            intro e he
            cases hb : Region.binds .any e with
            | false => rfl
            | true =>
              have hlt := hedge k _ (Array.getElem?_eq_getElem hk) e he hb
              simp [ih e.on hlt (by omega)]
          rw [hr] at this; cases this
    apply List.eq_nil_iff_forall_not_mem.2
    intro i hi
    obtain ⟨h1, h2⟩ := mem_rest.1 hi
    rw [getD_true (by omega), all i h1] at h2
    cases h2
  intro fuel
  induction fuel with
  | zero =>
    intro listed s Φ a w hsz hc hlen hm hr hw ht hd hQ
    have h0 : rest ops listed = [] := List.eq_nil_of_length_eq_zero (by omega)
    refine ⟨?_, ?_⟩
    · apply List.eq_nil_iff_forall_not_mem.2
      intro i hi
      have := (ready_spec hi).1
      rw [h0] at this; cases this
    · rw [h0] at hr; cases hr; exact hQ Φ a w (.refl Φ) hw ht hd
  | succ fuel ih =>
    intro listed s Φ a w hsz hc hlen hm hr hw ht hd hQ
    refine ⟨fun hready => ?_, fun i hi => ?_⟩
    · rw [empty hsz hready] at hr; cases hr; exact hQ Φ a w (.refl Φ) hw ht hd
    · obtain ⟨him, o, ho, hon⟩ := ready_spec hi
      obtain ⟨p, q, hpq⟩ := List.append_of_mem him
      have hsort : (rest ops listed).Pairwise (· < ·) := (List.pairwise_lt_range (n := ops.size)).filter _
      rw [hpq] at hsort
      have hp : ∀ y ∈ p, ∃ oy, ops[y]? = some oy ∧ oy.apart ops o = true ∧ apart m (F y) (F i) = true := by
        intro y hy
        have hyi : y < i := (List.pairwise_append.1 hsort).2.2 y hy i (.head _)
        have hyr : y ∈ rest ops listed := by rw [hpq]; exact List.mem_append_left _ hy
        obtain ⟨y1, y2⟩ := mem_rest.1 hyr
        rcases hind y i hyi (mem_rest.1 him).1 with hb | ⟨x, y', hx, hy', h1, h2⟩
        · exfalso
          have : listed.getD y false = true := by
            cases hb with
            | edge ho' he hb' => rw [ho] at ho'; cases ho'; exact hon _ he hb'
            | trans ho' he hb' h => rw [ho] at ho'; cases ho'; exact hc.bef h (hon _ he hb')
          rw [getD_true (by omega), this] at y2
          cases y2
        · rw [ho] at hy'; cases hy'; exact ⟨x, hx, h1, h2⟩
      rw [hpq, show p ++ i :: q = (p ++ [i]) ++ q by simp] at hr
      obtain ⟨s1, r1, r2⟩ := runs_append.1 hr
      obtain ⟨o2, v, h', k1, k2, k3, k4⟩ := bubble hs ho p s s1 hm hp r1
      rw [ho] at k1; cases k1
      refine step_sim hE hκ ho k2 hw ht hd (fun Ψ a' w' l1 l2 l3 l4 => ?_)
      have hi' : i < ops.size := (mem_rest.1 him).1
      have hrest : rest ops (listed.setIfInBounds i true) = p ++ q := by
        have h1 : rest ops (listed.setIfInBounds i true) = (rest ops listed).filter fun k => k != i := by
          unfold rest
          rw [List.filter_filter]
          apply List.filter_congr
          intro k hk
          have hk' := List.mem_range.1 hk
          by_cases hki : k = i
          · subst hki; simp [Array.getD, hsz, hk']
          · have : (k != i) = true := by simpa using hki
            rw [this, getD_set (Ne.symm hki)]
            simp
        rw [h1, hpq, List.filter_append, List.filter_cons]
        simp only [bne_self_eq_false, Bool.false_eq_true, if_false]
        rw [List.filter_eq_self.2, List.filter_eq_self.2]
        · intro k hk
          have := (List.pairwise_cons.1 (List.pairwise_append.1 hsort).2.1).1 k hk
          simp; omega
        · intro k hk
          have := (List.pairwise_append.1 hsort).2.2 k hk i (.head _)
          simp; omega
      have up : ∀ k, listed.getD k false = true → (listed.setIfInBounds i true).getD k false = true := by
        intro k hk
        by_cases hki : k = i
        · subst hki; simp [Array.getD, hsz, hi']
        · rw [getD_set (Ne.symm hki)]; exact hk
      refine ih _ { tmps := setT s.tmps o.dst v, heap := h' } Ψ a' w' (by simp [hsz]) ?_ ?_ (Nat.le_trans hm (eff_len hs k2)) ?_ l2 l3 l4 (hQ.le l1)
      · intro k ok hok hk e he hb
        by_cases hki : k = i
        · subst hki; rw [ho] at hok; cases hok; exact up _ (hon e he hb)
        · rw [getD_set (Ne.symm hki)] at hk
          exact up _ (hc k ok hok hk e he hb)
      · rw [hrest]
        rw [hpq] at hlen
        simp only [List.length_append, List.length_cons] at hlen ⊢
        omega
      · rw [hrest]
        exact runs_append.2 ⟨s1, k4, r2⟩

theorem drawR (hmix : P.follows .mixedOrders = true) (hE : EnvR P E) {i : Info} {code : Code} (hst : ∀ id ops ps, lookupN i.pairs id = some ps → Code.region id ops true ∈ regionsIn code → drawSt ops ps = true) (hκ : CallR P κ) (hs : Still E κ) :
    ∀ (ro : Option Nat) (nd : Nat) (ds : List Deferred) id ops, Code.region id ops true ∈ regionsIn code → ∀ s s', runOps E κ i.own ops ops.toList s = some s' → drawOk E i id ops s.heap.length s'.tmps = true →
      ∀ (Φ : Phi) (a : Act) (w : World), WR Φ s.heap w → VRs Φ s.tmps a.tmps.toList → a.defers = ds → ∀ Q, Post Q Φ ds .normal s' → (Code.region id ops true).wpIn (rnd ro) nd P Q a w := by
  intro ro nd ds id ops hreg s s' hrun hok Φ a w hw ht hd Q hQ
  unfold drawOk at hok
  cases hps : lookupN i.pairs id with
  | none => rw [hps] at hok; cases hok
  | some ps =>
    rw [hps] at hok
    simp only [List.all_eq_true] at hok
    have hst' := hst id ops ps hps hreg
    simp only [drawSt, Bool.and_eq_true, List.all_eq_true] at hst'
    obtain ⟨hstab, hall⟩ := hst'
    obtain ⟨F, hF⟩ := runs_exists (E := E) (κ := κ) (own := i.own) (List.range ops.size) List.nodup_range (fun k hk => List.mem_range.1 hk) s s' (by rw [range_ops]; exact hrun)
    have hedge : ∀ j o, ops[j]? = some o → ∀ e ∈ o.after, Region.binds .any e = true → e.on < j := by
      intro j o ho e he hb
      have hj : j < ops.size := by
        rcases Nat.lt_or_ge j ops.size with h | h
        · exact h
        · rw [Array.getElem?_eq_none h] at ho; cases ho
      have := hall j (List.mem_range.2 hj)
      rw [ho] at this
      simp only [Bool.and_eq_true, List.all_eq_true] at this
      have := this.1 e (by simpa using he)
      rw [hb] at this
      simpa [blt_true] using this
    have hind : ∀ i j, i < j → j < ops.size → Bef ops i j ∨ ∃ x y, ops[i]? = some x ∧ ops[j]? = some y ∧ x.apart ops y = true ∧ apart s.heap.length (F i) (F j) = true := by
      intro x y hxy hy
      have h1 := hall y (List.mem_range.2 hy)
      obtain ⟨oy, hoy⟩ : ∃ o, ops[y]? = some o := ⟨_, Array.getElem?_eq_getElem hy⟩
      obtain ⟨ox, hox⟩ : ∃ o, ops[x]? = some o := ⟨_, Array.getElem?_eq_getElem (show x < ops.size by omega)⟩
      rw [hoy] at h1
      simp only [Bool.and_eq_true, List.all_eq_true] at h1
      have h2 := h1.2 x (List.mem_range.2 hxy)
      rw [hox] at h2
      simp only [Bool.or_eq_true, Bool.and_eq_true] at h2
      rcases h2 with h2 | ⟨h2, h3⟩
      · exact .inl (befs_sound ops.toList [] [] rfl rfl (fun i j h => by simp at h) y x h2)
      · refine .inr ⟨ox, oy, hox, hoy, h2, ?_⟩
        have foot_at : ∀ k o, ops[k]? = some o → k < ops.size → ∃ t, F k = footO E ops o t := by
          intro k o ho hk
          obtain ⟨p, q, hpq⟩ := List.append_of_mem (List.mem_range.2 hk)
          have hF' := hF
          rw [hpq] at hF'
          obtain ⟨s1, _, o', v, h', k1, _, k3, _⟩ := runs_append.1 hF'
          rw [ho] at k1; cases k1
          exact ⟨_, k3.symm⟩
        obtain ⟨tx, hFx⟩ := foot_at x ox hox (by omega)
        obtain ⟨ty, hFy⟩ := foot_at y oy hoy hy
        rcases h3 with ((h3 | h3) | ⟨h3, h4⟩) | h3
        · rw [hFx, footO_N h3]; rfl
        · rw [hFy, footO_N h3]; cases F x <;> rfl
        · rw [hFx, hFy]
          rcases footO_R (E := E) (ops := ops) h3 tx with e1 | ⟨r1, e1⟩ <;> rcases footO_R (E := E) (ops := ops) h4 ty with e2 | ⟨r2, e2⟩ <;> rw [e1, e2] <;> rfl
        · have hm : (x, y) ∈ ps := by simpa using h3
          have hsb := hstab _ hm
          rw [foot_end hF hsb.1, foot_end hF hsb.2]
          exact hok _ hm
    have hrest : rest ops (Array.replicate ops.size false) = List.range ops.size := by
      unfold rest
      refine List.filter_eq_self.2 (fun k hk => ?_)
      have := List.mem_range.1 hk
      simp [Array.getD, this]
    refine wpIn_region_draw (fun t => ?_)
    have hsch : Region.schedule (P.follows .mixedOrders) ops t = Region.linearise .any ops t := by
      simp [Region.schedule, hmix]
    rw [hsch]
    refine wpAnyIn_sound ops.size t _ a _ ?_
    refine wpAny_sim hE hκ hs hind hedge ops.size _ s Φ a _ (by simp) ?_ (by rw [hrest]; simp) (Nat.le_refl _) (by rw [hrest]; exact hF) hw.drew ht hd hQ
    intro k o _ hk
    simp [Array.getD] at hk

end
end AM

/- WHAT THE ABSTRACT MACHINE GIVES, THE MODEL GIVES: the whole, and what is to be looked at in a program. -/
namespace AM
open Go

def apartAll : List Nat → Bool
  | [] => true
  | k :: l => !l.contains k && apartAll l

/-- what is looked at in a function's code -/
def fnOk (i : Info) (c : Code) : Bool :=
  okRF c && apartAll ((loopsIn c).map (·.1)) && (regionsIn c).all fun r => match r with
    | .region id ops true => match lookupN i.pairs id with
      | some ps => drawSt ops ps
      | none => true
    | _ => true

structure FnT (P : Program) (E : Env) : Prop where
  mixed : P.follows .mixedOrders = true
  go : ∀ g i fn, E.fn g = some (.go i fn) → P.funcs[g]? = some fn ∧ fn.name ≠ "runtime.NumGoroutine" ∧ ∀ c, fn.body = some c → fnOk i c = true
  prim : ∀ g p, E.fn g = some (.prim p) → PrimR P g p
  iter : IterR P E

theorem apartAll_nodup : ∀ {l : List Nat}, apartAll l = true → l.Nodup := by
  intro l
  induction l with
  | nil => intro _; exact List.nodup_nil
  | cons k l ih =>
    intro h
    simp only [apartAll, Bool.and_eq_true, Bool.not_eq_true', List.contains_eq_mem, decide_eq_false_iff_not] at h
    exact List.nodup_cons.2 ⟨h.1, ih h.2⟩

theorem FnT.fnR {P : Program} {E : Env} (hE : EnvR P E) (hT : FnT P E) : FnR P E where
  go := fun g i fn hg => by
    obtain ⟨h1, h2, h3⟩ := hT.go g i fn hg
    refine ⟨h1, h2, fun c hc => ?_⟩
    have hok := h3 c hc
    simp only [fnOk, Bool.and_eq_true, List.all_eq_true] at hok
    refine ⟨hok.1.1, apartAll_nodup hok.1.2, fun κ hκ hs => ?_⟩
    refine drawR hT.mixed hE (fun id ops ps hps hreg => ?_) hκ hs
    have := hok.2 _ hreg
    simp only [hps] at this
    exact this
  prim := hT.prim
  iter := hT.iter

/-- WHAT THE ABSTRACT MACHINE GIVES, THE MODEL GIVES. -/
theorem sim {P : Program} {E : Env} (hE : EnvR P E) (hT : FnT P E) : CallR P (callL E) := callL_sim hE (hT.fnR hE)

end AM

/- The table of types, looked at. -/
namespace AM
open Go

def zeq : AV → Value → Bool
  | .undef, _ => true
  | .bool a, .bool b => a == b
  | .int k n, .int k' m => k == k' && n == m
  | .str [], .string s => s.data.toList.isEmpty
  | .nilptr, .pointer none => true
  | .slice [] _ .exact, .slice none 0 0 => true
  | .nilmap, .map none => true
  | .nilfunc, .nilFunc => true
  | .niliface, .nilIface => true
  | _, _ => false

def zeqs : List AV → List Value → Bool
  | [], [] => true
  | a :: as, v :: vs => zeq a v && zeqs as vs
  | _, _ => false

theorem zeq_R {a : AV} {v : Value} (h : zeq a v = true) (Φ : Phi) : VR Φ a v := by
  unfold zeq at h
  split at h
  · exact .undef _
  · simp at h; subst h; exact .bool _
  · simp at h; obtain ⟨rfl, rfl⟩ := h; exact .int _ _
  · rename_i s
    have : s.data.toList = [] := by simpa using h
    have h2 := VR.str (Φ := Φ) s
    rw [this] at h2; exact h2
  · exact .nilptr
  · exact .snil _ _ rfl
  · exact .nilmap
  · exact .nilfunc
  · exact .niliface
  · cases h

theorem zeqs_R : ∀ {as : List AV} {vs : List Value}, zeqs as vs = true → ∀ Φ, VRs Φ as vs := by
  intro as
  induction as with
  | nil =>
    intro vs h Φ
    cases vs with
    | nil => exact .nil
    | cons v vs => simp [zeqs] at h
  | cons a as ih =>
    intro vs h Φ
    cases vs with
    | nil => simp [zeqs] at h
    | cons v vs =>
      simp only [zeqs, Bool.and_eq_true] at h
      exact .cons (zeq_R h.1 Φ) (ih h.2 Φ)

def kindB (P : Program) (t : TypeId) (p : PK) : Bool :=
  match p, P.underlying t with
  | .bool, some .bool => true
  | .int, some (.int _) => true
  | .str, some .string => true
  | _, _ => false

theorem kindB_T {P : Program} {t : TypeId} {p : PK} (h : kindB P t p = true) : kindT P t p := by
  unfold kindB at h
  split at h
  · rename_i hu; exact hu
  · rename_i k hu; exact ⟨k, hu⟩
  · rename_i hu; exact hu
  · cases h

def plainFields (P : Program) : Nat → List Field → List PK → Bool
  | _, [], [] => true
  | k, f :: fs, p :: ps => f.offset == k && f.name != "_" && kindB P f.type p && plainFields P (k + 1) fs ps
  | _, _, _ => false

def plainB (P : Program) (t : TypeId) (fields : Array Field) (ps : List PK) : Bool :=
  !P.stoodInHeld t && !P.eqGuardType P.depth t && plainFields P 0 fields.toList ps

theorem plainFields_T {P : Program} : ∀ (fs : List Field) (ps : List PK) (j : Nat), plainFields P j fs ps = true → fs.length = ps.length ∧ ∀ (k : Nat) f p, fs[k]? = some f → ps[k]? = some p → f.offset = j + k ∧ f.name ≠ "_" ∧ kindT P f.type p := by
  intro fs
  induction fs with
  | nil =>
    intro ps j h
    cases ps with
    | nil => exact ⟨rfl, fun k f p hf => by simp at hf⟩
    | cons p ps => simp [plainFields] at h
  | cons f fs ih =>
    intro ps j h
    cases ps with
    | nil => simp [plainFields] at h
    | cons p ps =>
      simp only [plainFields, Bool.and_eq_true, beq_iff_eq, bne_iff_ne] at h
      obtain ⟨⟨⟨h1, h2⟩, h3⟩, h4⟩ := h
      obtain ⟨i1, i2⟩ := ih ps (j + 1) h4
      refine ⟨by simp [i1], fun k f' p' hf hp => ?_⟩
      cases k with
      | zero => simp at hf hp; subst hf; subst hp; exact ⟨h1, h2, kindB_T h3⟩
      | succ k =>
        obtain ⟨a1, a2⟩ := i2 k f' p' (by simpa using hf) (by simpa using hp)
        exact ⟨by omega, a2⟩

theorem plainB_T {P : Program} {t : TypeId} {fields : Array Field} {ps : List PK} (h : plainB P t fields ps = true) : PlainS P t fields ps := by
  simp only [plainB, Bool.and_eq_true, Bool.not_eq_true'] at h
  obtain ⟨⟨h1, h2⟩, h3⟩ := h
  obtain ⟨h4, h5⟩ := plainFields_T _ _ _ h3
  refine ⟨h1, h2, by simpa using h4, fun k f p hf hp => ?_⟩
  have := h5 k f p (by simpa using hf) hp
  simpa using this

def keyB (P : Program) (k : TypeId) : Keys → Bool
  | .one p => kindB P k p
  | .fields ps => match P.underlying k with
    | some (.struct fields) => plainB P k fields ps
    | _ => false

theorem keyB_R {P : Program} {k : TypeId} {ks : Keys} (h : keyB P k ks = true) : KeyR P k ks := by
  cases ks with
  | one p => exact kindB_T h
  | fields ps =>
    simp only [keyB] at h
    split at h
    · rename_i fields hu; exact ⟨fields, hu, plainB_T h⟩
    · cases h

def kindOkB (P : Program) (t : TypeId) (d : TD) : Bool :=
  match d, P.underlying t with
  | .bool, some .bool => true
  | .int k, some (.int k') => k == k'
  | .str, some .string => true
  | .ptr, some (.pointer _) => true
  | .func, some (.func ..) => true
  | .iface, some (.interface _) => true
  | .slice esz agg eb zs, some (.slice e) => match P.info? e with
    | some ie => ie.size == esz && ie.bytes == eb && (match ie.zero with
        | some iz => zeqs zs iz.cells.toList && zs.length == esz
        | none => false) && aggP P e == agg && (P.underlying e).isSome && (match zs, P.underlying e with
        | [.int .u8 0], some (.int .u8) => true
        | [.int .u8 0], _ => false
        | _, _ => true)
    | none => false
  | .map ks vagg zs, some (.map k e) => match P.info? e with
    | some ie => (match ie.zero with
        | some iz => (match vagg, zs, iz with
          | true, zs, .agg cs => zeqs zs cs.toList
          | false, [z], v => zeq z v
          | _, _, _ => false)
        | none => false) && keyB P k ks
    | none => false
  | .struct cmp _ fs _, some (.struct fields) => fs == fields.toList.map (fun f => (f.offset, P.cellsOf f.type, aggP P f.type)) && (fields.toList.all fun f => (P.info? f.type).isSome && (P.underlying f.type).isSome) && (match cmp with
      | some ps => plainB P t fields ps
      | none => true)
  | .array n esz agg _, some (.array n' e) => match P.info? e with
    | some ie => n == n' && ie.size == esz && aggP P e == agg && (P.underlying e).isSome
    | none => false
  | _, _ => false

def tdOk (P : Program) (t : TypeId) (d : TD) : Bool :=
  (match P.info? t with
    | some i => i.size == d.size && (match i.zero with
      | some z => zeqs d.zero z.cells.toList && d.zero.length == d.size
      | none => false)
    | none => false) && (P.underlying t).isSome && aggP P t == d.isAgg && kindOkB P t d

theorem kindOkB_K {P : Program} {t : TypeId} {d : TD} (h : kindOkB P t d = true) : TDK P t d := by
  unfold kindOkB at h
  split at h
  · rename_i hu; exact hu
  · rename_i hu; simp at h; subst h; exact hu
  · rename_i hu; exact hu
  · rename_i hu; exact ⟨_, hu⟩
  · rename_i hu; exact ⟨_, _, _, hu⟩
  · rename_i hu; exact ⟨_, hu⟩
  · rename_i esz agg eb zs e hu
    split at h
    · rename_i ie hi
      simp only [Bool.and_eq_true, beq_iff_eq] at h
      obtain ⟨⟨⟨⟨⟨h1, h2⟩, h3⟩, h4⟩, h5⟩, h6⟩ := h
      split at h3
      · rename_i iz hz
        simp only [Bool.and_eq_true, beq_iff_eq] at h3
        refine ⟨e, ie, iz, hu, hi, h1, h2, hz, zeqs_R h3.1, h3.2, h4, h5, fun hzs => ?_⟩
        subst hzs
        cases hue : P.underlying e with
        | none => rw [hue] at h5; cases h5
        | some u =>
          rw [hue] at h6
          split at h6
          · rename_i heq; exact heq
          · cases h6
          · rename_i hno _ ; exact absurd rfl (by assumption)
      · cases h3
    · cases h
  · rename_i ks vagg zs k e hu
    split at h
    · rename_i ie hi
      simp only [Bool.and_eq_true] at h
      obtain ⟨h1, h2⟩ := h
      split at h1
      · rename_i iz hz
        refine ⟨k, e, ie, iz, hu, hi, hz, fun Φ z hzc => ?_, keyB_R h2⟩
        split at h1
        · rename_i cs
          simp only [ofCells, if_true] at hzc
          cases hzc
          have := zeqs_R h1 Φ
          exact .agg _ _ this.1 this.2
        · simp only [ofCells, Bool.false_eq_true, if_false] at hzc
          cases hzc
          exact zeq_R h1 Φ
        · cases h1
      · cases h1
    · cases h
  · rename_i cmp n fs z fields hu
    simp only [Bool.and_eq_true, beq_iff_eq, List.all_eq_true] at h
    obtain ⟨⟨h1, h2⟩, h3⟩ := h
    refine ⟨fields, hu, h1, fun f hf => h2 f (by simpa using hf), fun ps hps => ?_⟩
    subst hps
    exact plainB_T h3
  · rename_i n esz agg z n' e hu
    split at h
    · rename_i ie hi
      simp only [Bool.and_eq_true, beq_iff_eq] at h
      obtain ⟨⟨⟨h1, h2⟩, h3⟩, h4⟩ := h
      subst h1
      exact ⟨e, ie, hu, hi, h2, h3, h4⟩
    · cases h
  · cases h

theorem tdOk_R {P : Program} {t : TypeId} {d : TD} (h : tdOk P t d = true) : TDR P t d := by
  simp only [tdOk, Bool.and_eq_true, beq_iff_eq] at h
  obtain ⟨⟨⟨h1, h2⟩, h3⟩, h4⟩ := h
  split at h1
  · rename_i i hi
    simp only [Bool.and_eq_true, beq_iff_eq] at h1
    split at h1
    · rename_i z hz
      simp only [Bool.and_eq_true, beq_iff_eq] at h1
      exact ⟨⟨i, z, hi, h1.1, hz, zeqs_R h1.2.1, h1.2.2⟩, h2, h3, kindOkB_K h4⟩
    · exact absurd h1.2 (by simp)
  · cases h1

end AM

/- From the tables of a seat to what the simulation asks. -/
namespace AM
open Go

def tdAll (P : Program) (td : Nat → Option TD) : Nat → Nat → Bool
  | _, 0 => true
  | t, n + 1 => (match td t with
    | some d => tdOk P t d
    | none => true) && tdAll P td (t + 1) n

theorem tdAll_spec {P : Program} {td : Nat → Option TD} : ∀ (n a : Nat), tdAll P td a n = true → ∀ t d, a ≤ t → t < a + n → td t = some d → TDR P t d := by
  intro n
  induction n with
  | zero => intro a _ t d h1 h2; omega
  | succ n ih =>
    intro a h t d h1 h2 hd
    simp only [tdAll, Bool.and_eq_true] at h
    by_cases ht : t = a
    · subst ht; rw [hd] at h; exact tdOk_R h.1
    · exact ih (a + 1) h.2 t d (by omega) (by omega) hd

/-- a table, as far as it goes -/
def upTo {α : Type} (n : Nat) (f : Nat → Option α) (t : Nat) : Option α := bif Nat.blt t n then f t else none
theorem upTo_some {α : Type} {n : Nat} {f : Nat → Option α} {t : Nat} {x : α} (h : upTo n f t = some x) : t < n ∧ f t = some x := by
  unfold upTo at h
  cases hb : Nat.blt t n with
  | true => rw [hb] at h; exact ⟨blt_true.1 hb, h⟩
  | false => rw [hb] at h; cases h

def fnOkF (i : Info) (fn : Func) : Bool := match fn.body with
  | some c => fnOk i c && fn.name != "runtime.NumGoroutine"
  | none => false

def FnGood (P : Program) (g : Nat) : FnE → Prop
  | .go i fn => P.funcs[g]? = some fn ∧ fnOkF i fn = true
  | .prim p => PrimR P g p

theorem FnT.of {P : Program} {E : Env} (hm : P.follows .mixedOrders = true) (h : ∀ g e, E.fn g = some e → FnGood P g e) (hi : IterR P E) : FnT P E where
  mixed := hm
  go := fun g i fn hg => by
    obtain ⟨h1, h2⟩ := h g _ hg
    unfold fnOkF at h2
    cases hb : fn.body with
    | none => rw [hb] at h2; cases h2
    | some c =>
      rw [hb] at h2
      simp only [Bool.and_eq_true, bne_iff_ne] at h2
      exact ⟨h1, h2.2, fun c' hc => by cases hc; exact h2.1⟩
  prim := fun g p hg => h g _ hg
  iter := hi

theorem good_cond {P : Program} {g : Nat} {b : Bool} {x y : Option FnE} (hx : ∀ e, x = some e → FnGood P g e) (hy : ∀ e, y = some e → FnGood P g e) : ∀ e, (bif b then x else y) = some e → FnGood P g e := by
  cases b with
  | true => exact hx
  | false => exact hy
theorem good_leaf {P : Program} {g n : Nat} {v : FnE} {y : Option FnE} (hv : FnGood P n v) (hy : ∀ e, y = some e → FnGood P g e) : ∀ e, (bif Nat.beq g n then some v else y) = some e → FnGood P g e := by
  cases hb : Nat.beq g n with
  | true =>
    have : g = n := Nat.eq_of_beq_eq_true hb
    subst this
    intro e he; cases he; exact hv
  | false => exact hy
theorem good_none {P : Program} {g : Nat} : ∀ e, (none : Option FnE) = some e → FnGood P g e := fun e h => by cases h

end AM

/- slices.Backward over numbers: what it yields. -/
namespace AM
open Go

def isU64 : AV → Bool
  | .int .u64 _ => true
  | _ => false

def numbered : Nat → List AV → List (List AV)
  | _, [] => []
  | k, x :: xs => [.int .i64 k, x] :: numbered (k + 1) xs

def backItems (cap : List AV) (h : List Obj) : Option (List (List AV)) :=
  match cap with
  | [.ptr r 0] => match h[r]? with
    | some (.cells [.slice xs 1 _]) => if xs.all isU64 && Nat.ble xs.length 1000000 then some (numbered 0 xs) else none
    | _ => none
  | _ => none

theorem numbered_length : ∀ (xs : List AV) (k : Nat), (numbered k xs).length = xs.length
  | [], _ => rfl
  | _ :: xs, k => by simp [numbered, numbered_length xs]

theorem numbered_get : ∀ (xs : List AV) (k r : Nat) (v : List AV), (numbered k xs)[r]? = some v → ∃ x, xs[r]? = some x ∧ v = [.int .i64 (k + r : Nat), x] := by
  intro xs
  induction xs with
  | nil => intro k r v h; simp [numbered] at h
  | cons x xs ih =>
    intro k r v h
    cases r with
    | zero => simp only [numbered, List.getElem?_cons_zero, Option.some.injEq] at h; subst h; exact ⟨x, rfl, rfl⟩
    | succ r =>
      simp only [numbered, List.getElem?_cons_succ] at h
      obtain ⟨y, h1, h2⟩ := ih _ _ _ h
      exact ⟨y, by simpa using h1, by rw [h2]; simp; omega⟩

theorem backItems_inv {cap : List AV} {h : List Obj} {l : List (List AV)} (hb : backItems cap h = some l) :
    ∃ r xs t, cap = [.ptr r 0] ∧ h[r]? = some (.cells [.slice xs 1 t]) ∧ xs.all isU64 = true ∧ xs.length ≤ 1000000 ∧ l = numbered 0 xs := by
  unfold backItems at hb
  split at hb
  · rename_i r
    split at hb
    · rename_i xs t heq
      split at hb
      · rename_i hc
        cases hb
        simp only [Bool.and_eq_true] at hc
        exact ⟨r, xs, t, rfl, heq, hc.1, Nat.le_of_ble_eq_true hc.2, rfl⟩
      · cases hb
    · cases hb
  · cases hb

/-- what the world holds -/
theorem backItems_R {Φ Ψ : Phi} {r : Nat} {h : List Obj} {W : World} {l : List (List AV)} (hr : r < Φ.N) (hle : Φ.le Ψ) (hw : WR Ψ h W) (hb : backItems [.ptr r 0] h = some l) :
    ∃ a cp, W.cell? ⟨Φ.φ r, 0, none⟩ = some (.slice a l.length cp) ∧ l.length ≤ 1000000 ∧
      ∀ k, k < l.length → ∃ b off z, a = some ⟨b, off, none⟩ ∧ W.cell? ⟨b, off + k, none⟩ = some (.int .u64 z) ∧ l[k]? = some [.int .i64 k, .int .u64 z] := by
  obtain ⟨r', xs, t, h1, h2, h3, h4, rfl⟩ := backItems_inv hb
  cases h1
  obtain ⟨vs, ty, g1, g2, _, _⟩ := hw.obj _ _ h2
  rw [hle.φ _ hr] at g1
  obtain ⟨v, us, e1, g3, g4⟩ := g2.inv_cons
  have := g4.inv_nil
  subst this
  have hcell : W.cell? ⟨Φ.φ r, 0, none⟩ = some v := by
    simp only [World.cell?, g1, Option.bind_some]
    have : vs[0]? = some v := by
      have : vs.toList[0]? = some v := by rw [e1]; rfl
      simpa using this
    simp [this]
  rw [numbered_length]
  cases g3 with
  | snil e t' ht => exact ⟨none, 0, hcell, h4, fun k hk => by simp at hk⟩
  | sodd e a => exact ⟨some a, 0, hcell, h4, fun k hk => by simp at hk⟩
  | slice _ _ _ b off cap us hc he hz hl hm hv hp h1 ht =>
    refine ⟨some ⟨b, off, none⟩, cap, hcell, h4, fun k hk => ?_⟩
    obtain ⟨x, hx⟩ : ∃ x, xs[k]? = some x := ⟨_, List.getElem?_eq_getElem hk⟩
    have hu := List.all_eq_true.1 h3 x (List.mem_of_getElem? hx)
    obtain ⟨z, rfl⟩ : ∃ z, x = .int .u64 z := by
      cases x with
      | int q z => cases q <;> first | exact ⟨z, rfl⟩ | cases hu
      | _ => cases hu
    have hflat : ∀ ys : List AV, ys.all isU64 = true → cellsOf ys = ys := by
      intro ys
      induction ys with
      | nil => intro _; rfl
      | cons y ys ih =>
        intro hy
        simp only [List.all_cons, Bool.and_eq_true] at hy
        have := ih hy.2
        cases y with
        | int q n =>
          simp only [cellsOf, List.flatMap_cons, AV.cells, List.singleton_append] at this ⊢
          rw [this]
        | _ => exact absurd hy.1 (by simp [isU64])
    rw [hflat xs h3] at hl hv
    obtain ⟨u, hu'⟩ : ∃ u, us[k]? = some u := ⟨_, List.getElem?_eq_getElem (by omega)⟩
    have hvr := hv k _ _ hx hu'
    have hmm := hm k _ hu'
    cases hvr
    refine ⟨b, off, z, rfl, hw.mem _ _ _ hmm, ?_⟩
    cases hn : (numbered 0 xs)[k]? with
    | none => rw [List.getElem?_eq_none_iff, numbered_length] at hn; omega
    | some w =>
      obtain ⟨y, q1, q2⟩ := numbered_get _ _ _ _ hn
      rw [hx] at q1; cases q1
      rw [q2]; simp

/-- the iterator's contract, said of the world -/
def BackIn (P : Program) (g : Nat) : Prop := ∀ (l Bs N cp : Nat) (a : Option Addr) (J : Nat → World → Prop) (Jx : World → Prop), N ≤ 1000000 →
  (∀ r W, J (r + 1) W → ∃ b off ln c z, W.cell? ⟨Bs, 0, none⟩ = some (.slice (some ⟨b, off, none⟩) ln c) ∧ r < ln ∧ ln ≤ 1000000 ∧ W.cell? ⟨b, off + r, none⟩ = some (.int .u64 z) ∧
    YieldAt (rnd none) 0 P l #[.int .i64 r, .int .u64 z] W (fun e W' => (e = .returned (.bool true) ∧ J r W') ∨ (e = .returned (.bool false) ∧ Jx W'))) →
  ∀ W, W.cell? ⟨Bs, 0, none⟩ = some (.slice a N cp) → J N W →
    CallsIn (rnd none) 0 P g #[.func (.yield l) #[] #[], .pointer (some ⟨Bs, 0, none⟩)] W (fun e W' => (∃ v, e = .returned v) ∧ (J 0 W' ∨ Jx W'))

/-- such an iterator: nothing behind a round; at its end when nothing is left -/
theorem iterR_of {P : Program} {E : Env} {gf : Nat} (hen : Enters P gf) (hb : BackIn P gf) (heq : ∀ cap h, E.iter gf cap h = backItems cap h) (hpost : ∀ cap x h, E.post gf cap x h = some h) :
    ∀ (cap : List AV) (h0 : List Obj) (l0 : List (List AV)), E.iter gf cap h0 = some l0 → IterR1 P E gf cap h0 l0 := by
  intro cap h0 l0 hit
  refine ⟨hen, fun Φ w cap' hw hcap lb J J' Jx hJ hJm hJ' hpo hY h Ψ0 W hW hW0 => ?_⟩
  rw [heq] at hit
  obtain ⟨r, xs, t, hc, h2, h3, h4, hl0⟩ := backItems_inv hit
  subst hc
  obtain ⟨v, us, e1, g3, g4⟩ := hcap.inv_cons
  have := g4.inv_nil
  subst this
  have hcap' : cap' = #[v] := by
    apply Array.toList_inj.1
    rw [e1]
  subst hcap'
  cases g3 with
  | ptr _ _ hr =>
    obtain ⟨ll, k3, k4⟩ := hW0
    obtain ⟨k1, k2, _⟩ := hJ _ _ _ _ hW
    rw [heq] at k3
    obtain ⟨a, cp, m1, m2, _⟩ := backItems_R hr k1 k2 k3
    refine (hb lb (Φ.φ r) ll.length cp a (fun q W => ∃ h Ψ, J q h Ψ W) Jx m2 (fun q W2 hq => ?_) W m1 ⟨h, Ψ0, by rw [k4]; exact hW⟩)
    obtain ⟨h', Ψ, hq⟩ := hq
    obtain ⟨n1, n2, n3, _⟩ := hJ _ _ _ _ hq
    obtain ⟨l', n3, n4⟩ := n3 q rfl
    rw [heq] at n3
    obtain ⟨a', cp', o1, o2, o3⟩ := backItems_R hr n1 n2 n3
    obtain ⟨b, off, z, rfl, p1, p2⟩ := o3 q n4
    refine ⟨b, off, _, _, z, o1, n4, o2, p1, ?_⟩
    obtain ⟨fn, tmps, assign, body, hy, hR⟩ := hY q h' Ψ W2 l' _ #[.int .i64 q, .int .u64 z] hq (by rw [heq]; exact n3) p2 (.cons (.int _ _) (.cons (.int _ _) .nil))
    refine ⟨fn, tmps, assign, body, hy, hR.mono ?_⟩
    rintro e W' (⟨rfl, h', Ψ', hj⟩ | ⟨rfl, hj⟩)
    · obtain ⟨q1, q2, _⟩ := hJ' _ _ _ _ _ hj
      exact .inl ⟨rfl, hpo _ _ _ _ _ _ _ _ hj (hpost _ _ _) (.refl _) q2 (.refl _)⟩
    · exact .inr ⟨rfl, hj⟩

end AM

/- CALLS THAT ARE KNOWN: what the machine gives for some arguments of a function, looked up. -/
namespace AM
open Go

mutual
def AV.beq : AV → AV → Bool
  | .undef, .undef => true
  | .bool a, .bool b => a == b
  | .int k a, .int l b => decide (k = l) && a == b
  | .str s, .str t => s == t
  | .nilptr, .nilptr => true
  | .slice xs e t, .slice ys f u => AV.beqs xs ys && (Nat.beq e f && decide (t = u))
  | .nilmap, .nilmap => true
  | .nilfunc, .nilfunc => true
  | .agg as, .agg bs => AV.beqs as bs
  | .tuple as, .tuple bs => AV.beqs as bs
  | .niliface, .niliface => true
  | _, _ => false
def AV.beqs : List AV → List AV → Bool
  | [], [] => true
  | a :: as, b :: bs => AV.beq a b && AV.beqs as bs
  | _, _ => false
end

mutual
theorem AV.beq_eq : ∀ {a b : AV}, AV.beq a b = true → a = b := by
  intro a b h
  cases a <;> cases b <;> simp only [AV.beq, Bool.false_eq_true, Bool.and_eq_true, beq_iff_eq, decide_eq_true_eq] at h <;> try rfl
  case bool.bool => rw [h]
  case int.int => rw [h.1, h.2]
  case str.str => rw [h]
  case slice.slice xs e t ys f u => rw [AV.beqs_eq h.1, Nat.eq_of_beq_eq_true h.2.1, h.2.2]
  case agg.agg as bs => rw [AV.beqs_eq h]
  case tuple.tuple as bs => rw [AV.beqs_eq h]
theorem AV.beqs_eq : ∀ {as bs : List AV}, AV.beqs as bs = true → as = bs := by
  intro as bs h
  cases as with
  | nil => cases bs with
    | nil => rfl
    | cons => cases h
  | cons a as => cases bs with
    | nil => cases h
    | cons b bs =>
      simp only [AV.beqs, Bool.and_eq_true] at h
      rw [AV.beq_eq h.1, AV.beqs_eq h.2]
end

/-- the first of the known calls with these arguments -/
def known : List (List AV × AV) → List AV → Option AV
  | [], _ => none
  | e :: l, args => bif AV.beqs e.1 args then some e.2 else known l args

theorem known_mem : ∀ {l : List (List AV × AV)} {args : List AV} {v : AV}, known l args = some v → (args, v) ∈ l := by
  intro l
  induction l with
  | nil => intro args v h; cases h
  | cons e l ih =>
    intro args v h
    simp only [known] at h
    cases hb : AV.beqs e.1 args with
    | true => rw [hb] at h; cases h; rw [← AV.beqs_eq hb]; exact .head _
    | false => rw [hb] at h; exact .tail _ (ih h)

/-- arguments without the heap; a result without it -/
def closed (args : List AV) : Bool := AV.beqs (args.map (cut 0)) args
def closedR (v : AV) : Bool := AV.beq (freeze [] 0 v) v

/-- WHAT ONE MACHINE GIVES ANOTHER MAY TAKE FOR KNOWN -/
theorem PrimR.of_calls {P : Program} {g : Nat} {p : List AV → Option AV} {κ : Kall} (hκ : CallR P κ) (hen : Enters P g)
    (hp : ∀ args v, p args = some v → closed args = true ∧ closedR v = true ∧ κ g args [] = some (v, [])) : PrimR P g p := by
  refine ⟨hen, fun args v hv Φ h w args' hw ha => ?_⟩
  obtain ⟨h1, h2, h3⟩ := hp args v hv
  have ha' : VRs (Φ.inner h w) args args'.toList := by
    have := ha.cut (Φ := Φ) (Ψ := Φ.inner h w) (m := 0) (fun _ _ _ h => h) (fun r hr => absurd hr (Nat.not_lt_zero r)) (fun r n x hr => absurd hr (Nat.not_lt_zero r)) (Nat.zero_le _)
    rwa [AV.beqs_eq h1] at this
  refine ((hκ g args [] _ h3).2 (Φ.inner h w) w args' (inner_WR hw) ha').mono (fun e w' he => ?_)
  obtain ⟨v', Ψ, rfl, l1, l2, l3⟩ := he
  obtain ⟨Ω, o1, o2, o3⟩ := outer_R hw l1 l2 l3
  rw [AV.beq_eq h2] at o3
  exact ⟨v', Ω, rfl, o1, o2, o3⟩

/-- a list of known calls, each looked at -/
theorem PrimR.known {P : Program} {E : Env} {g n : Nat} {l : List (List AV × AV)} (hκ : CallR P (callL E)) (hen : Enters P g)
    (hl : ∀ e ∈ l, closed e.1 = true ∧ closedR e.2 = true ∧ ∃ n, callN E n g e.1 [] = some (e.2, [])) : PrimR P g (known l) :=
  .of_calls hκ hen (fun args v h => by
    obtain ⟨h1, h2, n, h3⟩ := hl _ (known_mem h)
    exact ⟨h1, h2, callL_of h3⟩)

def isKnown (E : Env) (n g : Nat) (e : List AV × AV) : Bool :=
  match callN E n g e.1 [] with
  | some (v, []) => AV.beq v e.2 && closed e.1 && closedR e.2
  | _ => false

theorem isKnown_spec {E : Env} {n g : Nat} {e : List AV × AV} (h : isKnown E n g e = true) : closed e.1 = true ∧ closedR e.2 = true ∧ ∃ n, callN E n g e.1 [] = some (e.2, []) := by
  unfold isKnown at h
  split at h
  · rename_i v hv
    simp only [Bool.and_eq_true] at h
    exact ⟨h.1.2, h.2, n, by rw [hv, AV.beq_eq h.1.1]⟩
  · cases h

/-- some functions are taken as they are -/
def Env.over (E : Env) (o : Nat → Option (List AV → Option AV)) : Env := { E with fn := fun g => match o g with
  | some p => some (.prim p)
  | none => E.fn g }

theorem FnT.over {P : Program} {E : Env} (h : FnT P E) {o : Nat → Option (List AV → Option AV)} (ho : ∀ g p, o g = some p → PrimR P g p) : FnT P (E.over o) where
  mixed := h.mixed
  go := fun g i fn hg => by
    unfold Env.over at hg
    simp only at hg
    split at hg
    · cases hg
    · exact h.go g i fn hg
  prim := fun g p hg => by
    unfold Env.over at hg
    simp only at hg
    split at hg
    · rename_i q hq; cases hg; exact ho g _ hq
    · exact h.prim g p hg
  iter := h.iter

end AM

/- PRIMS BY CONTRACTS: what a contract of the library needs of the relation, and gives back. -/
namespace AM
open Go Go.RowKit

/-- everything in the world stays -/
noncomputable def Phi.all (Φ : Phi) (W : World) : Phi := { M := Φ.M, F := fun b => W.heap[b]?, φ := Φ.φ, τ := fun _ _ => none, N := 0, w0 := Φ.w0 }

theorem cell_below {w W : World} (hb : Below w.heap.size w W) {b o : Nat} {v : Value} (h : w.cell? ⟨b, o, none⟩ = some v) : W.cell? ⟨b, o, none⟩ = some v := by
  have := cell_lt h
  simp only [World.cell?, hb.block b this] at h ⊢
  exact h

theorem WR.all {Φ : Phi} {h : List Obj} {w W : World} (hw : WR Φ h w) (hb : Below w.heap.size w W) : WR (Φ.all W) [] W where
  len := rfl
  mem := fun b o v hm => cell_below hb (hw.mem b o v hm)
  frz := fun b ob hf => hf
  obj := fun r ob hr => by simp at hr
  inj := fun r s x y b hr => by simp at hr
  str := ⟨hb.os.trans hw.str.1, hb.tape.trans hw.str.2.1, hb.output.trans hw.str.2.2⟩
  tab := hw.tab

theorem below_all {Φ Ψ : Phi} {W w' : World} (hW : WR (Φ.all W) [] W) (hle : (Φ.all W).le Ψ) {h : List Obj} (hw' : WR Ψ h w') : Below W.heap.size W w' := by
  have hblk : ∀ k, k < W.heap.size → w'.heap[k]? = W.heap[k]? := fun k hk => by
    rw [Array.getElem?_eq_getElem hk]
    refine hw'.frz k _ ?_
    rw [hle.F]
    exact Array.getElem?_eq_getElem hk
  have hstr := hw'.str
  rw [hle.w0] at hstr
  refine ⟨hstr.1.trans hW.str.1.symm, hstr.2.1.trans hW.str.2.1.symm, hstr.2.2.trans hW.str.2.2.symm, ?_, hblk⟩
  rcases Nat.eq_zero_or_pos W.heap.size with h0 | h0
  · omega
  · have h1 := hblk (W.heap.size - 1) (by omega)
    rw [Array.getElem?_eq_getElem (show W.heap.size - 1 < W.heap.size by omega)] at h1
    have := (Array.getElem?_eq_some_iff.1 h1).1
    omega

/-- a known call, in a world in which all that was there stands -/
theorem CallR.below {P : Program} {κ : Kall} (hκ : CallR P κ) {g : Nat} {args : List AV} {v : AV} (hk : κ g args [] = some (v, [])) (hcl : closed args = true) {Φ : Phi} {h : List Obj} {w W : World} (hw : WR Φ h w) (hb : Below w.heap.size w W)
    {args' : Array Value} (ha : VRs Φ args args'.toList) : Calls P g args' W (fun e w' => ∃ v' Ψ, e = .returned v' ∧ VR Ψ v v' ∧ Below W.heap.size W w') := by
  have ha' : VRs (Φ.all W) args args'.toList := by
    have := ha.cut (Φ := Φ) (Ψ := Φ.all W) (m := 0) (fun _ _ _ h => h) (fun r hr => absurd hr (Nat.not_lt_zero r)) (fun r n x hr => absurd hr (Nat.not_lt_zero r)) (Nat.zero_le _)
    rwa [AV.beqs_eq hcl] at this
  have hW := hw.all hb
  refine ((hκ g args [] _ hk).2 (Φ.all W) W args' hW ha').mono (fun e w' he => ?_)
  obtain ⟨v', Ψ, rfl, l1, l2, l3⟩ := he
  exact ⟨v', Ψ, rfl, l3, below_all hW l1 l2⟩

theorem WR.below {Φ : Phi} {h : List Obj} {w w' : World} (hw : WR Φ h w) (hb : Below w.heap.size w w') : WR Φ h w' :=
  hw.same (.refl Φ) rfl (fun _ _ => rfl) (fun b hh => hb.block b (hw.held_lt hh)) (fun b o v hm => .inl hm) ⟨hb.os, hb.tape, hb.output⟩

theorem VR.str_eq {Φ : Phi} {s : List UInt8} {v : Value} (h : VR Φ (.str s) v) : v = .string ⟨s.toArray⟩ := by
  cases h with
  | str b => rfl

theorem VR.of_str {Φ : Phi} (s : List UInt8) : VR Φ (.str s) (.string ⟨s.toArray⟩) := by
  have := VR.str (Φ := Φ) ⟨s.toArray⟩
  simpa using this

theorem cellsOf_one : ∀ {xs : List AV}, (∀ x ∈ xs, x.cells = [x]) → cellsOf xs = xs := by
  intro xs
  induction xs with
  | nil => intro _; rfl
  | cons x xs ih =>
    intro h
    have h1 := h x (.head _)
    have h2 := ih (fun y hy => h y (.tail _ hy))
    simp only [cellsOf, List.flatMap_cons] at h2 ⊢
    rw [h1, h2]; rfl

/-- the cells of a slice of plain elements -/
theorem VR.slice_one {Φ : Phi} {xs : List AV} {e : Nat} {t : Tok} {v : Value} (h : VR Φ (.slice xs e t) v) (hne : xs ≠ []) (h1 : ∀ x ∈ xs, x.cells = [x]) :
    ∃ b off cap, v = .slice (some ⟨b, off, none⟩) xs.length cap ∧ xs.length ≤ cap ∧ ∀ k x, xs[k]? = some x → ∃ u, Φ.M b (off + k) = some u ∧ VR Φ x u := by
  cases h with
  | snil e t ht => exact absurd rfl hne
  | sodd e a => exact absurd rfl hne
  | slice _ _ _ b off cap us hc he hz hl hm hv hp ho ht =>
    rw [cellsOf_one h1] at hl hv
    refine ⟨b, off, cap, rfl, hc, fun k x hx => ?_⟩
    have hk := (List.getElem?_eq_some_iff.1 hx).1
    obtain ⟨u, hu⟩ : ∃ u, us[k]? = some u := ⟨_, List.getElem?_eq_getElem (by omega)⟩
    exact ⟨u, hm k u hu, hv k _ _ hx hu⟩

theorem PrimR.or {P : Program} {g : Nat} {p q : List AV → Option AV} (hp : PrimR P g p) (hq : PrimR P g q) : PrimR P g (fun a => match p a with
  | some v => some v
  | none => q a) := ⟨hp.1, fun args v h => by
    simp only at h
    split at h
    · rename_i u hu; cases h; exact hp.2 args _ hu
    · exact hq.2 args v h⟩

/-- strings.Join -/
def strs : List AV → Option (List (List UInt8))
  | [] => some []
  | .str s :: xs => match strs xs with
    | some l => some (s :: l)
    | none => none
  | _ :: _ => none

def joinL (sep : List UInt8) : List (List UInt8) → List UInt8
  | [] => []
  | [x] => x
  | x :: xs => x ++ (sep ++ joinL sep xs)

theorem joinL_eq (sep : List UInt8) : ∀ xs, joinL sep xs = Lib.join xs sep
  | [] => rfl
  | [x] => (Lib.join_one x sep).symm
  | x :: y :: r => by
    have h : joinL sep (x :: y :: r) = x ++ (sep ++ joinL sep (y :: r)) := rfl
    rw [h, Lib.join_cons, joinL_eq sep (y :: r), Lib.join_cons]
    simp [Lib.joinTail]

def joinP : List AV → Option AV
  | [.slice (x :: xs) 1 _, .str sep] => match strs (x :: xs) with
    | some l => bif Nat.ble (joinL sep l).length 100000 && Nat.ble l.length 100000 then some (.str (joinL sep l)) else none
    | none => none
  | _ => none

theorem strs_inv : ∀ {xs : List AV} {l : List (List UInt8)}, strs xs = some l → xs = l.map .str
  | [], l, h => by cases h; rfl
  | x :: xs, l, h => by
    cases x <;> simp only [strs] at h <;> try cases h
    split at h
    · rename_i l' hl; cases h; rw [strs_inv hl]; rfl
    · cases h

/-- the contract of strings.Join, as the library's shelf has it -/
def JoinC (P : Program) (g : Nat) : Prop := ∀ (bk o c : Nat) (xs : List ByteArray) (sep : ByteArray) (w : World), (∀ (j : Nat) x, xs[j]? = some x → w.cell? ⟨bk, o + j, none⟩ = some (.string x)) → bk < w.heap.size → xs.length ≤ 140737488355328 → xs.length ≤ c →
  (Lib.join (xs.map (·.data.toList)) sep.data.toList).length ≤ 140737488355328 →
  Calls P g #[.slice (some ⟨bk, o, none⟩) xs.length c, .string sep] w fun e w' => e = .returned (.string ⟨(Lib.join (xs.map (·.data.toList)) sep.data.toList).toArray⟩) ∧ Below w.heap.size w w'

theorem PrimR.join {P : Program} {g : Nat} (hen : Enters P g) (hc : JoinC P g) : PrimR P g joinP := by
  refine ⟨hen, fun args v hv Φ h w args' hw ha => ?_⟩
  unfold joinP at hv
  split at hv
  · rename_i x xs t sep
    split at hv
    · rename_i l hl
      have hxs := strs_inv hl
      cases hcond : (Nat.ble (joinL sep l).length 100000 && Nat.ble l.length 100000) with
      | false => rw [hcond] at hv; cases hv
      | true =>
        rw [hcond] at hv
        cases hv
        simp only [Bool.and_eq_true] at hcond
        have hb1 := Nat.le_of_ble_eq_true hcond.1
        have hb2 := Nat.le_of_ble_eq_true hcond.2
        obtain ⟨v1, us, e1, r1, r2⟩ := ha.inv_cons
        obtain ⟨v2, us', e2, r3, r4⟩ := r2.inv_cons
        have := r4.inv_nil
        subst this
        subst e2
        have ha' : args' = #[v1, v2] := Array.toList_inj.1 e1
        subst ha'
        have hs2 := r3.str_eq
        subst hs2
        obtain ⟨b, off, cap, rfl, hcap, hcells⟩ := r1.slice_one (by simp) (fun y hy => by rw [hxs] at hy; obtain ⟨s, _, rfl⟩ := List.mem_map.1 hy; rfl)
        have hlen : (x :: xs).length = l.length := by rw [hxs]; simp
        have hm : (l.map fun s => (⟨s.toArray⟩ : ByteArray)).map (·.data.toList) = l := by simp [Function.comp_def]
        have hcell : ∀ (j : Nat) y, (l.map fun s => (⟨s.toArray⟩ : ByteArray))[j]? = some y → w.cell? ⟨b, off + j, none⟩ = some (.string y) := by
          intro j y hy
          rw [List.getElem?_map] at hy
          cases hj : l[j]? with
          | none => rw [hj] at hy; cases hy
          | some s =>
            rw [hj] at hy; cases hy
            obtain ⟨u, hu1, hu2⟩ := hcells j (.str s) (by rw [hxs, List.getElem?_map, hj]; rfl)
            rw [hu2.str_eq] at hu1
            exact hw.mem _ _ _ hu1
        have hbk : b < w.heap.size := by
          obtain ⟨u, hu1, _⟩ := hcells 0 x rfl
          exact cell_lt (hw.mem _ _ _ hu1)
        have hl0 : (x :: xs).length = (l.map fun s => (⟨s.toArray⟩ : ByteArray)).length := by simp [hlen]
        have hsep : (⟨sep.toArray⟩ : ByteArray).data.toList = sep := by simp
        have := hc b off cap (l.map fun s => (⟨s.toArray⟩ : ByteArray)) ⟨sep.toArray⟩ w hcell hbk (by rw [← hl0, hlen]; omega) (by rw [← hl0]; exact hcap) (by rw [hm, hsep, ← joinL_eq]; omega)
        rw [hm, hsep, ← joinL_eq, ← hl0] at this
        refine this.mono (fun e w' he => ?_)
        obtain ⟨rfl, hbel⟩ := he
        exact ⟨_, Φ, rfl, .refl Φ, hw.below hbel, .of_str _⟩
    · cases hv
  · cases hv

end AM

/- TABLES OF KNOWN CALLS, each entry looked at with the entries before it. -/
namespace AM
open Go

abbrev Entry := List AV × AV
abbrev Tabs := List (Nat × List Entry)

def FactL (P : Program) (g : Nat) (es : List Entry) : Prop := Enters P g ∧ ∀ e ∈ es, PrimR P g (known [e])
def Facts (P : Program) (T : Tabs) : Prop := ∀ x ∈ T, FactL P x.1 x.2

theorem FactL.nil {P : Program} {g : Nat} (h : Enters P g) : FactL P g [] := ⟨h, fun _ h => by cases h⟩
theorem FactL.cons {P : Program} {g : Nat} {e : Entry} {es : List Entry} (h : PrimR P g (known [e])) (t : FactL P g es) : FactL P g (e :: es) :=
  ⟨t.1, fun x hx => by cases hx with
    | head => exact h
    | tail _ hx => exact t.2 x hx⟩
theorem Facts.nil {P : Program} : Facts P [] := fun _ h => by cases h
theorem Facts.cons {P : Program} {g : Nat} {es : List Entry} {T : Tabs} (h : FactL P g es) (t : Facts P T) : Facts P ((g, es) :: T) :=
  fun x hx => by cases hx with
    | head => exact h
    | tail _ hx => exact t x hx

theorem known_at : ∀ {l : List Entry} {args : List AV} {v : AV}, known l args = some v → ∃ e ∈ l, known [e] args = some v := by
  intro l
  induction l with
  | nil => intro args v h; cases h
  | cons e l ih =>
    intro args v h
    simp only [known] at h
    cases hb : AV.beqs e.1 args with
    | true => rw [hb] at h; exact ⟨e, .head _, by simp only [known, hb]; exact h⟩
    | false =>
      rw [hb] at h
      obtain ⟨e', h1, h2⟩ := ih h
      exact ⟨e', .tail _ h1, h2⟩

theorem FactL.prim {P : Program} {g : Nat} {es : List Entry} (h : FactL P g es) : PrimR P g (AM.known es) :=
  ⟨h.1, fun args v hv => by
    obtain ⟨e, h1, h2⟩ := known_at hv
    exact (h.2 e h1).2 args v h2⟩

def findT : Tabs → Nat → Option (List Entry)
  | [], _ => none
  | x :: T, g => bif Nat.beq x.1 g then some x.2 else findT T g

theorem findT_mem : ∀ {T : Tabs} {g : Nat} {es : List Entry}, findT T g = some es → (g, es) ∈ T := by
  intro T
  induction T with
  | nil => intro g es h; cases h
  | cons x T ih =>
    intro g es h
    simp only [findT] at h
    cases hb : Nat.beq x.1 g with
    | true =>
      rw [hb] at h
      have := Nat.eq_of_beq_eq_true hb
      subst this
      cases h
      exact .head _
    | false => rw [hb] at h; exact .tail _ (ih h)

/-- what the tables know, but not of one function -/
def overT (T : Tabs) (not : Nat) (g : Nat) : Option (List AV → Option AV) :=
  bif Nat.beq g not then none else match findT T g with
    | some es => some (AM.known es)
    | none => none

theorem overT_R {P : Program} {T : Tabs} (hT : Facts P T) {not : Nat} : ∀ g p, overT T not g = some p → PrimR P g p := by
  intro g p h
  unfold overT at h
  cases hb : Nat.beq g not with
  | true => rw [hb] at h; cases h
  | false =>
    rw [hb] at h
    simp only [cond_false] at h
    split at h
    · rename_i es he
      cases h
      exact (hT _ (findT_mem he)).prim
    · cases h

theorem EnvR.over {P : Program} {E : Env} (h : EnvR P E) (o : Nat → Option (List AV → Option AV)) : EnvR P (E.over o) := ⟨h.1, h.2⟩

theorem fact {P : Program} {B : Env} (hE : EnvR P B) (hF : FnT P B) {T : Tabs} (hT : Facts P T) {g n : Nat} {e : Entry} (hen : Enters P g)
    (h : isKnown (B.over (overT T g)) n g e = true) : PrimR P g (known [e]) :=
  .known (E := B.over (overT T g)) (n := n) (sim (hE.over _) (hF.over (overT_R hT))) hen (fun x hx => by
    cases hx with
    | head => exact isKnown_spec h
    | tail _ hx => cases hx)

end AM

/- WHAT THE MACHINE's CODE COMES TO, WITH WHAT FOLLOWS IT: functions on a heap of their own, loops. -/
namespace AM
open Go

/-- what comes holds -/
def wpO (r : Option (Ex × St)) (k : Ex → St → Prop) : Prop :=
  match r with
  | some (e, s) => k e s
  | none => False

theorem wpO_iff {r : Option (Ex × St)} {k : Ex → St → Prop} : wpO r k ↔ ∃ e s, r = some (e, s) ∧ k e s := by
  cases r with
  | none => exact ⟨fun h => h.elim, fun ⟨_, _, h, _⟩ => by cases h⟩
  | some x => exact ⟨fun h => ⟨x.1, x.2, rfl, h⟩, fun ⟨e, s, h, hk⟩ => by cases h; exact hk⟩

theorem wpO_mono {r : Option (Ex × St)} {k k' : Ex → St → Prop} (h : wpO r k) (hk : ∀ e s, k e s → k' e s) : wpO r k' := by
  cases r with
  | none => exact h
  | some x => exact hk _ _ h

/-- what a call gives -/
def wpC (r : Option (AV × List Obj)) (k : AV → List Obj → Prop) : Prop :=
  match r with
  | some (v, h) => k v h
  | none => False

def wpOps (E : Env) (κ : Kall) (own : Bool) (ops : Array Oper) : List Oper → St → (St → Prop) → Prop
  | [], s, k => k s
  | o :: os, s, k => match wanted ops s.tmps o with
    | none => False
    | some false => wpOps E κ own ops os { s with tmps := setT s.tmps o.dst (.tuple []) } k
    | some true => match op E own s.tmps s.heap o.type o.op with
      | none => False
      | some (.val v h) => wpOps E κ own ops os { tmps := setT s.tmps o.dst v, heap := h } k
      | some (.call g args) => wpC (κ g args s.heap) (fun v h => wpOps E κ own ops os { tmps := setT s.tmps o.dst v, heap := h } k)

theorem wpOps_run {E : Env} {κ : Kall} {own : Bool} {ops : Array Oper} : ∀ (os : List Oper) (s : St) (k : St → Prop), wpOps E κ own ops os s k → ∃ s', runOps E κ own ops os s = some s' ∧ k s' := by
  intro os
  induction os with
  | nil => intro s k h; exact ⟨s, rfl, h⟩
  | cons o os ih =>
    intro s k h
    simp only [wpOps] at h
    simp only [runOps]
    split at h
    · exact h.elim
    · rename_i hw; rw [hw]; exact ih _ _ h
    · rename_i hw
      rw [hw]
      split at h
      · exact h.elim
      · rename_i ho; simp only [ho]; exact ih _ _ h
      · rename_i g args ho
        simp only [ho]
        cases hc : κ g args s.heap with
        | none => rw [hc] at h; exact h.elim
        | some x => rw [hc] at h; exact ih _ _ h

def asB : AV → Option Bool
  | .bool b => some b
  | _ => none

def wpR (E : Env) (κ : Kall) (lp : Lp) (i : Info) : Code → St → (Ex → St → Prop) → Prop
  | .skip, s, k | .label _, s, k => k .normal s
  | .region id ops draw, s, k => wpOps E κ i.own ops ops.toList s (fun s' => match draw with
    | false => k .normal s'
    | true => match drawOk E i id ops s.heap.length s'.tmps with
      | true => k .normal s'
      | false => False)
  | .seq a b, s, k => wpR E κ lp i a s (fun e s' => match e with
    | .normal => wpR E κ lp i b s' k
    | .exit id => k (.exit id) s'
    | .ret => k .ret s')
  | .cond c a b, s, k => match asB (opnd s.tmps c) with
    | some true => wpR E κ lp i a s k
    | some false => wpR E κ lp i b s k
    | none => False
  | .block id (.loop _), s, k => wpO (lp id [] (norm i id s)) k
  | .block id (.rangeFunc f _ _ _), s, k => match opnd s.tmps f with
    | .func (.func g) [] cap => match E.iter g cap s.heap with
      | some items => wpO (lp id items s) k
      | none => False
    | _ => False
  | .block id c, s, k => wpR E κ lp i c s (fun e s' => match e with
    | .exit id' => match Nat.beq id' id with
      | true => k .normal s'
      | false => k (.exit id') s'
    | .normal => k .normal s'
    | .ret => k .ret s')
  | .exit id, s, k => k (.exit id) s
  | .ret, s, k => k .ret s
  | _, _, _ => False

theorem wpR_run {E : Env} {κ : Kall} {lp : Lp} {i : Info} : ∀ (c : Code) (s : St) (k : Ex → St → Prop), wpR E κ lp i c s k → wpO (run E κ lp i c s) k := by
  intro c
  induction c with
  | skip => intro s k h; exact h
  | label l => intro s k h; exact h
  | region id ops draw =>
    intro s k h
    simp only [wpR] at h
    obtain ⟨s', h1, h2⟩ := wpOps_run _ _ _ h
    simp only [run, h1]
    cases draw with
    | false => exact h2
    | true =>
      cases hd : drawOk E i id ops s.heap.length s'.tmps with
      | true => simp only [hd] at h2; simp; exact h2
      | false => simp only [hd] at h2
  | seq a b iha ihb =>
    intro s k h
    simp only [wpR] at h
    obtain ⟨e, s', h1, h2⟩ := wpO_iff.1 (iha _ _ h)
    simp only [run, h1]
    cases e with
    | normal => exact ihb _ _ h2
    | exit id => exact h2
    | ret => exact h2
  | cond c a b iha ihb =>
    intro s k h
    simp only [wpR] at h
    simp only [run]
    cases ho : opnd s.tmps c with
    | bool x => cases x with
      | true => rw [ho] at h; exact iha _ _ h
      | false => rw [ho] at h; exact ihb _ _ h
    | _ => rw [ho] at h; exact h.elim
  | block id c ih =>
    have gen : ∀ s k, wpR E κ lp i c s (fun e s' => match e with
        | .exit id' => match Nat.beq id' id with
          | true => k .normal s'
          | false => k (.exit id') s'
        | .normal => k .normal s'
        | .ret => k .ret s') → wpO (match run E κ lp i c s with
        | some (.exit id', s') => if id' = id then some (Ex.normal, s') else some (.exit id', s')
        | r => r) k := by
      intro s k h
      obtain ⟨e, s', h1, h2⟩ := wpO_iff.1 (ih _ _ h)
      rw [h1]
      cases e with
      | normal => exact h2
      | exit id' =>
        simp only at h2 ⊢
        cases hb : Nat.beq id' id with
        | true => rw [hb] at h2; rw [if_pos (Nat.eq_of_beq_eq_true hb)]; exact h2
        | false => rw [hb] at h2; rw [if_neg (Nat.ne_of_beq_eq_false hb)]; exact h2
      | ret => exact h2
    cases c with
    | loop c => intro s k h; simp only [wpR] at h; simp only [run]; exact h
    | rangeFunc f ps a b =>
      intro s k h
      simp only [wpR] at h
      simp only [run]
      split at h
      · split at h
        · rename_i h1 _ _ h2; simp only [h1, h2]; exact h
        · exact h.elim
      · exact h.elim
    | skip => intro s k h; exact gen s k h
    | region id ops draw => intro s k h; exact gen s k h
    | seq a b => intro s k h; exact gen s k h
    | cond c a b => intro s k h; exact gen s k h
    | block id c => intro s k h; exact gen s k h
    | exit id => intro s k h; exact gen s k h
    | scope c => intro s k h; exact gen s k h
    | label l => intro s k h; exact gen s k h
    | goto l => intro s k h; exact gen s k h
    | ret => intro s k h; exact gen s k h
    | refuse w => intro s k h; exact gen s k h
  | loop c ih => intro s k h; exact h.elim
  | rangeFunc f ps a b iha ihb => intro s k h; exact h.elim
  | exit id => intro s k h; exact h
  | scope c ih => intro s k h; exact h.elim
  | goto l => intro s k h; exact h.elim
  | ret => intro s k h; exact h
  | refuse w => intro s k h; exact h.elim

/-- the function's end: what it answers -/
def finK (fn : Func) (td : Nat → Option TD) (Q : AV → List Obj → Prop) (e : Ex) (s : St) : Prop :=
  match e with
  | .exit _ => False
  | .normal => match results fn s.tmps s.heap td with
    | some v => Q v s.heap
    | none => False
  | .ret => match results fn s.tmps s.heap td with
    | some v => Q v s.heap
    | none => False

def bodyOf (fn : Func) : Code := match fn.body with
  | some c => c
  | none => .refuse default

/-- A FUNCTION ON A HEAP OF ITS OWN -/
theorem pureCall {E : Env} (C : Ctx E) {g : Nat} {i : Info} {fn : Func} {args : List AV} {h : List Obj} {w : AV} (hf : E.fn g = some (.go i fn)) (hm : i.mode = .pure) (hb : fn.body = some (bodyOf fn)) (hok : okM h args = true) (hkill : killed args h = h)
    (hrun : wpR E C.κ (C.lp g) i (bodyOf fn) { tmps := args.map (freezeA h) ++ List.replicate (fn.ntmps - args.length) (.tuple []), heap := [] } (finK fn E.td (fun v h' => freeze h' 0 v = w))) : C.κ g args h = some (w, h) := by
  refine C.call (enter_of hok ?_ (Nat.le_refl _))
  unfold enter0
  rw [hf]
  simp only [hb, hm, if_true, List.length_map]
  obtain ⟨e, s, hr, hk⟩ := wpO_iff.1 (wpR_run _ _ _ hrun)
  rw [hr]
  cases e with
  | exit id => exact hk.elim
  | normal =>
    simp only [finK] at hk ⊢
    split at hk
    · rename_i v hv
      rw [hv]; simp only [leave, hk, hkill]
    · exact hk.elim
  | ret =>
    simp only [finK] at hk ⊢
    split at hk
    · rename_i v hv
      rw [hv]; simp only [leave, hk, hkill]
    · exact hk.elim

/-- behind a round -/
def roundK (lp : Lp) (i : Info) (id m : Nat) (k : Ex → St → Prop) (e : Ex) (s : St) : Prop :=
  match e with
  | .normal => wpO (lp id [] (back i id m s)) k
  | .exit id' => match Nat.beq id' id with
    | true => k .normal s
    | false => k (.exit id') s
  | .ret => k .ret s

/-- the round of a loop -/
def loopOf (id : Nat) (c : Code) : Code := match findLoop id c with
  | some (.loop b) => b
  | _ => .refuse default

/-- ONE ROUND OF A LOOP -/
theorem oneRound {E : Env} (C : Ctx E) {g : Nat} {i : Info} {fn : Func} {id : Nat} {s : St} {k : Ex → St → Prop} (hf : E.fn g = some (.go i fn)) (hc : fn.body = some (bodyOf fn)) (hb : findLoop id (bodyOf fn) = some (.loop (loopOf id (bodyOf fn))))
    (h : wpR E C.κ (C.lp g) i (loopOf id (bodyOf fn)) s (roundK (C.lp g) i id s.heap.length k)) : wpO (C.lp g id [] s) k := by
  have hi : infoOf E g = some (i, bodyOf fn) := by
    unfold infoOf
    rw [hf]
    simp only [hc, Option.map_some]
  have hs : ∀ r, loopStep E C.κ (C.lp g) i (bodyOf fn) id [] s = some r → k r.1 r.2 → wpO (C.lp g id [] s) k := fun r hr hk => by
    rw [C.loop hi hr]; exact hk
  obtain ⟨e, s', hr, hk⟩ := wpO_iff.1 (wpR_run _ _ _ h)
  cases e with
  | normal =>
    simp only [roundK] at hk
    obtain ⟨e2, s2, hr2, hk2⟩ := wpO_iff.1 hk
    refine hs (e2, s2) ?_ hk2
    unfold loopStep
    rw [hb]
    simp only [hr, hr2]
  | exit id' =>
    simp only [roundK] at hk
    cases hb' : Nat.beq id' id with
    | true =>
      rw [hb'] at hk
      have he := Nat.eq_of_beq_eq_true hb'
      refine hs (.normal, s') ?_ hk
      unfold loopStep
      rw [hb]
      simp only [hr, he, if_true]
    | false =>
      rw [hb'] at hk
      have he := Nat.ne_of_beq_eq_false hb'
      refine hs (.exit id', s') ?_ hk
      unfold loopStep
      rw [hb]
      simp only [hr, if_neg he]
  | ret =>
    refine hs (.ret, s') ?_ hk
    unfold loopStep
    rw [hb]
    simp only [hr]

theorem fin_one {fn : Func} {td : Nat → Option TD} {Q : AV → List Obj → Prop} {e : Ex} {s : St} {d : Nat} {v : AV} (hr : fn.results.toList = [.tmp d]) (he : e = .normal ∨ e = .ret) (h : s.tmps[d]? = some v) (hq : Q v s.heap) : finK fn td Q e s := by
  have hres : AM.results fn s.tmps s.heap td = some v := by
    unfold AM.results
    rw [hr]
    simp [resultsOf, resultOf, List.getD, h]
  rcases he with rfl | rfl <;> (simp only [finK, hres]; exact hq)

end AM
