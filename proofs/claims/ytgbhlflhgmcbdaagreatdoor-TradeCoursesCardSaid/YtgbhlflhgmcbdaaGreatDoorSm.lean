/-
  A part of the proof: SeatRow.
-/
import Derived.Test.YtgbhlflhgmcbdaaGreatDoorCards
import Derived.Test.YtgbhlflhgmcbdaaGreatDoorTie
import Derived.Test.YtgbhlflhgmcbdaaGreatDoorSl
import Derived.Test.YtgbhlflhgmcbdaaGreatDoorAc
import Derived.WalkKit
import Derived.ProofKit
import Derived.OpenShut
set_option linter.all false
/- TradeCourses answers true for every list of steps: the law's row and its card. -/
namespace Go.Proofs.YtgbhlflhgmcbdaaGreatDoor.courses
open Go Go.ChangeShapes Go.WideShapes Go.ChangeAt Go.RowKit Go.Lib

theorem own : ownKnob Tryz.prog.godebug = none := by kernel_rfl
theorem laidOut : laidOutB Tryz.prog = true := by kernel_rfl
theorem mapsRows : mapsRowed Tryz.prog = true := by kernel_rfl
theorem kids : Kids Tryz.prog (· < Tryz.prog.types.size) := kids_rows laidOut mapsRows
theorem sizesB : ((List.range Tryz.prog.types.size).all fun t => match Tryz.prog.underlying t with
    | some (.slice e) => Nat.blt 0 (Tryz.prog.cellsOf e)
    | _ => true) = true := by kernel_rfl

/-- what the row lists, in the world -/
abbrev L := Rows.tradeCoursesRow.laid
theorem noHandle : (L.filter fun x => x.2.handleName?.isSome) = [] := by kernel_rfl
theorem met_of {W : World} (h : laidMetH Tryz.prog L W) : laidMet Tryz.prog L W := by
  unfold laidMetH at h
  rw [noHandle] at h
  exact h
theorem of_met {W : World} (h : laidMet Tryz.prog L W) : laidMetH Tryz.prog L W := by
  unfold laidMetH
  rw [noHandle]
  exact h

theorem read0 {W : World} (h : laidMet Tryz.prog L W) : VarReads Tryz.prog W "internal/strconv.uint64pow10" Rows.laid_internal_strconv_uint64pow10 := laidMet.reads h (.tail _ (.tail _ (.head _)))
theorem read4 {W : World} (h : laidMet Tryz.prog L W) : VarReads Tryz.prog W "math/bits.deBruijn32tab" Rows.laid_math_bits_deBruijn32tab := laidMet.reads h (.head _)
theorem read5 {W : World} (h : laidMet Tryz.prog L W) : VarReads Tryz.prog W "math/bits.deBruijn64tab" Rows.laid_math_bits_deBruijn64tab := laidMet.reads h (.tail _ (.head _))
theorem read6 {W : World} (h : laidMet Tryz.prog L W) : VarReads Tryz.prog W "unicode/utf8.first" Rows.laid_unicode_utf8_first := laidMet.reads h (.tail _ (.tail _ (.tail _ (.tail _ (.tail _ (.tail _ (.tail _ (.head _))))))))
theorem read7 {W : World} (h : laidMet Tryz.prog L W) : VarReads Tryz.prog W "unicode/utf8.acceptRanges" Rows.laid_unicode_utf8_acceptRanges := laidMet.reads h (.tail _ (.tail _ (.tail _ (.head _))))

def accRows : List (List Int) := [[128, 191], [160, 191], [128, 159], [144, 191], [128, 143], [0, 0], [0, 0], [0, 0], [0, 0], [0, 0], [0, 0], [0, 0], [0, 0], [0, 0], [0, 0], [0, 0]]

theorem tabs {W : World} (h : laidMet Tryz.prog L W) : ∀ g k v, AM.table g k = some v → W.cell? ⟨g, k, none⟩ = some v := by
  intro g k v hk
  have c0 := AM.tab_cells (g := 0) (zs := [1, 10, 100, 1000, 10000, 100000, 1000000, 10000000, 100000000, 1000000000, 10000000000, 100000000000, 1000000000000, 10000000000000, 100000000000000, 1000000000000000, 10000000000000000, 100000000000000000, 1000000000000000000, 10000000000000000000]) (by kernel_rfl) (by kernel_rfl) Tryz.underlying295 Tryz.underlying113 (by kernel_rfl) (by kernel_rfl) (read0 h)
  have c4 := AM.tab_cells (g := 4) (zs := [0, 1, 28, 2, 29, 14, 24, 3, 30, 22, 20, 15, 25, 17, 4, 8, 31, 27, 13, 23, 21, 19, 16, 7, 26, 12, 18, 6, 11, 5, 10, 9]) (by kernel_rfl) (by kernel_rfl) Tryz.underlying333 Tryz.underlying5 (by kernel_rfl) (by kernel_rfl) (read4 h)
  have c5 := AM.tab_cells (g := 5) (zs := [0, 1, 56, 2, 57, 49, 28, 3, 61, 58, 42, 50, 38, 29, 17, 4, 62, 47, 59, 36, 45, 43, 51, 22, 53, 39, 33, 30, 24, 18, 12, 5, 63, 55, 48, 27, 60, 41, 37, 16, 46, 35, 44, 21, 52, 32, 23, 11, 54, 26, 40, 15, 34, 20, 31, 10, 25, 14, 19, 9, 13, 8, 7, 6]) (by kernel_rfl) (by kernel_rfl) Tryz.underlying334 Tryz.underlying5 (by kernel_rfl) (by kernel_rfl) (read5 h)
  have c6 := AM.tab_cells (g := 6) (zs := Go.Pinned.utf8FirstZ.map Int.ofNat) (by kernel_rfl) (by kernel_rfl) Tryz.underlying337 Tryz.underlying5 (by kernel_rfl) (by kernel_rfl) (show VarReads Tryz.prog W "unicode/utf8.first" (tabData .u8 (Go.Pinned.utf8FirstZ.map Int.ofNat)) by
    have : Rows.laid_unicode_utf8_first = tabData .u8 (Go.Pinned.utf8FirstZ.map Int.ofNat) := by
      show DataW.agg (Go.Pinned.numbers .u8 Go.Pinned.utf8FirstZ) = _
      unfold tabData Go.Pinned.numbers
      rw [List.map_map]; rfl
    rw [← this]; exact read6 h)
  have c7 := AM.pair_cells (g := 7) (k := .u8) (zs := accRows) (by kernel_rfl) (by kernel_rfl) Tryz.underlying340 Tryz.underlying339 (fun i f hi => by
    match i, hi with
    | 0, hi => cases hi; exact ⟨Tryz.underlying5, rfl, by kernel_rfl⟩
    | 1, hi => cases hi; exact ⟨Tryz.underlying5, rfl, by kernel_rfl⟩
    | i + 2, hi => simp at hi) (by kernel_rfl) rfl (by decide) (by decide) (read7 h)
  have hnm : ∀ (k : IntKind) (l : List Int), AM.num k l = l.map fun z => Value.int k z := fun _ _ => rfl
  unfold AM.table AM.tabG at hk
  split at hk
  · exact c0 k v hk
  · exact c4 k v hk
  · exact c5 k v hk
  · exact c7 k v hk
  · exact c6 k v hk
  · simp at hk

/-- A WORLD FOR THE WITNESS -/
noncomputable def laidWorld (os : Os) : World :=
  let N := (World.settled Tryz.prog os).heap.size
  let w0 := World.holding Tryz.prog os ⟨#[.cells #[.string ⟨#[105, 110, 118, 97, 108, 105, 100, 32, 115, 121, 110, 116, 97, 120]⟩] 326, .cells #[.string ⟨#[118, 97, 108, 117, 101, 32, 111, 117, 116, 32, 111, 102, 32, 114, 97, 110, 103, 101]⟩] 326, .cells AM.caseBlock 355], #[], []⟩
  let put (h : Array Obj) (g : Nat) (cs : Array Value) : Array Obj := h.modify g fun
    | .cells _ t frozen => .cells cs t frozen
    | o => o
  let h0 := put w0.heap 0 AM.tab0.toArray
  let h1 := put h0 1 #[.iface 324 (.pointer (some ⟨N, 0, none⟩))]
  let h2 := put h1 2 #[.iface 324 (.pointer (some ⟨N + 1, 0, none⟩))]
  let h4 := put h2 4 AM.tab4.toArray
  let h5 := put h4 5 AM.tab5.toArray
  let h6 := put h5 6 AM.tab6.toArray
  let h7 := put h6 7 AM.tab7.toArray
  let h8 := put h7 8 #[.slice (some ⟨N + 2, 0, none⟩) Go.Pinned.caseRows.length Go.Pinned.caseRows.length]
  { w0 with heap := h8 }

noncomputable abbrev wit (os : Os) : World := ((laidWorld os).forCall (fun _ _ => 0) ⟨#[], #[.slice none 0 0], []⟩).memory
theorem met1 (os : Os) : LaidIn Tryz.prog (wit os) (L.take 6) [0, 1, 2, 4, 5, 7, (World.settled Tryz.prog default).heap.size, (World.settled Tryz.prog default).heap.size + 1] :=
  LaidIn.of_run _ 10 (by kernel_rfl) (by kernel_rfl) (by kernel_rfl) (by kernel_rfl)
theorem met2 (os : Os) : LaidIn Tryz.prog (wit os) [("unicode.CaseRanges", Go.Pinned.caseRanges)] [8, (World.settled Tryz.prog default).heap.size + 2] :=
  AM.case_laid (t := 355) Tryz.underlying348 Tryz.underlying355 ⟨rfl, rfl⟩ ⟨rfl, rfl⟩ ⟨rfl, rfl⟩ Tryz.underlying231 Tryz.underlying353 Tryz.underlying21 (by kernel_rfl) (by kernel_rfl) (by kernel_rfl) (by kernel_rfl) (by kernel_rfl) (by kernel_rfl) (of_decide_eq_true (by kernel_rfl)) (by kernel_rfl) (by kernel_rfl) (of_decide_eq_true (by kernel_rfl))
theorem met3 (os : Os) : LaidIn Tryz.prog (wit os) (L.drop 7) [6] :=
  LaidIn.of_run _ 10 (by kernel_rfl) (by kernel_rfl) (by kernel_rfl) (by kernel_rfl)
theorem laid_met (os : Os) : laidMetH Tryz.prog L (wit os) :=
  of_met ((((met1 os).append (met2 os) (by kernel_rfl)).append (met3 os) (by kernel_rfl)).met)

theorem witness_row (os : Os) {H : Type} (enc : TypeId × Value → H) :
    (OpenSpec.ofChange Rows.tradeCoursesSpec).preRow enc Tryz.prog Tryz.f3 Rows.tradeCoursesRow.domain false L (wit os) #[.slice none 0 0] := by
  have hw : (DataW.whole enc Tryz.prog (wit os) Tryz.f3.params.toList Rows.tradeCoursesSpec.vars false #[Value.slice none 0 0].toList 8).map (fun x => (x.1, x.2.1)) = some ([.nil], []) := by kernel_rfl
  obtain ⟨⟨x1, x2, x3⟩, hx, hx1⟩ := Option.map_eq_some_iff.1 hw
  simp only [Prod.mk.injEq] at hx1
  obtain ⟨rfl, rfl⟩ := hx1
  exact OpenSpec.preRow_of_cond 8 hx (by kernel_rfl) (fun k hk => by cases hk) (by kernel_rfl) (laid_met os)

set_option maxRecDepth 100000 in
/-- WHAT THE MACHINE GIVES, FOR EVERY ARGUMENT -/
theorem contract (H : Type) (enc : TypeId × Value → H) (W : World) (base : Nat) (args : Array Value) (ds gs : List (DataW H)) (before : List MemPlace)
    (hval : ∀ (j : Nat) t v, Tryz.f3.params[j]? = some t → args[j]? = some v → Value.okWide Tryz.prog W .any base t v)
    (hW : DataW.Whole enc Tryz.prog Tryz.f3.params.toList Rows.tradeCoursesSpec.vars false W args.toList ds gs before) (hL : laidMetH Tryz.prog L W) :
    Calls Tryz.prog 3 args W fun e W' => ∃ v, e = .returned v ∧ Rows.tradeCoursesSpec.post enc Tryz.prog Tryz.f3 false true false false W args v W' := by
  have hW' := hW
  obtain ⟨p, q, hA0, hV, rfl, hfz, hnd⟩ := hW
  have hA : DataW.TrodAll enc Tryz.prog W 0 (fun _ => true) true Tryz.f3.params.toList args.toList ds p := hA0
  rw [Tryz.params3] at hA hval
  obtain ⟨v0, vs0, d0, ds0, p0, q0, hargs, rfl, rfl, h0, r0⟩ := trodAll_cons hA
  obtain ⟨rfl, rfl, rfl⟩ := trodAll_nil r0
  obtain rfl : args = #[v0] := by cases args; simp_all
  clear hA0
  have hw := AM.WR.first (tabs (met_of hL))
  obtain ⟨l, hv, _⟩ := AM.DT.arg (S := AM.Self.none) (hval 0 22 v0 rfl rfl) h0 (.slice 1 (.int .i64)) rfl (by kernel_rfl) (fun h => by cases h) (fun f t cs x h => by cases h)
  have hv' : AM.VR (AM.Phi.first W) (.slice (AmT.il l) 1 .none) v0 := hv
  refine ((AmT.simS 3 [.slice (AmT.il l) 1 .none] [] _ (AmT.lawS l)).2 (AM.Phi.first W) W #[v0] hw (.cons hv' .nil)).mono (fun e W' he => ?_)
  obtain ⟨v', Ψ, rfl, hle, hwr, hvr⟩ := he
  cases hvr
  exact ⟨_, rfl, AM.post_law kids (AM.plain_sizes sizesB) (fun t ht => by rw [Tryz.params3] at ht; simp at ht; subst ht; exact of_decide_eq_true (by kernel_rfl)) hW' rfl rfl (by kernel_rfl) Tryz.underlying4 (AM.below_first hle hwr)⟩

set_option maxRecDepth 100000 in
theorem lifted (os : Os) (started : os.Started) (H : Type) (enc : TypeId × Value → H) (F : Stop.Interp) :
    ReturnsInHanded {} Tryz.checked os 3 .any ((OpenSpec.ofChange Rows.tradeCoursesSpec).preRow enc Tryz.prog Tryz.f3 Rows.tradeCoursesRow.domain false L) (((OpenSpec.ofChange Rows.tradeCoursesSpec).at F).post enc Tryz.prog Tryz.f3 false true false false) := by
  refine returnsInHanded_of_row (C := Tryz.checked) (s := OpenSpec.ofChange Rows.tradeCoursesSpec) own started (by kernel_rfl) Tryz.func3
    (witness_row_atRef (enc := enc) (C := Tryz.checked) false (laidWorld os) #[.slice none 0 0] rfl (by kernel_rfl) (by kernel_rfl) (by kernel_rfl) (witness_row os enc)) ?_
  intro W base args ds gs before hval hW _ _ _ hL _ _
  exact contract H enc W base args ds gs before hval hW hL

theorem said : Rows.TradeCoursesSaid :=
  OpenClaim.holds_of_cond 3 Tryz.f3 rfl rfl rfl rfl rfl rfl rfl ⟨rfl, rfl, rfl, rfl, rfl⟩ rfl rfl rfl rfl rfl (by kernel_rfl) Tryz.func3 (by kernel_rfl)
    (of_decide_eq_true (by kernel_rfl)) (by unfold Func.isWrapper; first | (rw [if_pos (by decide +kernel)]; kernel_rfl) | (rw [if_neg (by decide +kernel)]; exact ⟨rfl, rfl⟩))
    (fun os started H enc _ F => by rw [OpenClaim.pre_eq_preRow]; exact lifted os started H enc F)

theorem plain (f : FuncId) (fn : Func) (hf : Tryz.pinned.checked.prog.funcNamed "customhouse/customhouselaw45.TradeCourses" = some f) (hfn : Tryz.pinned.checked.prog.funcs[f]? = some fn) :
    true = Tryz.pinned.checked.prog.looks [] ∧ ∀ (j : Nat) t, fn.params[j]? = some t → Tryz.pinned.checked.prog.wantsStandIn t = false := by
  obtain rfl : f = 3 := Option.some.inj ((show Tryz.prog.funcNamed "customhouse/customhouselaw45.TradeCourses" = some 3 by kernel_rfl).symm.trans hf) |>.symm
  obtain rfl : fn = Tryz.f3 := (Option.some.inj (Tryz.func3.symm.trans hfn)).symm
  refine ⟨by kernel_rfl, fun j t ht => ?_⟩
  rw [Tryz.params3] at ht
  obtain rfl : t = 22 := by simpa using Array.mem_of_getElem? ht
  exact (show Tryz.prog.wantsStandIn 22 = false by kernel_rfl)

/-- THE CARD -/
theorem card : Rows.TradeCoursesCardSaid :=
  Claim7.holds_tied_plain_at .later [] _ _ _ _ said (fun _ h => by cases h) (by kernel_rfl) (fun _ h => by cases h) tradeCourses_row_tie rfl ⟨rfl, rfl⟩ (by kernel_rfl) rfl plain (by kernel_rfl)
end Go.Proofs.YtgbhlflhgmcbdaaGreatDoor.courses
