/-
  A part of the proof: SeatIter, ShelfP, SeatText, SeatBase, LetDef, SeatLet, SeatEnv, SeatPrims.
-/
import Derived.Test.YtgbhlflhgmcbdaaGreatDoorAb
import Derived.RangeFuncBox
import Derived.RangeFuncLeaves
import Derived.Shelf.Abstract
import Derived.WalkKit
import Derived.OwnWalkIn
import Derived.TacticsInMore
import Derived.LoopNIn
import Derived.LoopIn
import Derived.Test.YtgbhlflhgmcbdaaGreatDoorProg
import Derived.Shelf.Strings.Builder1
import Derived.Shelf.Strings.Builder2
import Derived.Shelf.Strings.OnBuilder
import Derived.Shelf.Strings.BuilderF
import Derived.Shelf.Strings.BuilderK
import Derived.Shelf.Small.Strs
import Derived.Shelf.Strings.Search1
import Derived.Ground.Names2Prog
import Derived.RangeFuncFrom
import Derived.RangeFuncWrites
import Derived.RangeFuncCalls
import Derived.Test.YtgbhlflhgmcbdaaGreatDoorSa
set_option linter.all false
/- The iterator of slices.Backward at this program. -/
namespace AmT
open Go Go.RowKit Go.Shelf AM Go.Proofs

attribute [local go_sem] Oper.semAt_some

set_option maxRecDepth 100000 in
set_option maxHeartbeats 2000000 in
theorem back_in (F : Fence) (n : Nat) (h8 : F.fn 206) (hro : F.round = none) (hn : 1 ≤ n) (l Bs N cp : Nat) (a : Option Addr) (J : Nat → World → Prop) (Jx : World → Prop) (hN : N ≤ 1000000)
    (hY : ∀ r W, J (r + 1) W → ∃ b off ln c z, W.cell? ⟨Bs, 0, none⟩ = some (.slice (some ⟨b, off, none⟩) ln c) ∧ r < ln ∧ ln ≤ 1000000 ∧ W.cell? ⟨b, off + r, none⟩ = some (.int .u64 z) ∧
      YieldAt F (n - 1) Tryz.prog l #[.int .i64 r, .int .u64 z] W (fun e W' => (e = .returned (.bool true) ∧ J r W') ∨ (e = .returned (.bool false) ∧ Jx W')))
    (W : World) (hBs : W.cell? ⟨Bs, 0, none⟩ = some (.slice a N cp)) (h0 : J N W) :
    CallsIn F n Tryz.prog 206 #[.func (.yield l) #[] #[], .pointer (some ⟨Bs, 0, none⟩)] W (fun e W' => (∃ v, e = .returned v) ∧ (J 0 W' ∨ Jx W')) := by
  refine callsIn_of_wp Tryz.func206 rfl h8 ?_ hro
  simp only [Tryz.ntmps206, List.size_toArray, List.length_cons, List.length_nil, Nat.reduceAdd, Nat.reduceSub, Array.replicate_succ, Array.replicate_zero, List.push_toArray, List.append_toArray, List.nil_append, List.cons_append]
  gi_wp2
  gi_loopw [3] (fun i wr => ∃ k : Nat, k ≤ N ∧ i = .int .i64 ((k : Int) - 1) ∧ J k wr) (fun i _ => (intOf i + 1).toNat)
  case atStart => exact ⟨N, Nat.le_refl _, rfl, h0⟩
  case round =>
    obtain ⟨k, hk, rfl, hJs⟩ := hrel
    cases k with
    | zero =>
      gi_wp2
      go_end0
      exact ⟨⟨_, rfl⟩, .inl hJs⟩
    | succ r =>
      obtain ⟨b, off, ln, c, z, hc, hlt, hln, hz, fn, tmps, assign, body, hy, hR⟩ := hY r wr hJs
      rw [show ((r + 1 : Nat) : Int) - 1 = (r : Int) by omega]
      gi_wp2
      refine hR.mono ?_
      rintro e W3 (⟨rfl, hJ3⟩ | ⟨rfl, hJx3⟩)
      · gi_wp2
        go_roundw
        case rel => exact ⟨r, by omega, rfl, hJ3⟩
        case measure => simp [intOf]
      · gi_wp2
        refine bodyPost_ret (results_none rfl _ _ _) rfl ?_
        exact ⟨⟨_, rfl⟩, .inr hJx3⟩

theorem backIn : BackIn Tryz.prog 206 := by
  intro l Bs N cp a J Jx hN hY W hW h0
  have := back_in (rnd none) 1 trivial rfl (Nat.le_refl _) l Bs N cp a J Jx hN (fun r W h => hY r W h) W hW h0
  exact ⟨this.1, fun cs _ => this.2 cs (rnd_room _)⟩

end AmT

/- DERIVED: THE SHELF's CONTRACTS AT THIS DUMP, IN PLAIN WORDS (tools/lay-plain.mjs out of 'AmShelf.lean', which tools/lay-shelf.mjs wrote): THE SAME DECLARATIONS UNDER THE SAME NAMES: 'import', 'namespace', 'open', 'def', 'theorem' AND NOTHING ELSE: no command of the shelf's: FOR A HAND-IN. Each laying: the table of numbers ('.._ren') and one theorem, a field a fact of the dump's own or the kernel's comparison; each contract: ONE APPLICATION. -/
namespace Go.Proofs
open Go.Shelf
def Tryz.lays169_ren : Go.Shelf.Ren := ⟨fun | 169 => 64 | n => n, fun | 70 => 145 | 9 => 9 | 0 => 0 | 72 => 148 | 37 => 146 | 127 => 209 | 3 => 3 | 5 => 5 | n => n, fun | n => n⟩
theorem Tryz.lays169 : Go.Proofs.Lays.n169 Tryz.prog Tryz.lays169_ren := {
  mixed := by kernel_rfl
  f169 := Tryz.func64.trans (congrArg some (by kernel_rfl))
  t0 := Tryz.underlying0
  a0 := Tryz.isAgg0
  z0 := Tryz.sizeOf0
  v0 := Tryz.zeroValue0
  t3 := Tryz.underlying3
  a3 := Tryz.isAgg3
  z3 := Tryz.sizeOf3
  v3 := Tryz.zeroValue3
  t9 := Tryz.underlying9
  a9 := Tryz.isAgg9
  z9 := Tryz.sizeOf9
  v9 := Tryz.zeroValue9
  t37 := Tryz.underlying146
  a37 := Tryz.isAgg146
  z37 := Tryz.sizeOf146
  v37 := Tryz.zeroValue146
  t70 := Tryz.underlying145
  a70 := Tryz.isAgg145
  z70 := Tryz.sizeOf145
  v70 := Tryz.zeroValue145
  t72 := Tryz.underlying148
  a72 := Tryz.isAgg148
  z72 := Tryz.sizeOf148
  v72 := Tryz.zeroValue148
  t127 := Tryz.underlying209
  a127 := Tryz.isAgg209
  z127 := Tryz.sizeOf209
  v127 := Tryz.zeroValue209 }
theorem Tryz.Builder_Extra_169 : Builder.Extra Tryz.prog Tryz.lays169_ren := {
  sizeBuilder := by kernel_rfl
  liesBuilder := by kernel_rfl
  t5 := Tryz.underlying5
  a5 := Tryz.isAgg5
  z5 := Tryz.sizeOf5
  v5 := Tryz.zeroValue5
  infoByte := by kernel_rfl
  cellsByte := by kernel_rfl
  sizeByte := by kernel_rfl
  neB5 := by decide }
open Go.RowKit in
/-- (*strings.Builder).String: "String returns the accumulated string.": WHATEVER THE BUILDER HOLDS; THE FORM '_k': OVER 'Lib.IsBuilderF' (a builder that 'String()' may have read), AND WITH THE FRAME THAT REACHES ABOVE THE BUILDER: 'Lib.OthersKept': every block that is not b and is no row of uint8's stands as it stood: the iterator of a range among them. (LAID: no walk: one application.) -/
theorem Tryz.Builder_String_any_k (B b : Nat) (l : List UInt8) (w : World) (h : Lib.IsBuilderF 148 5 B b (Lib.byteCells l) w) (hBw : B ≤ w.heap.size) :
    Calls Tryz.prog 64 #[.pointer (some ⟨b, 0, none⟩)] w fun e w' => e = .returned (.string ⟨l.toArray⟩) ∧ (Lib.IsBuilderF 148 5 B b (Lib.byteCells l) w' ∧ Below B w w' ∧ Lib.OthersKept 5 (some b) w w') := Any.Builder_String_any_k Tryz.lays169 Tryz.Builder_Extra_169 B b l w h hBw
open Go.RowKit in
/-- (*strings.Builder).String: "String returns the accumulated string.": OF A BUILDER THAT HOLDS AT LEAST ONE BYTE. ✋ THE MODEL FREEZES THOSE BYTES IN THE BUFFER (unsafe.String): a later write INTO them ends the model's run without an answer; a later append BEHIND them goes on. The statement's order of evaluation is drawn: one draw. THE FORM '_k': OVER 'Lib.IsBuilderF' (a builder that 'String()' may have read), AND WITH THE FRAME THAT REACHES ABOVE THE BUILDER: 'Lib.OthersKept': every block that is not b and is no row of uint8's stands as it stood: the iterator of a range among them. (LAID: no walk: one application.) -/
theorem Tryz.Builder_String_k (B b : Nat) (l : List UInt8) (w : World) (h : Lib.IsBuilderF 148 5 B b (Lib.byteCells l) w) (h0 : l ≠ []) :
    Calls Tryz.prog 64 #[.pointer (some ⟨b, 0, none⟩)] w fun e w' => e = .returned (.string ⟨l.toArray⟩) ∧ (Lib.IsBuilderF 148 5 B b (Lib.byteCells l) w' ∧ Below B w w' ∧ Lib.OthersKept 5 (some b) w w') := Any.Builder_String_k Tryz.lays169 Tryz.Builder_Extra_169 B b l w h h0
open Go.RowKit in
/-- (*strings.Builder).String OF A BUILDER THAT HOLDS NO BYTE: the empty string; THE FORM '_k': OVER 'Lib.IsBuilderF' (a builder that 'String()' may have read), AND WITH THE FRAME THAT REACHES ABOVE THE BUILDER: 'Lib.OthersKept': every block that is not b and is no row of uint8's stands as it stood: the iterator of a range among them. (LAID: no walk: one application.) -/
theorem Tryz.Builder_String_empty_k (B b : Nat) (w : World) (h : Lib.IsBuilderF 148 5 B b [] w) (hBw : B ≤ w.heap.size) :
    Calls Tryz.prog 64 #[.pointer (some ⟨b, 0, none⟩)] w fun e w' => e = .returned (.string ⟨#[]⟩) ∧ (Lib.IsBuilderF 148 5 B b [] w' ∧ Below B w w' ∧ Lib.OthersKept 5 (some b) w w') := Any.Builder_String_empty_k Tryz.lays169 Tryz.Builder_Extra_169 B b w h hBw
def Tryz.lays170_ren : Go.Shelf.Ren := ⟨fun | 170 => 83 | n => n, fun | 70 => 145 | 3 => 3 | 0 => 0 | 72 => 148 | 37 => 146 | 5 => 5 | n => n, fun | n => n⟩
theorem Tryz.lays170 : Go.Proofs.Lays.n170 Tryz.prog Tryz.lays170_ren := {
  mixed := by kernel_rfl
  f170 := Tryz.func83.trans (congrArg some (by kernel_rfl))
  t0 := Tryz.underlying0
  a0 := Tryz.isAgg0
  z0 := Tryz.sizeOf0
  v0 := Tryz.zeroValue0
  t3 := Tryz.underlying3
  a3 := Tryz.isAgg3
  z3 := Tryz.sizeOf3
  v3 := Tryz.zeroValue3
  t37 := Tryz.underlying146
  a37 := Tryz.isAgg146
  z37 := Tryz.sizeOf146
  v37 := Tryz.zeroValue146
  t70 := Tryz.underlying145
  a70 := Tryz.isAgg145
  z70 := Tryz.sizeOf145
  v70 := Tryz.zeroValue145
  t72 := Tryz.underlying148
  a72 := Tryz.isAgg148
  z72 := Tryz.sizeOf148
  v72 := Tryz.zeroValue148 }
open Go.RowKit in
/-- (*strings.Builder).Len: "Len returns the number of accumulated bytes; b.Len() == len(b.String()).": the world is as it was. (THE FORM '_f': 'Lib.IsBuilderF'.) (LAID: no walk: one application.) -/
theorem Tryz.Builder_Len_f (B b : Nat) (bs : List Value) (w : World) (h : Lib.IsBuilderF 148 5 B b bs w) :
    Calls Tryz.prog 83 #[.pointer (some ⟨b, 0, none⟩)] w fun e w' => e = .returned (.int .i64 bs.length) ∧ w' = w := Any.Builder_Len_f Tryz.lays170 B b bs w h
def Tryz.lays156_ren : Go.Shelf.Ren := ⟨fun | 156 => 27 | 165 => 62 | 166 => 63 | 169 => 64 | 240 => 123 | 241 => 124 | 276 => 178 | 277 => 179 | n => n, fun | 31 => 66 | 9 => 9 | 3 => 3 | 4 => 4 | 0 => 0 | 20 => 20 | 72 => 148 | 76 => 133 | 70 => 145 | 37 => 146 | 75 => 132 | 127 => 209 | 164 => 275 | 5 => 5 | 80 => 150 | n => n, fun | n => n⟩
theorem Tryz.lays156 : Go.Proofs.Lays.n156 Tryz.prog Tryz.lays156_ren := {
  mixed := by kernel_rfl
  f156 := Tryz.func27.trans (congrArg some (by kernel_rfl))
  f165 := Tryz.func62.trans (congrArg some (by kernel_rfl))
  f166 := Tryz.func63.trans (congrArg some (by kernel_rfl))
  f169 := Tryz.func64.trans (congrArg some (by kernel_rfl))
  f240 := Tryz.func123.trans (congrArg some (by kernel_rfl))
  f241 := Tryz.func124.trans (congrArg some (by kernel_rfl))
  f276 := Tryz.func178.trans (congrArg some (by kernel_rfl))
  f277 := Tryz.func179.trans (congrArg some (by kernel_rfl))
  t0 := Tryz.underlying0
  a0 := Tryz.isAgg0
  z0 := Tryz.sizeOf0
  v0 := Tryz.zeroValue0
  t3 := Tryz.underlying3
  a3 := Tryz.isAgg3
  z3 := Tryz.sizeOf3
  v3 := Tryz.zeroValue3
  t4 := Tryz.underlying4
  a4 := Tryz.isAgg4
  z4 := Tryz.sizeOf4
  v4 := Tryz.zeroValue4
  t9 := Tryz.underlying9
  a9 := Tryz.isAgg9
  z9 := Tryz.sizeOf9
  v9 := Tryz.zeroValue9
  t20 := Tryz.underlying20
  a20 := Tryz.isAgg20
  z20 := Tryz.sizeOf20
  v20 := Tryz.zeroValue20
  t31 := Tryz.underlying66
  a31 := Tryz.isAgg66
  z31 := Tryz.sizeOf66
  v31 := Tryz.zeroValue66
  t37 := Tryz.underlying146
  a37 := Tryz.isAgg146
  z37 := Tryz.sizeOf146
  v37 := Tryz.zeroValue146
  t70 := Tryz.underlying145
  a70 := Tryz.isAgg145
  z70 := Tryz.sizeOf145
  v70 := Tryz.zeroValue145
  t72 := Tryz.underlying148
  a72 := Tryz.isAgg148
  z72 := Tryz.sizeOf148
  v72 := Tryz.zeroValue148
  t75 := Tryz.underlying132
  a75 := Tryz.isAgg132
  z75 := Tryz.sizeOf132
  v75 := Tryz.zeroValue132
  t76 := Tryz.underlying133
  a76 := Tryz.isAgg133
  z76 := Tryz.sizeOf133
  v76 := Tryz.zeroValue133
  t127 := Tryz.underlying209
  a127 := Tryz.isAgg209
  z127 := Tryz.sizeOf209
  v127 := Tryz.zeroValue209
  t164 := Tryz.underlying275
  a164 := Tryz.isAgg275
  z164 := Tryz.sizeOf275
  v164 := Tryz.zeroValue275 }
theorem Tryz.Builder_Extra_156 : Builder.Extra Tryz.prog Tryz.lays156_ren := {
  sizeBuilder := by kernel_rfl
  liesBuilder := by kernel_rfl
  t5 := Tryz.underlying5
  a5 := Tryz.isAgg5
  z5 := Tryz.sizeOf5
  v5 := Tryz.zeroValue5
  infoByte := by kernel_rfl
  cellsByte := by kernel_rfl
  sizeByte := by kernel_rfl
  neB5 := by decide }
open Go.RowKit in
/-- strings.Join: "Join concatenates the elements of its first argument to create a single string. The separator string sep is placed between elements in the resulting string.": HOWEVER MANY ELEMENTS. Below the heap's end the world is as it was. (LAID: no walk: one application.) -/
theorem Tryz.strings_Join (bk o c : Nat) (xs : List ByteArray) (sep : ByteArray) (w : World) (hcells : ∀ (j : Nat) x, xs[j]? = some x → w.cell? ⟨bk, o + j, none⟩ = some (.string x)) (hbk : bk < w.heap.size) (hN : xs.length ≤ 140737488355328) (hcap : xs.length ≤ c) (hlen : (Lib.join (xs.map (·.data.toList)) sep.data.toList).length ≤ 140737488355328) :
    Calls Tryz.prog 27 #[.slice (some ⟨bk, o, none⟩) xs.length c, .string sep] w fun e w' => e = .returned (.string ⟨(Lib.join (xs.map (·.data.toList)) sep.data.toList).toArray⟩) ∧ Below w.heap.size w w' := Any.strings_Join Tryz.lays156 Tryz.Builder_Extra_156 bk o c xs sep w hcells hbk hN hcap hlen
def Tryz.lays217_ren : Go.Shelf.Ren := ⟨fun | 217 => 236 | 266 => 248 | n => n, fun | 9 => 9 | 5 => 5 | 3 => 3 | n => n, fun | n => n⟩
theorem Tryz.lays217 : Go.Proofs.Lays.n217 Tryz.prog Tryz.lays217_ren := {
  mixed := by kernel_rfl
  f217 := Tryz.func236.trans (congrArg some (by kernel_rfl))
  f266 := Tryz.func248.trans (congrArg some (by kernel_rfl))
  t3 := Tryz.underlying3
  a3 := Tryz.isAgg3
  z3 := Tryz.sizeOf3
  v3 := Tryz.zeroValue3
  t5 := Tryz.underlying5
  a5 := Tryz.isAgg5
  z5 := Tryz.sizeOf5
  v5 := Tryz.zeroValue5
  t9 := Tryz.underlying9
  a9 := Tryz.isAgg9
  z9 := Tryz.sizeOf9
  v9 := Tryz.zeroValue9 }
open Go.RowKit Go.Lib in
/-- internal/stringslite.IndexByte (what strings.IndexByte calls): IT RETURNS 'Lib.indexByte s c'; the world is as it was. (LAID: no walk: one application.) -/
theorem Tryz.stringslite_IndexByte (s : ByteArray) (c : Int) (w : World) :
    Calls Tryz.prog 236 #[.string s, .int .u8 c] w fun e w' => e = .returned (.int .i64 (Lib.indexByte s.data.toList c.toNat.toUInt8)) ∧ w' = w := Any.stringslite_IndexByte Tryz.lays217 s c w
theorem Tryz.ren156_63 : Tryz.lays156_ren.f 166 = 63 := by decide
open Go.RowKit in
theorem Tryz.Builder_WriteString_k (B b : Nat) (bs : List Value) (s : ByteArray) (w : World) (h : Lib.IsBuilderF 148 5 B b bs w) (hlen : bs.length + s.size ≤ 140737488355328) (hBw : B ≤ w.heap.size) :
    Calls Tryz.prog 63 #[.pointer (some ⟨b, 0, none⟩), .string s] w fun e w' => e = .returned (.tuple #[.int .i64 s.size, .nilIface]) ∧ (Lib.BuilderAtF 148 5 B b (.pointer (some ⟨b, 0, none⟩)) (bs ++ Lib.strCells s) w' ∧ Below B w w' ∧ Lib.OthersKept 5 (some b) w w') := Any.Builder_WriteString_k { Tryz.lays156 with } Tryz.Builder_Extra_156 B b bs s w h hlen hBw
end Go.Proofs

/- The text of a small number: a strings.Builder in a loop over slices.Backward. -/
namespace AmT
open Go Go.RowKit Go.Shelf AM Go.Proofs

attribute [local go_sem] Oper.semAt_some

theorem back_call (F : Fence) (n : Nat) (h5 : F.fn 154) (hro : F.round = none) (a : Option Addr) (len cap : Nat) (w : World) :
    CallsIn F n Tryz.prog 154 #[.slice a len cap] w fun e w' => e = .returned (.func (.func 206) #[] #[.pointer (some ⟨w.heap.size, 0, none⟩)]) ∧ w' = w.alloc (.cells #[.slice a len cap] 177) := by
  refine callsIn_of_wp Tryz.func154 rfl h5 ?_ hro
  simp only [Tryz.ntmps154, List.size_toArray, List.length_cons, List.length_nil, Nat.reduceAdd, Nat.reduceSub, Array.replicate_succ, Array.replicate_zero, List.push_toArray, List.append_toArray, List.nil_append, List.cons_append]
  gi_wp2
  go_ret
  exact ⟨rfl, rfl⟩

theorem builder_own {T e : TypeId} {B b : Nat} {p : Value} {bs : List Value} {W W' : World} {row : Option Nat} (h : Lib.BuilderAtF T e B b p bs W) (hg : W.grownBy W' row)
    (hr : ∀ r, row = some r → ∃ o : Go.Obj, W.heap[r]? = some o ∧ o.isCells = false) : Lib.BuilderAtF T e B b p bs W' := by
  obtain ⟨hB, v, hb, hown, hne⟩ := h
  have ne : ∀ k c t fz, W.heap[k]? = some (.cells c t fz) → row ≠ some k := by
    intro k c t fz hk e
    obtain ⟨o, ho, hc⟩ := hr k e
    rw [hk] at ho; cases ho; cases hc
  refine ⟨hB, v, ?_, hown.kept hg ?_, hne⟩
  · rw [hg.block b (Array.getElem?_eq_some_iff.1 hb).1 (ne _ _ _ _ hb).symm]; exact hb
  · cases hv : v.ownBlock with
    | none => exact .inl rfl
    | some g =>
      right
      obtain ⟨c, fz, hgc⟩ := Lib.ownsRowF_kind hown g hv
      exact fun e => ne _ _ _ _ hgc e.symm

theorem isBuilder_own {T e : TypeId} {B b : Nat} {bs : List Value} {W W' : World} {row : Option Nat} (h : Lib.IsBuilderF T e B b bs W) (hg : W.grownBy W' row)
    (hr : ∀ r, row = some r → ∃ o : Go.Obj, W.heap[r]? = some o ∧ o.isCells = false) : Lib.IsBuilderF T e B b bs W' :=
  h.elim (fun x => .inl (builder_own x hg hr)) (fun x => .inr (builder_own x hg hr))

theorem others_keeps {e : TypeId} {b : Nat} {W W' : World} {T : TypeId} {c : Array Value} {fz : Nat × Nat} (h : Lib.OthersKept e (some b) W W') (hs : W.heap.size ≤ W'.heap.size) (hb : W.heap[b]? = some (.cells c T fz)) : KeepsOthers W W' :=
  ⟨hs, fun k o hk ho => by
    refine h k o hk ?_ ?_
    · intro e; cases e; rw [hb] at hk; cases hk; cases ho
    · intro c fz e; subst e; cases ho⟩

theorem three (w : World) (o1 o2 o3 : Go.Obj) : (((w.alloc o1).alloc o2).alloc o3).heap[w.heap.size]? = some o1 ∧ (((w.alloc o1).alloc o2).alloc o3).heap[w.heap.size + 1]? = some o2 ∧ (((w.alloc o1).alloc o2).alloc o3).heap[w.heap.size + 2]? = some o3 := by
  have h : (((w.alloc o1).alloc o2).alloc o3).heap = ((w.heap.push o1).push o2).push o3 := rfl
  rw [h]
  refine ⟨?_, ?_, ?_⟩
  · rw [Array.getElem?_push, if_neg (by simp; omega), Array.getElem?_push, if_neg (by simp), Array.getElem?_push, if_pos rfl]
  · rw [Array.getElem?_push, if_neg (by simp), Array.getElem?_push, if_pos (by simp)]
  · rw [Array.getElem?_push, if_pos (by simp)]

theorem back_stops (x : Int) (F : Fence) (n : Nat) (h8 : F.fn 206) (hro : F.round = none) (hn : 1 ≤ n) (Bs b off cp : Nat) (w : World) (hBs : Bs < w.heap.size) (hb : b < w.heap.size)
    (hc : w.cell? ⟨Bs, 0, none⟩ = some (.slice (some ⟨b, off, none⟩) 1 cp)) (hx : w.cell? ⟨b, off, none⟩ = some (.int .u64 x)) :
    SeqStopsK F n Tryz.prog 206 #[.pointer (some ⟨Bs, 0, none⟩)] (fun _ : Unit => #[.int .i64 0, .int .u64 x]) (fun _ _ => True) (fun ys => ys = [()]) (fun _ => True) 1 w := by
  intro l J Jx W hW _ _ hY h0
  have hc' := (hW.cell (p := ⟨Bs, 0, none⟩) hBs).trans hc
  have hx' := (hW.cell (p := ⟨b, off, none⟩) hb).trans hx
  refine (back_in F n h8 hro hn l Bs 1 cp (some ⟨b, off, none⟩) (fun r W' => (r = 1 ∧ W' = W ∧ J [] W') ∨ (r = 0 ∧ J [()] W')) (fun W' => Jx [()] W') (by omega) ?_ W hc' (.inl ⟨rfl, rfl, h0⟩)).mono ?_
  · rintro r W' (⟨h1, rfl, hj⟩ | ⟨h1, _⟩)
    · obtain rfl : r = 0 := by omega
      refine ⟨b, off, 1, cp, x, hc', by omega, by omega, hx', ?_⟩
      obtain ⟨fn, tmps, assign, body, hy, hR⟩ := hY [] () W' hj (by simp)
      refine ⟨fn, tmps, assign, body, hy, hR.mono ?_⟩
      rintro e W3 (⟨rfl, hJ3, _⟩ | ⟨rfl, hJx3⟩)
      · exact .inl ⟨rfl, .inr ⟨rfl, hJ3⟩⟩
      · exact .inr ⟨rfl, hJx3⟩
    · omega
  · rintro e W' ⟨he, (⟨h1, _⟩ | ⟨_, hj⟩) | hj⟩
    · omega
    · exact ⟨he, .inl ⟨[()], rfl, hj⟩⟩
    · exact ⟨he, .inr ⟨[()], trivial, hj⟩⟩

set_option maxRecDepth 100000 in
set_option maxHeartbeats 4000000 in
theorem text_in (x : Int) (ds : List UInt8) (hds : ds ≠ []) (hlen : ds.length ≤ 300)
    (bk off cap : Nat) (w : World)
    (hFU : ∀ W, Below w.heap.size w W → Calls Tryz.prog 37 #[.int .u64 x, .int .i64 10] W fun e w' => e = .returned (.string ⟨ds.toArray⟩) ∧ Below W.heap.size W w') (hbk : bk < w.heap.size) (hc : w.cell? ⟨bk, off, none⟩ = some (.int .u64 x)) :
    Calls Tryz.prog 100 #[.slice (some ⟨bk, off, none⟩) 1 cap] w fun e w' => e = .returned (.tuple #[.string ⟨ds.toArray⟩, .int .i64 0]) ∧ Below w.heap.size w w' := by
  refine (callsIn_wide (n := 3)).1 ?_
  refine callsIn_of_wp_marks Tryz.func100 rfl trivial ?_ rfl
  simp only [Tryz.ntmps100, List.size_toArray, List.length_cons, List.length_nil, Nat.reduceAdd, Nat.reduceSub, Array.replicate_succ, Array.replicate_zero, List.push_toArray, List.append_toArray, List.nil_append, List.cons_append]
  gi_wp2_with (refine ⟨trivial, ?_⟩; gi_at_call 154; refine (back_call Fence.wide _ trivial rfl _ _ _ _).mono ?_; rintro e w' ⟨rfl, rfl⟩)
  have hgrown : ∀ {A B : World}, Below A.heap.size A B → A.grownBy B none := fun h => ⟨h.os, h.tape, h.output, h.size, fun k hk _ => h.block k hk⟩
  have hboxW : ∀ W : World, Below (w.heap.size + 1) ((w.alloc (Go.Obj.cells #[Value.slice (some { block := bk, off := off }) 1 cap] 177)).alloc (Go.Obj.cells #[Value.pointer none, Value.slice none 0 0] 148)) W → True := fun _ _ => trivial
  refine wpIn_rangeFunc_ownG (F := Fence.wide) (n := 3) rfl (by omega) (gf := 206) (lb := #[.pointer (some ⟨w.heap.size + 2, 0, none⟩)]) (by simp [Act.eval]) trivial (enters_of Tryz.func206 (by kernel_rfl) rfl)
    (back_stops x Fence.wide 2 trivial rfl (by omega) (w.heap.size + 2) bk off cap _ (by simp) (by simp; omega) ?c1 ?c2) (fun _ _ => trivial) (fun _ _ _ _ _ _ _ _ => trivial) (Below.refl _ _) (fun _ => rfl)
    (fun pre W => ((pre = [] ∧ Lib.IsBuilderF 148 5 (w.heap.size + 1) (w.heap.size + 1) [] W ∧ W.cell? ⟨w.heap.size, 0, none⟩ = some (.slice (some ⟨bk, off, none⟩) 1 cap) ∧ W.frozen? ⟨w.heap.size, 0, none⟩ = false) ∨
      (pre = [()] ∧ Lib.IsBuilderF 148 5 (w.heap.size + 1) (w.heap.size + 1) (Lib.byteCells ds) W)) ∧ Below w.heap.size w W)
    (fun _ _ _ => False) ?hI (fun c s A B row hs _ _ => hs) ?h0
    (fun _ => { tmps := #[.slice (some ⟨bk, off, none⟩) 1 cap, .pointer (some ⟨w.heap.size, 0, none⟩), .string ⟨#[]⟩, .int .i64 0, .pointer (some ⟨w.heap.size + 1, 0, none⟩), .int .i64 0, .int .u64 x, undef, .slice (some ⟨bk, off, none⟩) 1 cap, .int .i64 1, .bool false,
      .slice (some ⟨bk, off, none⟩) 1 cap, .func (.func 206) #[] #[.pointer (some ⟨w.heap.size + 2, 0, none⟩)], .int .i64 0, .int .u64 x, undef, undef, undef, undef, undef, undef, undef, undef, undef, undef, undef, undef, undef, undef, undef, undef, undef], defers := [] }) ?assign ?body ?done ?stop
  case c1 =>
    obtain ⟨_, _, t3⟩ := three w (Go.Obj.cells #[Value.slice (some { block := bk, off := off }) 1 cap] 177) (Go.Obj.cells #[Value.pointer none, Value.slice none 0 0] 148) (Go.Obj.cells #[Value.slice (some { block := bk, off := off }) 1 cap] 177)
    simp only [World.cell?, t3]; rfl
  case c2 =>
    have hb0 : Below w.heap.size w (((w.alloc (Go.Obj.cells #[Value.slice (some { block := bk, off := off }) 1 cap] 177)).alloc (Go.Obj.cells #[Value.pointer none, Value.slice none 0 0] 148)).alloc (Go.Obj.cells #[Value.slice (some { block := bk, off := off }) 1 cap] 177)) :=
      ((((Below.refl _ w).alloc (Nat.le_refl _) _).alloc (by simp) _).alloc (by simp; omega) _)
    exact (hb0.cell (p := ⟨bk, off, none⟩) hbk).trans hc
  case hI =>
    refine OwnFrom.and (fun pre A B row hs hg hr => ?_) (ownFrom_below (Nat.le_refl _) (by simp; omega))
    have hr' : ∀ r, row = some r → ∃ o : Go.Obj, A.heap[r]? = some o ∧ o.isCells = false := fun r e => (hr r e).2
    rcases hs with ⟨h1, h2, h3, h4⟩ | ⟨h1, h2⟩
    · exact .inl ⟨h1, isBuilder_own h2 hg hr', cell_kept h3 hg hr', (frozen_kept h3 hg hr').trans h4⟩
    · exact .inr ⟨h1, isBuilder_own h2 hg hr'⟩
  case h0 =>
    have hb0 : Below w.heap.size w (((w.alloc (Go.Obj.cells #[Value.slice (some { block := bk, off := off }) 1 cap] 177)).alloc (Go.Obj.cells #[Value.pointer none, Value.slice none 0 0] 148)).alloc (Go.Obj.cells #[Value.slice (some { block := bk, off := off }) 1 cap] 177)) :=
      ((((Below.refl _ w).alloc (Nat.le_refl _) _).alloc (by simp) _).alloc (by simp; omega) _)
    refine ⟨.inl ⟨rfl, .inl ⟨Nat.le_refl _, .slice none 0 0, ?_, World.ownsRowF_nil _ _ _ _, by simp [Value.ownBlock]⟩, ?_, ?_⟩, hb0⟩
    · exact (three w _ _ _).2.1
    · obtain ⟨t1, _, _⟩ := three w (Go.Obj.cells #[Value.slice (some { block := bk, off := off }) 1 cap] 177) (Go.Obj.cells #[Value.pointer none, Value.slice none 0 0] 148) (Go.Obj.cells #[Value.slice (some { block := bk, off := off }) 1 cap] 177)
      simp only [World.cell?, t1]; rfl
    · obtain ⟨t1, _, _⟩ := three w (Go.Obj.cells #[Value.slice (some { block := bk, off := off }) 1 cap] 177) (Go.Obj.cells #[Value.pointer none, Value.slice none 0 0] 148) (Go.Obj.cells #[Value.slice (some { block := bk, off := off }) 1 cap] 177)
      simp only [World.frozen?, t1]; rfl
  case assign =>
    intro l x W K hK
    gi_wp2
    exact hK
  case body =>
    rintro l pre _ W ⟨hpre, hbel⟩ hlen'
    obtain ⟨rfl, hb, hbox, hfz⟩ : pre = [] ∧ Lib.IsBuilderF 148 5 (w.heap.size + 1) (w.heap.size + 1) [] W ∧ W.cell? ⟨w.heap.size, 0, none⟩ = some (.slice (some ⟨bk, off, none⟩) 1 cap) ∧ W.frozen? ⟨w.heap.size, 0, none⟩ = false := by
      rcases hpre with h | ⟨rfl, _⟩
      · exact h
      · simp at hlen'
    have hlt : w.heap.size + 1 < W.heap.size := hb.elim (·.lt) (·.lt)
    gi_wp2
    refine ⟨trivial, (CallsIn.inRound l (callsIn_wide.2 (hFU W hbel))).mono ?_⟩
    rintro e w1 ⟨rfl, hb1⟩
    have hbox1 : w1.cell? ⟨w.heap.size, 0, none⟩ = some (.slice (some ⟨bk, off, none⟩) 1 cap) := (hb1.cell (p := ⟨w.heap.size, 0, none⟩) (show w.heap.size < W.heap.size by omega)).trans hbox
    gi_wp2
    refine ⟨trivial, (CallsIn.inRound l (callsIn_wide.2 (Tryz.Builder_WriteString_k (w.heap.size + 1) (w.heap.size + 1) [] ⟨ds.toArray⟩ w1 (isBuilder_own hb (hgrown hb1) (fun r e => by cases e)) ?s1 ?s2))).mono ?_⟩
    case s1 => simp [ByteArray.size]; omega
    case s2 => have := hb1.size; omega
    rintro e w2 ⟨rfl, hb2, hbel2, hk2⟩
    gi_wp2
    have hbd1 : Lib.IsBuilderF 148 5 (w.heap.size + 1) (w.heap.size + 1) [] w1 := isBuilder_own hb (hgrown hb1) (fun r e => by cases e)
    obtain ⟨c, hc1⟩ : ∃ c, w1.heap[w.heap.size + 1]? = some (.cells c 148 (0, 0)) := hbd1.elim (fun ⟨_, v, h, _⟩ => ⟨_, h⟩) (fun ⟨_, v, h, _⟩ => ⟨_, h⟩)
    have k1 : KeepsOthers W w1 := ⟨hb1.size, fun k o hk _ => (hb1.block k (Array.getElem?_eq_some_iff.1 hk).1).trans hk⟩
    have hstr : [] ++ Lib.strCells ⟨ds.toArray⟩ = Lib.byteCells ds := by simp [Lib.strCells, Lib.byteCells]
    rw [hstr] at hb2
    exact ⟨(k1.trans (others_keeps hk2 hbel2.size hc1)).from _, trivial, .inr ⟨rfl, .inr hb2⟩, (hbel.trans (hb1.mono (by omega))).trans (hbel2.mono (by omega))⟩
  case done =>
    rintro D ys W hD rfl ⟨hpre, hbel⟩ hK
    obtain ⟨_, hb⟩ : [()] = [()] ∧ Lib.IsBuilderF 148 5 (w.heap.size + 1) (w.heap.size + 1) (Lib.byteCells ds) W := by
      rcases hpre with ⟨h, _⟩ | h
      · cases h
      · exact h
    have hlb : (Lib.byteCells ds).length = ds.length := by simp [Lib.byteCells]
    have hlt : w.heap.size + 1 < W.heap.size := hb.elim (·.lt) (·.lt)
    obtain ⟨c, hc1⟩ : ∃ c, W.heap[w.heap.size + 1]? = some (.cells c 148 (0, 0)) := hb.elim (fun ⟨_, v, h, _⟩ => ⟨_, h⟩) (fun ⟨_, v, h, _⟩ => ⟨_, h⟩)
    have hnot : ¬ ((300 : Int) < (ds.length : Int)) := by omega
    gi_wp2
    refine ⟨trivial, (callsIn_wide.2 (Tryz.Builder_Len_f (w.heap.size + 1) (w.heap.size + 1) _ W hb)).mono ?_⟩
    rintro e w1 ⟨rfl, rfl⟩
    rw [hlb]
    gi_wp2
    refine ⟨trivial, (callsIn_wide.2 (Tryz.Builder_String_any_k (w.heap.size + 1) (w.heap.size + 1) ds w1 hb (by omega))).mono ?_⟩
    rintro e w2 ⟨rfl, hb2, hbel2, hk2⟩
    have hK2 := (others_keeps hk2 hbel2.size hc1).same _ _ hK rfl
    gi_wp2
    refine ⟨by simp, .inl ⟨D, _, rfl, run_takeDeferred hK2, ?_⟩⟩
    refine ⟨_, by simp [Go.results, Tryz.f100], rfl, ?_⟩
    have hD' : w.heap.size ≤ D := by simp at hD; omega
    exact (hbel.trans (hbel2.mono (by omega))).trans ⟨rfl, rfl, rfl, by simp, fun k hk => World.putObj_heap_other (by omega)⟩
  case stop =>
    rintro D c pre W _ _ h _
    exact h.elim

end AmT

/- What the machine takes from the library's contracts. -/
namespace AmT
open Go AM Go.Proofs

def indexByteP : List AV → Option AV
  | [.str s, .int .u8 c] => some (.int .i64 (Lib.indexByte s c.toNat.toUInt8))
  | _ => none

theorem PrimR_indexByte : PrimR Tryz.prog 236 indexByteP := by
  refine ⟨⟨_, Tryz.func236, by decide, rfl⟩, fun args v hv Φ h w args' hw ha => ?_⟩
  unfold indexByteP at hv
  split at hv
  · rename_i s c
    cases hv
    obtain ⟨v1, us, e1, r1, r2⟩ := ha.inv_cons
    obtain ⟨v2, us', e2, r3, r4⟩ := r2.inv_cons
    have := r4.inv_nil
    subst this; subst e2
    have ha' : args' = #[v1, v2] := Array.toList_inj.1 e1
    subst ha'
    have h1 := r1.str_eq
    subst h1
    cases r3
    refine (Tryz.stringslite_IndexByte ⟨s.toArray⟩ c w).mono (fun e w' he => ?_)
    obtain ⟨rfl, rfl⟩ := he
    exact ⟨_, Φ, rfl, .refl Φ, hw, by simpa using VR.int (Φ := Φ) .i64 _⟩
  · cases hv

def overB (g : Nat) : Option (List AV → Option AV) := bif Nat.beq g 236 then some indexByteP else none

noncomputable def env0 : Env := env00.over overB
theorem envR0 : EnvR Tryz.prog env0 := ⟨rfl, tdR⟩
theorem fnT0 : FnT Tryz.prog env0 := fnT00.over (fun g p h => by
  unfold overB at h
  cases hb : Nat.beq g 236 with
  | true => rw [hb] at h; cases h; rw [Nat.eq_of_beq_eq_true hb]; exact PrimR_indexByte
  | false => rw [hb] at h; cases h)
theorem simT0 : CallR Tryz.prog (callL env0) := sim envR0 fnT0
end AmT

/- The letters of a word, one by one: an iterator that keeps what is left in a variable. -/
namespace AmT
open Go AM

/-- how long the first letter is -/
noncomputable def lenOf (k : Int) (s : List UInt8) : Option Nat := match callN env0 64 242 [.int .i64 k, .str s] [] with
  | some (.int .i64 (.ofNat n), []) => some n
  | _ => none

noncomputable def letCount : Nat → Int → List UInt8 → Option Nat
  | 0, _, _ => some 0
  | f + 1, k, s => match lenOf k s with
    | some 0 => some 0
    | some (n + 1) => (letCount f k (s.drop (n + 1))).map (· + 1)
    | none => none

/-- as often as letters are left: the next one -/
noncomputable def letList (k : Int) (s : List UInt8) : Option (List (List AV)) := match lenOf k s with
  | some 0 => some []
  | some (n + 1) => bif Nat.ble (n + 1) s.length then (letCount s.length k (s.drop (n + 1))).map fun r => List.replicate (r + 1) [AV.str (s.take (n + 1))] else none
  | none => none

noncomputable def letItems (cap : List AV) (h : List AM.Obj) : Option (List (List AV)) :=
  match cap with
  | [.ptr a 0, .ptr b 0] => match h[a]?, h[b]? with
    | some (.cells [.int .i64 k]), some (.cells [.str s]) => letList k s
    | _, _ => none
  | _ => none

noncomputable def letFin (cap : List AV) (h : List AM.Obj) : Bool := match letItems cap h with
  | some [] => true
  | _ => false

def letPost (cap x : List AV) (h : List AM.Obj) : Option (List AM.Obj) :=
  match cap, x with
  | [.ptr _ 0, .ptr b 0], [.str t] => match h[b]? with
    | some (.cells [.str s]) => bif Nat.ble t.length s.length then some (h.set b (.cells [.str (s.drop t.length)])) else none
    | _ => none
  | _, _ => none

theorem letItems_inv {cap : List AV} {h : List AM.Obj} {l : List (List AV)} (hl : letItems cap h = some l) :
    ∃ a b k s n, cap = [.ptr a 0, .ptr b 0] ∧ h[a]? = some (.cells [.int .i64 k]) ∧ h[b]? = some (.cells [.str s]) ∧ lenOf k s = some n ∧ n ≤ s.length ∧ (l = [] → n = 0) ∧ (∀ q, q < l.length → l[q]? = some [.str (s.take n)] ∧ n ≠ 0) := by
  unfold letItems at hl
  split at hl
  · rename_i a b
    split at hl
    · rename_i k s h1 h2
      unfold letList at hl
      split at hl
      · rename_i hn
        cases hl
        exact ⟨a, b, k, s, 0, rfl, h1, h2, hn, Nat.zero_le _, fun _ => rfl, fun q hq => by simp at hq⟩
      · rename_i n hn
        cases hb : Nat.ble (n + 1) s.length with
        | false => rw [hb] at hl; cases hl
        | true =>
          rw [hb] at hl
          simp only [cond_true, Option.map_eq_some_iff] at hl
          obtain ⟨r, _, rfl⟩ := hl
          refine ⟨a, b, k, s, n + 1, rfl, h1, h2, hn, Nat.le_of_ble_eq_true hb, fun h => by simp [List.replicate_succ] at h, fun q hq => ⟨?_, by omega⟩⟩
          rw [List.length_replicate] at hq
          rw [List.getElem?_replicate, if_pos hq]
      · cases hl
    · cases hl
  · cases hl

theorem lenOf_call {k : Int} {s : List UInt8} {n : Nat} (h : lenOf k s = some n) : callN env0 64 242 [.int .i64 k, .str s] [] = some (.int .i64 n, []) := by
  unfold lenOf at h
  split at h
  · rename_i m hm; cases h; exact hm
  · cases h

/-- what the world holds -/
theorem cell_R {Φ : Phi} {h : List AM.Obj} {W : World} (hw : WR Φ h W) {r : Nat} {x : AV} (hr : h[r]? = some (.cells [x])) : ∃ v t, W.heap[Φ.φ r]? = some (.cells #[v] t (0, 0)) ∧ VR Φ x v := by
  obtain ⟨vs, t, g1, g2, _, _⟩ := hw.obj _ _ hr
  obtain ⟨v, us, e1, g3, g4⟩ := g2.inv_cons
  have := g4.inv_nil
  subst this
  have : vs = #[v] := Array.toList_inj.1 e1
  subst this
  exact ⟨v, t, g1, g3⟩

end AmT

/- The iterator of a word's letters: its contract. -/
namespace AmT
open Go Go.RowKit Go.Shelf AM Go.Proofs

attribute [local go_sem] Oper.semAt_some

theorem LoopWp_ind {P : Program} {ro : Option Nat} {c : Code} {Q : Exit → Act → World → Prop} (I : Nat → Act → World → Prop)
    (h : ∀ q a w, I q a w → c.wpIn (rnd ro) 0 P (Exit.then (fun a' w' => ∃ q', q' < q ∧ I q' a' w') Q) a w) : ∀ q a w, I q a w → LoopWp P ro c Q a w := by
  intro q
  induction q using Nat.strongRecOn with
  | _ q ih =>
    intro a w hI
    refine LoopWp.step (nd := 0) (wpIn_mono (h q a w hI) ?_)
    intro e a' w' he
    cases e with
    | normal => obtain ⟨q', hq, hi⟩ := he; exact ih q' hq a' w' hi
    | _ => exact he

theorem let_world {Φ Ψ : Phi} {a b : Nat} {h : List AM.Obj} {W : World} {l : List (List AV)} (ha : a < Φ.N) (hb : b < Φ.N) (hle : Φ.le Ψ) (hw : WR Ψ h W) (hl : letItems [.ptr a 0, .ptr b 0] h = some l) :
    ∃ k s n, W.cell? ⟨Φ.φ a, 0, none⟩ = some (.int .i64 k) ∧ W.cell? ⟨Φ.φ b, 0, none⟩ = some (.string ⟨s.toArray⟩) ∧ W.frozen? ⟨Φ.φ b, 0, none⟩ = false ∧ lenOf k s = some n ∧ n ≤ s.length ∧ (l = [] → n = 0) ∧ (∀ q, q < l.length → l[q]? = some [.str (s.take n)] ∧ n ≠ 0) := by
  obtain ⟨a', b', k, s, n, hc, h1, h2, h3, h4, h5, h6⟩ := letItems_inv hl
  simp only [List.cons.injEq, AV.ptr.injEq, and_true] at hc
  obtain ⟨rfl, rfl⟩ := hc
  obtain ⟨v1, t1, g1, r1⟩ := cell_R hw h1
  obtain ⟨v2, t2, g2, r2⟩ := cell_R hw h2
  rw [hle.φ _ ha] at g1
  rw [hle.φ _ hb] at g2
  cases r1
  rw [r2.str_eq] at g2
  refine ⟨k, s, n, ?_, ?_, ?_, h3, h4, h5, h6⟩
  · simp only [World.cell?, g1]; rfl
  · simp only [World.cell?, g2]; rfl
  · simp only [World.frozen?, g2]; rfl

theorem len_call {Φ : Phi} {h : List AM.Obj} {w : World} {k : Int} {s : List UInt8} {n : Nat} (hw : WR Φ h w) (hn : lenOf k s = some n) :
    Calls Tryz.prog 242 #[.int .i64 k, .string ⟨s.toArray⟩] w fun e w' => e = .returned (.int .i64 n) ∧ Below w.heap.size w w' := by
  refine (simT0.below (callL_of (lenOf_call hn)) (by simp [closed, AM.cut, noref, AV.beqs, AV.beq]) hw (Below.refl _ _) (args' := #[.int .i64 k, .string ⟨s.toArray⟩]) (.cons (.int _ _) (.cons (VR.of_str s) .nil))).mono (fun e w' he => ?_)
  obtain ⟨v', Ψ, rfl, hv, hb⟩ := he
  cases hv
  exact ⟨rfl, hb⟩

theorem letPost_inv {a b : Nat} {t : List UInt8} {h h2 : List AM.Obj} (hp : letPost [.ptr a 0, .ptr b 0] [.str t] h = some h2) :
    ∃ s, h[b]? = some (.cells [.str s]) ∧ t.length ≤ s.length ∧ h2 = h.set b (.cells [.str (s.drop t.length)]) := by
  unfold letPost at hp
  simp only at hp
  split at hp
  · rename_i s hs
    cases hb : Nat.ble t.length s.length with
    | true => rw [hb] at hp; cases hp; exact ⟨s, hs, Nat.le_of_ble_eq_true hb, rfl⟩
    | false => rw [hb] at hp; cases hp
  · cases hp

theorem kept_below {w w' : World} (hb : Below w.heap.size w w') : Kept w w' := fun b o h _ => by
  rw [hb.block b (Array.getElem?_eq_some_iff.1 h).1]; exact h

set_option maxRecDepth 100000 in
set_option maxHeartbeats 4000000 in
theorem let_iter {E : Env} (heq : ∀ cap h, E.iter 241 cap h = letItems cap h) (hpost : ∀ cap x h, E.post 241 cap x h = letPost cap x h) (hfin : ∀ cap h, E.fin 241 cap h = letFin cap h) :
    ∀ (cap : List AV) (h0 : List AM.Obj) (l0 : List (List AV)), E.iter 241 cap h0 = some l0 → IterR1 Tryz.prog E 241 cap h0 l0 := by
  intro cap h0 l0 hit
  refine ⟨⟨_, Tryz.func241, by decide, rfl⟩, fun Φ w cap' hw hcap lb J J' Jx hJ hJm hJ' hpo hY h Ψ0 W hW hW0 => ?_⟩
  rw [heq] at hit
  obtain ⟨a, b, _, _, _, rfl, _⟩ := letItems_inv hit
  obtain ⟨v, us, e1, g3, g4⟩ := hcap.inv_cons
  obtain ⟨v', us', e2, g5, g6⟩ := g4.inv_cons
  have := g6.inv_nil
  subst this; subst e2
  have hcap' : cap' = #[v, v'] := Array.toList_inj.1 e1
  subst hcap'
  cases g3 with
  | ptr _ _ ha => cases g5 with
    | ptr _ _ hb =>
    -- what lies in the cells
    have data : ∀ r h Ψ W, J r h Ψ W → ∃ l k s n, letItems [.ptr a 0, .ptr b 0] h = some l ∧ (r ≤ l.length) ∧ (r = 0 → l = []) ∧ W.cell? ⟨Φ.φ a, 0, none⟩ = some (.int .i64 k) ∧ W.cell? ⟨Φ.φ b, 0, none⟩ = some (.string ⟨s.toArray⟩) ∧ W.frozen? ⟨Φ.φ b, 0, none⟩ = false ∧ lenOf k s = some n ∧ n ≤ s.length ∧ (l = [] → n = 0) ∧ (∀ q, q < l.length → l[q]? = some [.str (s.take n)] ∧ n ≠ 0) := by
      intro r h Ψ W hj
      obtain ⟨k1, k2, k3, k4⟩ := hJ _ _ _ _ hj
      cases r with
      | zero =>
        have hf := k4 rfl
        rw [hfin] at hf
        unfold letFin at hf
        split at hf
        · rename_i hl
          obtain ⟨k, s, n, m1, m2, m3, m4, m5, m6, m7⟩ := let_world ha hb k1 k2 hl
          exact ⟨[], k, s, n, hl, Nat.le_refl _, fun _ => rfl, m1, m2, m3, m4, m5, m6, m7⟩
        · cases hf
      | succ q =>
        obtain ⟨l, hl, hq⟩ := k3 q rfl
        rw [heq] at hl
        obtain ⟨k, s, n, m1, m2, m3, m4, m5, m6, m7⟩ := let_world ha hb k1 k2 hl
        exact ⟨l, k, s, n, hl, hq, fun h => by omega, m1, m2, m3, m4, m5, m6, m7⟩
    have main : CallsIn Fence.wide 0 Tryz.prog 241 (#[.func (.yield lb) #[] #[]] ++ #[.pointer (some ⟨Φ.φ a, 0, none⟩), .pointer (some ⟨Φ.φ b, 0, none⟩)]) W (fun e W' => (∃ v, e = .returned v) ∧ ((∃ h Ψ, J 0 h Ψ W') ∨ Jx W')) := by
      refine callsIn_of_wp Tryz.func241 rfl trivial ?_ rfl
      obtain ⟨l, k, s, n, d1, d2, d3, d4, d5, d6, d7, d8, d9, d10⟩ := data _ _ _ _ hW
      simp only [Tryz.ntmps241, List.size_toArray, List.length_cons, List.length_nil, Nat.reduceAdd, Nat.reduceSub, Array.replicate_succ, Array.replicate_zero, List.push_toArray, List.append_toArray, List.nil_append, List.cons_append]
      gi_wp2
      obtain ⟨j1, j2, _, _⟩ := hJ _ _ _ _ hW
      refine ⟨trivial, rfl, (callsIn_wide.2 (len_call j2 d7)).mono ?_⟩
      rintro e w1 ⟨rfl, hb1⟩
      have hW1 : J l0.length h Ψ0 w1 := hJm _ _ _ _ _ _ hW (.refl _) (j2.below hb1) (kept_below hb1)
      have c4 := cell_below hb1 d4
      have c5 := cell_below hb1 d5
      gi_wp2
      refine LoopWp.loop (ro := none) (nd := 0) (LoopWp_ind (ro := none) (fun q a' w' => ∃ (h : List AM.Obj) (Ψ : Phi) (k : Int) (s : List UInt8) (n : Nat) (u3 u5 u6 u7 u8 u9 u10 u11 u12 u13 u14 u15 u16 u17 u18 u19 u20 u21 u22 : Value), J q h Ψ w' ∧
        w'.cell? ⟨Φ.φ a, 0, none⟩ = some (.int .i64 k) ∧ w'.cell? ⟨Φ.φ b, 0, none⟩ = some (.string ⟨s.toArray⟩) ∧ lenOf k s = some n ∧
        a' = { tmps := #[.func (.yield lb) #[] #[], .pointer (some ⟨Φ.φ a, 0, none⟩), .pointer (some ⟨Φ.φ b, 0, none⟩), u3, .int .i64 n, u5, u6, u7, u8, u9, u10, u11, u12, u13, u14, u15, u16, u17, u18, u19, u20, u21, u22], defers := [] }) ?round l0.length _ _ ?start)
      case start => exact ⟨h, Ψ0, k, s, n, _, _, _, _, _, _, _, _, _, _, _, _, _, _, _, _, _, _, _, hW1, c4, c5, d7, rfl⟩
      case round =>
        rintro q a' W ⟨h, Ψ, k, s, n, u3, u5, u6, u7, u8, u9, u10, u11, u12, u13, u14, u15, u16, u17, u18, u19, u20, u21, u22, hj, e4, e5, e7, rfl⟩
        show Code.wpIn Fence.wide 0 _ _ _ _ _
        obtain ⟨l, k', s', n', d1, d2, d3, d4, d5, d6, d7, d8, d9, d10⟩ := data _ _ _ _ hj
        rw [e4] at d4; cases d4
        rw [e5] at d5
        have hs : s = s' := by simpa using d5
        subst hs
        rw [e7] at d7; cases d7
        cases q with
        | zero =>
          have hl0 := d3 rfl
          have hn0 : n = 0 := d9 hl0
          subst hn0
          gi_wp2
          refine ⟨fun _ h => (by cases h), ?_⟩
          gi_wp2
          go_end0
          exact ⟨⟨_, rfl⟩, .inl ⟨h, Ψ, hj⟩⟩
        | succ q =>
          obtain ⟨hlq, hn0⟩ := d10 q (by omega)
          have hpos : (0 : Int) < (n : Int) := by omega
          have hex : (⟨s.toArray⟩ : ByteArray).extract 0 n = ⟨(s.take n).toArray⟩ := by
            apply ByteArray.ext
            apply Array.toList_inj.1
            simp
          obtain ⟨fn, tmps, assign, body, hy, hR⟩ := hY q h Ψ W l _ #[.string ⟨(s.take n).toArray⟩] hj (by rw [heq]; exact d1) hlq (.cons (VR.of_str _) .nil)
          gi_wp2
          refine ⟨rfl, hR.mono ?_⟩
          rintro e W3 (⟨rfl, h', Ψ', hj3⟩ | ⟨rfl, hjx⟩)
          · obtain ⟨q1, q2, h2, q3⟩ := hJ' _ _ _ _ _ hj3
            have q3' := q3
            rw [hpost] at q3'
            obtain ⟨s3, p1, p2, rfl⟩ := letPost_inv q3'
            have hlen : (s.take n).length = n := by simp; omega
            rw [hlen] at p2 q3 q3'
            obtain ⟨v3, t3, g3, r3⟩ := cell_R q2 p1
            rw [q1.φ _ hb, r3.str_eq] at g3
            have c3 : W3.cell? ⟨Φ.φ b, 0, none⟩ = some (.string ⟨s3.toArray⟩) := by simp only [World.cell?, g3]; rfl
            have f3 : W3.frozen? ⟨Φ.φ b, 0, none⟩ = false := by simp only [World.frozen?, g3]; rfl
            have hex3 : (⟨s3.toArray⟩ : ByteArray).extract n s3.length = ⟨(s3.drop n).toArray⟩ := by
              apply ByteArray.ext
              apply Array.toList_inj.1
              simp only [ByteArray.data_extract, Array.toList_extract, List.extract]
              exact List.take_of_length_le (by simp)
            have hw4 : WR Ψ' (h'.set b (.cells [.str (s3.drop n)])) (W3.setCell ⟨Φ.φ b, 0, none⟩ (.string ⟨(s3.drop n).toArray⟩)) := by
              rw [setCell_eq_setRow W3 (Φ.φ b) 0 _ t3 (0, 0) _ g3, ← q1.φ _ hb]
              exact q2.setCells p1 (by rw [q1.φ _ hb]; exact g3) (.cons (VR.of_str _) .nil)
            have kept4 : Kept W3 (W3.setCell ⟨Φ.φ b, 0, none⟩ (.string ⟨(s3.drop n).toArray⟩)) := by
              intro k o hk ho
              rw [setCell_eq_setRow W3 (Φ.φ b) 0 _ t3 (0, 0) _ g3, setRow_other W3 _ _ _ (by rintro rfl; rw [g3] at hk; cases hk; cases ho)]
              exact hk
            obtain ⟨h3, Ω, hj4⟩ := hpo _ _ _ _ _ _ _ _ hj3 q3 (.refl _) hw4 kept4
            obtain ⟨l4, k4, s4, n4, _, _, _, x4, x5, _, x7, _⟩ := data _ _ _ _ hj4
            obtain ⟨y1, y2, _⟩ := hJ _ _ _ _ hj4
            gi_wp2
            refine ⟨trivial, rfl, (callsIn_wide.2 (len_call y2 x7)).mono ?_⟩
            rintro e w5 ⟨rfl, hb5⟩
            gi_wp2
            exact ⟨q, by omega, h3, Ω, k4, s4, n4, _, _, _, _, _, _, _, _, _, _, _, _, _, _, _, _, _, _, _, hJm _ _ _ _ _ _ hj4 (.refl _) (y2.below hb5) (kept_below hb5), cell_below hb5 x4, cell_below hb5 x5, x7, rfl⟩
          · gi_wp2
            go_end0
            exact ⟨⟨_, rfl⟩, .inr hjx⟩
    exact main

end AmT

/- The machine of this program. -/
namespace AmT
open Go AM Go.Proofs

noncomputable def iterE (g : Nat) (cap : List AV) (h : List AM.Obj) : Option (List (List AV)) := bif Nat.beq g 206 then backItems cap h else bif Nat.beq g 241 then letItems cap h else none
def postE (g : Nat) (cap x : List AV) (h : List AM.Obj) : Option (List AM.Obj) := bif Nat.beq g 241 then letPost cap x h else some h
noncomputable def finE (g : Nat) (cap : List AV) (h : List AM.Obj) : Bool := bif Nat.beq g 241 then letFin cap h else true

noncomputable def envT : Env := { env0 with iter := iterE, post := postE, fin := finE }

theorem iterR : IterR Tryz.prog envT := by
  intro g cap h0 l0 h
  by_cases h1 : g = 206
  · subst h1
    exact iterR_of ⟨_, Tryz.func206, by decide, rfl⟩ backIn (fun _ _ => rfl) (fun _ _ _ => rfl) cap h0 l0 h
  · by_cases h2 : g = 241
    · subst h2
      exact let_iter (fun _ _ => rfl) (fun _ _ _ => rfl) (fun _ _ => rfl) cap h0 l0 h
    · have h3 : iterE g cap h0 = some l0 := h
      unfold iterE at h3
      cases b1 : Nat.beq g 206 with
      | true => exact absurd (Nat.eq_of_beq_eq_true b1) h1
      | false => cases b2 : Nat.beq g 241 with
        | true => exact absurd (Nat.eq_of_beq_eq_true b2) h2
        | false => rw [b1, b2] at h3; cases h3

theorem envR : EnvR Tryz.prog envT := ⟨rfl, tdR⟩
theorem fnT : FnT Tryz.prog envT := ⟨fnT0.mixed, fnT0.go, fnT0.prim, iterR⟩
theorem simT : CallR Tryz.prog (callL envT) := sim envR fnT
end AmT

/- natural's text of a small number and strings.Join, as functions of their arguments. -/
namespace AmT
open Go AM Go.Proofs Go.RowKit

def inTab (x : Int) : List (Int × List UInt8) → Option (List UInt8)
  | [] => none
  | e :: l => bif e.1 == x then some e.2 else inTab x l

theorem inTab_mem {x : Int} {ds : List UInt8} : ∀ {l : List (Int × List UInt8)}, inTab x l = some ds → (x, ds) ∈ l := by
  intro l
  induction l with
  | nil => intro h; cases h
  | cons e l ih =>
    intro h
    simp only [inTab] at h
    cases hb : (e.1 == x) with
    | true =>
      rw [hb] at h
      obtain ⟨a, b⟩ := e
      cases h
      simp only [beq_iff_eq] at hb
      subst hb
      exact .head _
    | false => rw [hb] at h; exact .tail _ (ih h)

def textP (tbl : List (Int × List UInt8)) : List AV → Option AV
  | [.slice [.int .u64 x] 1 _] => match inTab x tbl with
    | some ds => some (.tuple [.str ds, .int .i64 0])
    | none => none
  | _ => none

noncomputable def textOk (n : Nat) (e : Int × List UInt8) : Bool := Nat.ble 1 e.2.length && Nat.ble e.2.length 300 && (match callN envT n 37 [.int .u64 e.1, .int .i64 10] [] with
  | some (v, []) => AV.beq v (.str e.2)
  | _ => false)

theorem PrimR_text {tbl : List (Int × List UInt8)} {n : Nat} (hk : tbl.all (textOk n) = true) : PrimR Tryz.prog 100 (textP tbl) := by
  refine ⟨⟨_, Tryz.func100, by decide, rfl⟩, fun args v hv Φ h w args' hw ha => ?_⟩
  unfold textP at hv
  split at hv
  · rename_i x t
    split at hv
    · rename_i ds hds
      cases hv
      have hok := List.all_eq_true.1 hk _ (inTab_mem hds)
      simp only [textOk, Bool.and_eq_true] at hok
      obtain ⟨⟨h1, h2⟩, h3⟩ := hok
      have h1 := Nat.le_of_ble_eq_true h1
      have h2 := Nat.le_of_ble_eq_true h2
      have hcall : callN envT n 37 [.int .u64 x, .int .i64 10] [] = some (.str ds, []) := by
        split at h3
        · rename_i u hu; rw [hu, AV.beq_eq h3]
        · cases h3
      obtain ⟨v1, us, e1, r1, r2⟩ := ha.inv_cons
      have := r2.inv_nil
      subst this
      have ha' : args' = #[v1] := Array.toList_inj.1 e1
      subst ha'
      obtain ⟨b, off, cap, rfl, hcap, hcells⟩ := r1.slice_one (by simp) (fun y hy => by simp at hy; subst hy; rfl)
      obtain ⟨u, hu1, hu2⟩ := hcells 0 _ rfl
      cases hu2
      have hcell := hw.mem _ _ _ hu1
      refine (text_in x ds (fun e => by rw [e] at h1; simp at h1) h2 b off cap w (fun W hb => ?_) (cell_lt hcell) hcell).mono (fun e w' he => ?_)
      · refine (simT.below (callL_of hcall) (by simp [closed, AM.cut, noref, AV.beqs, AV.beq]) hw hb (args' := #[.int .u64 x, .int .i64 10]) (.cons (.int _ _) (.cons (.int _ _) .nil))).mono (fun e w' he => ?_)
        obtain ⟨v', Ψ, rfl, hv', hbel⟩ := he
        exact ⟨by rw [hv'.str_eq], hbel⟩
      · obtain ⟨rfl, hbel⟩ := he
        exact ⟨_, Φ, rfl, .refl Φ, hw.below hbel, .tuple _ _ rfl (fun k a v ha hv => (VRs.cons (VR.of_str ds) (.cons (.int _ _) .nil)).2 k a v ha hv)⟩
    · cases hv
  · cases hv

theorem PrimR_join : PrimR Tryz.prog 27 joinP := .join ⟨_, Tryz.func27, by decide, rfl⟩ (fun bk o c xs sep w h1 h2 h3 h4 h5 => Tryz.strings_Join bk o c xs sep w h1 h2 h3 h4 h5)

end AmT
