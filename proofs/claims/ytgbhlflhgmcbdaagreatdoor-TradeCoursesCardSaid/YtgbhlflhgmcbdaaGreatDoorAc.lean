/-
  A part of the proof: Open, Row, Laid, Courses.
-/
import Derived.Test.YtgbhlflhgmcbdaaGreatDoorAb
import Derived.ChangeArms
import Derived.DataReads
import Derived.ChangeStays
import Derived.ChangeSame
import Derived.RowKit
import Derived.Deep.DeepHandedRow
import Derived.Lib.LaidU8
import Derived.Lib.LaidCaseMet
import Derived.Lib.LaidIn
import Derived.LaidMore
import Derived.Deep.DeepWitnessRowRef
set_option linter.all false
/- DATA READ AS ARGUMENTS, ON THE MACHINE: plain data (truth values, whole numbers, texts, slices and structs of them) that the model reads are values of the machine. -/
namespace AM
open Go

/-- a type that refers to itself: one level of it -/
structure Self where
  T : Type
  cells : T → List AV
  wf : T → Prop
  n : Nat
  ty : TypeId → Bool
  good : ∀ y, noref.go 0 (cells y) = true ∧ (cells y).all AV.one = true ∧ (cells y).length = n

def Self.none : Self := ⟨Unit, fun _ => [], fun _ => True, 0, fun _ => false, fun _ => ⟨rfl, rfl, rfl⟩⟩

inductive DT where
  | bool | int (k : IntKind) | str
  | slice (n : Nat) (d : DT)
  | unit | pair (a b : DT)
  | agg (d : DT)
  | self

def DT.T (S : Self) : DT → Type
  | .bool => Bool
  | .int _ => Int
  | .str => List UInt8
  | .slice _ d => List (d.T S)
  | .unit => Unit
  | .pair a b => a.T S × b.T S
  | .agg d => d.T S
  | .self => S.T

def DT.isAgg : DT → Bool
  | .agg _ | .self => true
  | _ => false

def DT.isVal : DT → Bool
  | .unit | .pair .. => false
  | _ => true

def DT.size (S : Self) : DT → Nat
  | .unit => 0
  | .pair a b => a.size S + b.size S
  | .agg d => d.size S
  | .self => S.n
  | _ => 1

def cval (agg : Bool) (cs : List AV) : AV := bif agg then .agg cs else match cs with
  | c :: _ => c
  | [] => .undef

def DT.cells (S : Self) : (d : DT) → d.T S → List AV
  | .bool, b => [.bool b]
  | .int k, n => [.int k n]
  | .str, s => [.str s]
  | .slice n d, xs => [.slice ((show List (d.T S) from xs).map fun x => cval d.isAgg (d.cells S x)) n .none]
  | .unit, _ => []
  | .pair a b, x => a.cells S x.1 ++ b.cells S x.2
  | .agg d, x => d.cells S x
  | .self, x => S.cells x

/-- a value -/
def DT.val (S : Self) (d : DT) (x : d.T S) : AV := cval d.isAgg (d.cells S x)

def DT.wf (S : Self) : (d : DT) → d.T S → Prop
  | .bool, _ => True
  | .int k, n => (Lit.int k n).wf = true
  | .str, s => s.length ≤ maxLen
  | .slice _ d, xs => (show List (d.T S) from xs).length ≤ maxLen ∧ ∀ x ∈ (show List (d.T S) from xs), d.wf S x
  | .unit, _ => True
  | .pair a b, x => a.wf S x.1 ∧ b.wf S x.2
  | .agg d, x => d.wf S x
  | .self, x => S.wf x

mutual
def DT.ok (S : Self) (P : Program) : DT → TypeId → Bool
  | .bool, t => match P.underlying t with
    | some .bool => true
    | _ => false
  | .int k, t => match P.underlying t with
    | some (.int k') => decide (k' = k)
    | _ => false
  | .str, t => match P.underlying t with
    | some .string => true
    | _ => false
  | .slice n d, t => match P.underlying t with
    | some (.slice e) => (Nat.beq (P.cellsOf e) n && Nat.beq (d.size S) n) && (d.isVal && (!Nat.beq n 0 && d.ok S P e))
    | _ => false
  | .agg d, t => match P.underlying t with
    | some (.struct fs) => d.okF S P 0 (P.cellsOf t) fs.toList
    | _ => false
  | .self, t => S.ty t
  | .unit, _ => false
  | .pair _ _, _ => false
def DT.okF (S : Self) (P : Program) : DT → Nat → Nat → List Field → Bool
  | .unit, off, tot, [] => Nat.beq off tot
  | .pair a b, off, tot, f :: fs => Nat.beq f.offset off && (a.ok S P f.type && b.okF S P (off + P.cellsOf f.type) tot fs)
  | _, _, _, _ => false
end

variable {S : Self}

theorem DT.cells_good : ∀ (d : DT) (y : d.T S), noref.go 0 (d.cells S y) = true ∧ (d.cells S y).all AV.one = true ∧ (d.cells S y).length = d.size S
  | .bool, _ | .int _, _ | .str, _ | .slice .., _ => ⟨rfl, rfl, rfl⟩
  | .unit, _ => ⟨rfl, rfl, rfl⟩
  | .pair a b, y => by
    obtain ⟨a1, a2, a3⟩ := DT.cells_good a y.1
    obtain ⟨b1, b2, b3⟩ := DT.cells_good b y.2
    simp only [DT.cells, DT.size]
    exact ⟨noref_append a1 b1, by rw [List.all_append, a2, b2]; rfl, by rw [List.length_append, a3, b3]⟩
  | .agg d, y => DT.cells_good d y
  | .self, y => S.good y

theorem DT.val_cells {d : DT} (hd : d.isVal = true) (y : d.T S) : (d.val S y).cells = d.cells S y := by
  cases d <;> first | rfl | (simp [DT.isVal] at hd)

theorem DT.val_noref {d : DT} (hd : d.isVal = true) (y : d.T S) : noref 0 (d.val S y) = true := by
  have := (DT.cells_good d y).1
  cases d <;> first | rfl | (simp [DT.isVal] at hd) | skip
  all_goals simp only [DT.val, DT.isAgg, cval, cond_true, noref]; exact this

theorem DT.cellsOf_vals {d : DT} (hd : d.isVal = true) : ∀ (ys : List (d.T S)), cellsOf (ys.map (d.val S)) = ys.flatMap (d.cells S)
  | [] => rfl
  | y :: ys => by
    have := DT.cellsOf_vals hd ys
    simp only [cellsOf, List.map_cons, List.flatMap_cons] at this ⊢
    rw [this, DT.val_cells hd]

section
variable {H : Type} {enc : TypeId × Value → H} {P : Program} {W : World} {base : Nat} {spare : Nat → Bool} {held : Bool} {Φ : Phi}

theorem cell_spot {a : Addr} {v : Value} (h : W.cell? a = some v) : a = ⟨a.block, a.off, none⟩ := by
  cases a with
  | mk b o s =>
    cases s with
    | none => rfl
    | some s =>
      simp only [World.cell?] at h
      split at h <;> simp at h

/-- a row of elements -/
theorem DT.rows (hΦ : ∀ b o v, W.cell? ⟨b, o, none⟩ = some v → Φ.M b o = some v) {d : DT} {n : Nat} (b : Nat) : ∀ (len off : Nat),
    (∀ i, i < len → ∃ cs, W.cells? base ⟨b, off + i * n, none⟩ n = some cs ∧ ∃ y : d.T S, VRs Φ (d.cells S y) cs ∧ d.wf S y) →
    ∃ (ys : List (d.T S)) (vs : List Value), ys.length = len ∧ VRs Φ (ys.flatMap (d.cells S)) vs ∧ (∀ k v, vs[k]? = some v → Φ.M b (off + k) = some v) ∧ ∀ y ∈ ys, d.wf S y := by
  intro len
  induction len with
  | zero => intro off _; exact ⟨[], [], rfl, .nil, fun k v h => by simp at h, fun y h => by simp at h⟩
  | succ len ih =>
    intro off h
    obtain ⟨cs, h1, y, h2, h3⟩ := h 0 (Nat.succ_pos _)
    obtain ⟨ys, vs, k1, k2, k3, k4⟩ := ih (off + n) (fun i hi => by
      obtain ⟨cs, g1, g2⟩ := h (i + 1) (by omega)
      exact ⟨cs, by rw [show off + n + i * n = off + (i + 1) * n by rw [Nat.add_mul]; omega]; exact g1, g2⟩)
    obtain ⟨_, hlen, hc⟩ := World.cells?_some h1
    refine ⟨y :: ys, cs ++ vs, by simp [k1], h2.append k2, fun k v hk => ?_, fun z hz => by
      cases hz with
      | head => exact h3
      | tail _ hz => exact k4 z hz⟩
    rcases Nat.lt_or_ge k cs.length with hlt | hge
    · rw [List.getElem?_append_left hlt] at hk
      have := hc k (by omega)
      rw [hk] at this
      simp only [Nat.zero_mul, Nat.add_zero] at this
      refine hΦ _ _ _ ?_
      rw [Addr.add_lit] at this
      exact this
    · rw [List.getElem?_append_right hge] at hk
      have := k3 _ _ hk
      rw [show off + k = off + n + (k - cs.length) by omega]
      exact this

theorem DT.read (hΦ : ∀ b o v, W.cell? ⟨b, o, none⟩ = some v → Φ.M b o = some v) (hsp : ∀ b, spare b = true) {F : Nat}
    (hs : ∀ f, f ≤ F → ∀ t cs x, S.ty t = true → DataW.trod enc P W base spare held f t cs = some x → ∃ y : S.T, VRs Φ (S.cells y) cs ∧ S.wf y) : ∀ (d : DT),
    (∀ t, d.ok S P t = true → ∀ f, f ≤ F → ∀ cs x, DataW.trod enc P W base spare held f t cs = some x → ∃ y : d.T S, VRs Φ (d.cells S y) cs ∧ d.wf S y) ∧
    (∀ off tot fs, d.okF S P off tot fs = true → ∀ f, f ≤ F → ∀ cs : List Value, cs.length = tot → (∀ g ∈ fs, ∃ x, DataW.trod enc P W base spare held f g.type ((cs.drop g.offset).take (P.cellsOf g.type)) = some x) →
      ∃ y : d.T S, VRs Φ (d.cells S y) (cs.drop off) ∧ d.wf S y) := by
  intro d
  induction d with
  | bool =>
    refine ⟨fun t ht f hf cs x hx => ?_, fun off tot fs h => by simp [DT.okF] at h⟩
    unfold DT.ok at ht
    split at ht
    · rename_i hu
      obtain ⟨b, rfl, _⟩ := DataW.trod_bool hu hx
      exact ⟨b, .cons (.bool b) .nil, trivial⟩
    · cases ht
  | int k =>
    refine ⟨fun t ht f hf cs x hx => ?_, fun off tot fs h => by simp [DT.okF] at h⟩
    unfold DT.ok at ht
    split at ht
    · rename_i k' hu
      have := of_decide_eq_true ht
      subst this
      obtain ⟨n, rfl, _, hw⟩ := DataW.trod_int hu hx
      exact ⟨n, .cons (.int k' n) .nil, hw⟩
    · cases ht
  | str =>
    refine ⟨fun t ht f hf cs x hx => ?_, fun off tot fs h => by simp [DT.okF] at h⟩
    unfold DT.ok at ht
    split at ht
    · rename_i hu
      obtain ⟨s, rfl, _, hw⟩ := DataW.trod_string hu hx
      exact ⟨s.data.toList, .cons (.str s) .nil, by simpa [DT.wf] using hw⟩
    · cases ht
  | unit =>
    refine ⟨fun t ht => by simp [DT.ok] at ht, fun off tot fs h f hf cs hl _ => ?_⟩
    cases fs with
    | nil =>
      simp only [DT.okF] at h
      have := Nat.eq_of_beq_eq_true h
      exact ⟨(), by rw [List.drop_eq_nil_of_le (by omega)]; exact .nil, trivial⟩
    | cons g fs => simp [DT.okF] at h
  | pair a b iha ihb =>
    refine ⟨fun t ht => by simp [DT.ok] at ht, fun off tot fs h f hf cs hl hfs => ?_⟩
    cases fs with
    | nil => simp [DT.okF] at h
    | cons g fs =>
      simp only [DT.okF, Bool.and_eq_true] at h
      obtain ⟨h1, h2, h3⟩ := h
      have h1 := Nat.eq_of_beq_eq_true h1
      obtain ⟨x, hx⟩ := hfs g (.head _)
      obtain ⟨y, y1, y2⟩ := iha.1 _ h2 f hf _ _ hx
      obtain ⟨z, z1, z2⟩ := ihb.2 _ _ _ h3 f hf cs hl (fun g' hg => hfs g' (.tail _ hg))
      refine ⟨(y, z), ?_, y2, z2⟩
      have := y1.append z1
      rw [h1] at this
      rw [show cs.drop off = (cs.drop off).take (P.cellsOf g.type) ++ cs.drop (off + P.cellsOf g.type) by rw [← List.drop_drop, List.take_append_drop]]
      exact this
  | agg d ih =>
    refine ⟨fun t ht f hf cs x hx => ?_, fun off tot fs h => by simp [DT.okF] at h⟩
    unfold DT.ok at ht
    split at ht
    · rename_i fs hu
      obtain ⟨xs, n, hn, _, hl, hlen, hfs⟩ := DataW.trod_struct hu hx
      obtain ⟨y, y1, y2⟩ := ih.2 _ _ _ ht n (by omega) cs hl (fun g hg => by
        obtain ⟨i, hi, he⟩ := List.getElem_of_mem hg
        have hi' : i < fs.size := by simpa using hi
        have := hfs i g (by rw [Array.getElem?_eq_getElem hi']; simpa using he)
        rw [List.getElem?_eq_getElem (by omega)] at this
        exact ⟨_, this⟩)
      exact ⟨y, y1, y2⟩
    · cases ht
  | self =>
    exact ⟨fun t ht f hf cs x hx => hs f hf t cs x ht hx, fun off tot fs h => by simp [DT.okF] at h⟩
  | slice n d ih =>
    refine ⟨fun t ht f hf cs x hx => ?_, fun off tot fs h => by simp [DT.okF] at h⟩
    unfold DT.ok at ht
    split at ht
    · rename_i e hu
      simp only [Bool.and_eq_true, Bool.not_eq_true'] at ht
      obtain ⟨⟨h1, h2⟩, h3, h4, h5⟩ := ht
      have h1 := Nat.eq_of_beq_eq_true h1
      have h2 := Nat.eq_of_beq_eq_true h2
      have h4 := Nat.ne_of_beq_eq_false h4
      rcases DataW.trod_slice hu hx with ⟨rfl, _⟩ | ⟨a, len, cap, elems, rest, m, hm, rfl, _, hb, hlc, hcm, hlen, hel, hre, _⟩
      · exact ⟨([] : List (d.T S)), .cons (.snil _ _ trivial) .nil, Nat.zero_le _, fun x hx => by cases hx⟩
      · by_cases hc0 : cap = 0
        · have hl0 : len = 0 := by omega
          subst hc0; subst hl0
          exact ⟨([] : List (d.T S)), .cons (.sodd _ _) .nil, Nat.zero_le _, fun x hx => by cases hx⟩
        · have hspot : a = ⟨a.block, a.off, none⟩ := by
            have : ∃ cs', W.cells? base (a.add (0 * P.cellsOf e)) (P.cellsOf e) = some cs' := by
              by_cases hl : 0 < len
              · have := hel 0 hl
                rw [List.getElem?_eq_getElem (by omega)] at this
                obtain ⟨cs', g1, _⟩ := Option.bind_eq_some_iff.1 this
                exact ⟨cs', g1⟩
              · obtain ⟨r1, r2⟩ := hre (hsp _)
                have := r2 0 (by omega)
                rw [List.getElem?_eq_getElem (by omega)] at this
                obtain ⟨cs', g1, _⟩ := Option.bind_eq_some_iff.1 this
                refine ⟨cs', ?_⟩
                rw [show 0 * P.cellsOf e = (len + 0) * P.cellsOf e by rw [show len = 0 by omega]]
                exact g1
            obtain ⟨cs', g⟩ := this
            obtain ⟨_, hlen', hc⟩ := World.cells?_some g
            have := hc 0 (by omega)
            rw [List.getElem?_eq_getElem (by omega)] at this
            have := cell_spot this
            simpa [Addr.add] using this
          obtain ⟨ab, ao, hab⟩ : ∃ ab ao, a = ⟨ab, ao, none⟩ := ⟨_, _, hspot⟩
          subst hab
          obtain ⟨ys, vs, k1, k2, k3, k4⟩ := DT.rows (S := S) (W := W) (base := base) (Φ := Φ) hΦ (d := d) (n := n) ab len ao (fun i hi => by
            have := hel i hi
            rw [List.getElem?_eq_getElem (by omega)] at this
            obtain ⟨cs', g1, g2⟩ := Option.bind_eq_some_iff.1 this
            rw [h1, Addr.add_lit] at g1
            exact ⟨cs', g1, ih.1 _ h5 m (by omega) _ _ g2⟩)
          refine ⟨ys, .cons ?_ .nil, by show ys.length ≤ maxLen; omega, k4⟩
          have hcl : cellsOf (ys.map (d.val S)) = ys.flatMap (d.cells S) := DT.cellsOf_vals h3 ys
          have := VR.slice (Φ := Φ) (ys.map (d.val S)) n .none ab ao cap vs (by simp; omega)
            (fun x hx => by
              obtain ⟨y, _, rfl⟩ := List.mem_map.1 hx
              rw [DT.val_cells h3, (DT.cells_good d y).2.2, h2])
            (fun h => absurd h h4) (by rw [hcl]; exact k2.1) k3 (fun k c v hc hv => k2.2 k c v (by rw [← hcl]; exact hc) hv)
            ((noref_go _ _).2 (fun x hx => by
              obtain ⟨y, _, rfl⟩ := List.mem_map.1 hx
              exact DT.val_noref h3 y))
            (by
              rw [hcl, List.all_eq_true]
              intro c hc
              obtain ⟨y, _, hy⟩ := List.mem_flatMap.1 hc
              exact List.all_eq_true.1 (DT.cells_good d y).2.1 c hy) trivial
          rw [List.length_map, k1] at this
          exact this
    · cases ht
end
end AM

/- A LAW's ROW, FROM THE MACHINE: what the machine answers for the data that are read, the model answers; what was there stays, and reads as it did. -/
namespace AM
open Go Go.RowKit Go.ChangeShapes

section
variable {H : Type} {enc : TypeId × Value → H} {P : Program}

theorem trodAll_stays {T : TypeId → Prop} {W W' : World} {sp' : Nat → Bool} (K : Kids P T) (hsz : ∀ {t e : TypeId}, T t → P.underlying t = some (.slice e) → 0 < P.cellsOf e) :
    ∀ {ts : List TypeId} {vs : List Value} {ds : List (DataW H)} {p : List MemPlace}, (∀ t ∈ ts, T t) → DataW.TrodAll enc P W 0 (fun _ => true) true ts vs ds p →
      (∀ x ∈ p, W.sameAt W' x) → (∀ x ∈ p, sp' x.block = true) → DataW.TrodAll enc P W' 0 sp' true ts vs ds p
  | [], vs, ds, p, _, h, _, _ => by
    obtain ⟨rfl, rfl, rfl⟩ := trodAll_nil h
    exact rfl
  | t :: ts, vs, ds, p, hT, h, h1, h2 => by
    obtain ⟨v, vs1, d, ds1, a, b, rfl, rfl, rfl, ⟨n, hn⟩, hr⟩ := trodAll_cons h
    exact ⟨a, b, ⟨n, DataW.trod_stays K hsz (fun h => by cases h) (hT t (.head _)) hn (fun x hx => h1 x (by simp; exact .inl hx)) (fun x hx => h2 x (by simp; exact .inl hx))⟩,
      trodAll_stays K hsz (fun t ht => hT t (.tail _ ht)) hr (fun x hx => h1 x (by simp; exact .inr hx)) (fun x hx => h2 x (by simp; exact .inr hx)), rfl⟩

theorem below_kept {W W' : World} (h : Below W.heap.size W W') (may : MemPlace → Prop) : W.keptBut W' may := by
  refine ⟨h.os, h.output, fun i hi => ?_⟩
  have := h.block i hi
  rw [this]
  rw [Array.getElem?_eq_getElem hi]
  cases W.heap[i] with
  | cells c t fr => exact ⟨rfl, rfl, rfl, fun _ _ => rfl⟩
  | map es clock => exact .inr ⟨rfl, rfl⟩
  | _ => rfl

theorem below_same {W W' : World} (h : Below W.heap.size W W') {x : MemPlace} (hx : x.block < W.heap.size) : W.sameAt W' x := by
  cases x with
  | cell b off => simp only [World.sameAt, World.cell?, h.block b hx]
  | map b => exact h.block b hx

/-- a law's answer is true, and nothing that was there changes -/
theorem post_law {T : TypeId → Prop} {f : Func} {s : ChangeSpec} {apart fresh handsOn again : Bool} {W W' : World} {args : Array Value} {ds gs : List (DataW H)} {before : List MemPlace} {tb : TypeId}
    (K : Kids P T) (hsz : ∀ {t e : TypeId}, T t → P.underlying t = some (.slice e) → 0 < P.cellsOf e) (hT : ∀ t ∈ f.params.toList, T t)
    (hW : DataW.Whole enc P f.params.toList s.vars apart W args.toList ds gs before) (hv : s.vars = []) (hfn : s.fn H ds = { results := [.lit (.bool true)], args := ds })
    (hr : f.resultTypes = #[tb]) (htb : P.underlying tb = some .bool) (hB : Below W.heap.size W W') :
    s.post enc P f apart fresh handsOn again W args (.bool true) W' := by
  have hW0 := hW
  obtain ⟨p, q, h1, h2, rfl, hz, hn⟩ := hW
  rw [hv] at h2
  obtain ⟨rfl, rfl⟩ : gs = [] ∧ q = [] := by
    cases gs with
    | nil => exact ⟨rfl, h2⟩
    | cons g gs => cases h2
  have hfn' : s.fn H (ds ++ []) = { results := [.lit (.bool true)], args := ds } := by rw [List.append_nil]; exact hfn
  have hlt : ∀ x ∈ p ++ [], x.block < W.heap.size := fun x hx => hW0.lt x hx
  have hargs : ∀ sp : Nat → Bool, (∀ x ∈ p, sp x.block = true) → DataW.TrodAll enc P W' 0 sp true f.params.toList args.toList ds p := fun sp hsp =>
    trodAll_stays K hsz hT h1 (fun x hx => below_same hB (hlt x (by simpa using hx))) hsp
  have hres : ∀ (b : Nat) (sp : Nat → Bool) (hd : Bool), DataW.TrodAll enc P W' b sp hd f.resultTypes.toList ((Value.bool true).resultList f.resultTypes.size) [.lit (.bool true)] [] := fun b sp hd => by
    rw [hr]
    exact ⟨[], [], shut_bool htb true, rfl, rfl⟩
  refine ⟨ds, [], p ++ [], [], p, [], hW0, ?_, ?_, ?_, below_kept hB _, fun _ => ⟨?_, ?_⟩⟩
  · rw [hfn']; exact hres _ _ _
  · rw [hfn']; exact hargs _ (fun x hx => by simpa using hlt x (by simpa using hx))
  · rw [hfn', hv]; exact rfl
  · exact ok_one hr rfl (okWide_bool_mk htb true)
  · refine ⟨[.lit (.bool true)] ++ ds, [], ([] ++ p) ++ [], ⟨[] ++ p, [], trodAll_append (hargs _ (fun _ _ => rfl)) (hres _ _ _), by rw [hv]; exact rfl, rfl, ?_, ?_⟩, ?_⟩
    · intro b off hp
      have hb := hlt (.cell b off) (by simpa using hp)
      have : W'.frozen? ⟨b, off, none⟩ = W.frozen? ⟨b, off, none⟩ := by simp only [World.frozen?, hB.block b hb]
      rw [this]
      exact hz b off (by simpa using hp)
    · intro ha
      simpa using hn ha
    · intro x hx _
      simpa using hx

/-- types that data are read at: kernel's look -/
theorem plain_sizes (h : ((List.range P.types.size).all fun t => match P.underlying t with
    | some (.slice e) => Nat.blt 0 (P.cellsOf e)
    | _ => true) = true) : ∀ {t e : TypeId}, t < P.types.size → P.underlying t = some (.slice e) → 0 < P.cellsOf e := by
  intro t e ht hu
  have := List.all_eq_true.1 h t (by simpa using ht)
  rw [hu] at this
  simpa [Nat.blt, Nat.succ_le_iff] using this

/-- THE WORLD AS IT IS WHEN THE LAW BEGINS -/
def Phi.first (W : World) : Phi := { M := fun b o => W.cell? ⟨b, o, none⟩, F := fun b => W.heap[b]?, φ := fun b => b, τ := fun _ _ => none, N := 0, w0 := W }

theorem WR.first {W : World} (htab : ∀ g k v, table g k = some v → W.cell? ⟨g, k, none⟩ = some v) : WR (Phi.first W) [] W where
  len := rfl
  mem := fun b o v h => h
  frz := fun b ob h => h
  obj := fun r ob hr => by simp at hr
  inj := fun r s x y b hr => by simp at hr
  str := ⟨rfl, rfl, rfl⟩
  tab := fun g k v h => htab g k v h

theorem below_first {W W' : World} {Ψ : Phi} {h : List Obj} (hle : (Phi.first W).le Ψ) (hw : WR Ψ h W') : Below W.heap.size W W' := by
  have hblk : ∀ k, k < W.heap.size → W'.heap[k]? = W.heap[k]? := fun k hk => by
    rw [Array.getElem?_eq_getElem hk]
    refine hw.frz k _ ?_
    rw [hle.F]
    exact Array.getElem?_eq_getElem hk
  have hstr := hw.str
  rw [hle.w0] at hstr
  refine ⟨hstr.1, hstr.2.1, hstr.2.2, ?_, hblk⟩
  rcases Nat.eq_zero_or_pos W.heap.size with h0 | h0
  · omega
  · have h1 := hblk (W.heap.size - 1) (by omega)
    rw [Array.getElem?_eq_getElem (show W.heap.size - 1 < W.heap.size by omega)] at h1
    have := (Array.getElem?_eq_some_iff.1 h1).1
    omega

/-- an argument: what its type says it is -/
theorem DT.arg {S : Self} {W : World} {base : Nat} {t : TypeId} {v : Value} {d : DataW H} {ps : List MemPlace} (hok : Value.okWide P W .any base t v) (h : DataW.Trod enc P W 0 (fun _ => true) true t v d ps) (dt : DT) (hd : dt.isVal = true) (ht : dt.ok S P t = true)
    (hself : dt = .self → ∃ fs, P.underlying t = some (.struct fs))
    (hs : ∀ f, ∀ t cs x, S.ty t = true → DataW.trod enc P W 0 (fun _ => true) true f t cs = some x → ∃ y : S.T, VRs (Phi.first W) (S.cells y) cs ∧ S.wf y) :
    ∃ y : dt.T S, VR (Phi.first W) (dt.val S y) v ∧ dt.wf S y := by
  obtain ⟨n, hn⟩ := h
  obtain ⟨y, h1, h2⟩ := (DT.read (S := S) (Φ := Phi.first W) (spare := fun _ => true) (fun b o v h => h) (fun _ => rfl) (F := n) (fun f _ => hs f) dt).1 t ht n (Nat.le_refl _) _ _ hn
  refine ⟨y, ?_, h2⟩
  have agg : ∀ fs, P.underlying t = some (.struct fs) → dt.isAgg = true → VR (Phi.first W) (dt.val S y) v := by
    intro fs hu ha
    unfold Value.okWide at hok
    rw [hu] at hok
    obtain ⟨cs, rfl, _, _⟩ := hok
    simp only [DT.val, ha, cval, cond_true]
    exact .agg _ _ h1.1 h1.2
  have one : (∀ x, dt.cells S y = [x] → VR (Phi.first W) x v) → dt.isAgg = false → VR (Phi.first W) (dt.val S y) v := by
    intro h ha
    have hl := (DT.cells_good dt y).2.2
    have hsz : dt.size S = 1 := by cases dt <;> first | rfl | (simp [DT.isAgg, DT.isVal] at ha hd)
    rw [hsz] at hl
    obtain ⟨x, hx⟩ : ∃ x, dt.cells S y = [x] := by
      match hc : dt.cells S y, hl with
      | [x], _ => exact ⟨x, rfl⟩
    simp only [DT.val, ha, cval, cond_false, hx]
    exact h x hx
  cases dt with
  | unit => cases hd
  | pair a b => cases hd
  | self => obtain ⟨fs, hu⟩ := hself rfl; exact agg fs hu rfl
  | agg d =>
    unfold DT.ok at ht
    split at ht
    · rename_i fs hu; exact agg fs hu rfl
    · cases ht
  | bool =>
    refine one (fun x hx => ?_) rfl
    unfold DT.ok at ht
    split at ht
    · rename_i hu
      simp only [Value.okWide, hu, Cell.okWide] at hok
      cases v <;> simp only [Cell.ok, hu] at hok
      simp only [DT.cells] at hx; cases hx
      obtain ⟨u, us, e1, r1, _⟩ := h1.inv_cons
      cases e1; exact r1
    · cases ht
  | int k =>
    refine one (fun x hx => ?_) rfl
    unfold DT.ok at ht
    split at ht
    · rename_i hu
      simp only [Value.okWide, hu, Cell.okWide] at hok
      cases v <;> simp only [Cell.ok, hu] at hok
      simp only [DT.cells] at hx; cases hx
      obtain ⟨u, us, e1, r1, _⟩ := h1.inv_cons
      cases e1; exact r1
    · cases ht
  | str =>
    refine one (fun x hx => ?_) rfl
    unfold DT.ok at ht
    split at ht
    · rename_i hu
      simp only [Value.okWide, hu, Cell.okWide] at hok
      cases v <;> simp only [Cell.ok, hu] at hok
      simp only [DT.cells] at hx; cases hx
      obtain ⟨u, us, e1, r1, _⟩ := h1.inv_cons
      cases e1; exact r1
    · cases ht
  | slice n d =>
    refine one (fun x hx => ?_) rfl
    unfold DT.ok at ht
    split at ht
    · rename_i hu
      simp only [Value.okWide, hu, Cell.okWide] at hok
      cases v <;> simp only [Cell.ok, hu] at hok
      simp only [DT.cells] at hx; cases hx
      obtain ⟨u, us, e1, r1, _⟩ := h1.inv_cons
      cases e1; exact r1
    · cases ht
end
end AM

/- THE TABLES THAT A ROW LISTS: what they give a proof, and the great table of letters' cases read by proof. -/
namespace AM
open Go Go.Lib

section
variable {P : Program} {w : World}

/-- a table of whole numbers, wherever it stands on the list -/
theorem tab_cells {name : String} {k : IntKind} {zs : List Int} {g t e n : Nat} (hg : P.globalNamed name = some g) (hty : (P.globals[g]?).map (·.type) = some t) (ht : P.underlying t = some (.array n e)) (he : P.underlying e = some (.int k)) (hce : P.cellsOf e = 1) (hct : P.cellsOf t = n)
    (h : VarReads P w name (tabData k zs)) : ∀ (j : Nat) (v : Value), (zs.map fun z => Value.int k z)[j]? = some v → w.cell? ⟨g, j, none⟩ = some v := by
  obtain ⟨g', t', cs, fuel, p, hg', ht', hvar, hd⟩ := h
  obtain rfl := Option.some.inj (hg.symm.trans hg')
  obtain rfl := Option.some.inj (hty.symm.trans ht')
  intro j v hj
  rw [World.var?_cell hg' hvar j, ← Array.getElem?_toList, cells_of_tab ht he hce hct hd]
  exact hj

/-- a table of pairs of bytes -/
theorem pair_cells {name : String} {k : IntKind} {zs : List (List Int)} {g t e n : Nat} {fs : Array Field} (hg : P.globalNamed name = some g) (hty : (P.globals[g]?).map (·.type) = some t) (ht : P.underlying t = some (.array n e)) (he : P.underlying e = some (.struct fs))
    (hf : ∀ (i : Nat) (f : Field), fs[i]? = some f → P.underlying f.type = some (.int k) ∧ f.offset = i ∧ P.cellsOf f.type = 1) (hce : P.cellsOf e = fs.size) (hz : zs.length = n) (hzs : zs.all (fun l => Nat.beq l.length fs.size) = true) (hpos : 0 < fs.size)
    (h : VarReads P w name (.agg (zs.map fun l => .agg (l.map fun z => .lit (.int k z))))) : ∀ (j : Nat) (v : Value), (zs.flatten.map fun z => Value.int k z)[j]? = some v → w.cell? ⟨g, j, none⟩ = some v := by
  obtain ⟨g', t', cs, fuel, p, hg', ht', hvar, hd⟩ := h
  obtain rfl := Option.some.inj (hg.symm.trans hg')
  obtain rfl := Option.some.inj (hty.symm.trans ht')
  intro j v hj
  rw [World.var?_cell hg' hvar j, ← Array.getElem?_toList]
  have flat : ∀ (l : List (List Int)) (m : Nat), (∀ x ∈ l, x.length = m) → ∀ j, 0 < m → (l.flatten)[j]? = (l[j / m]?).bind (fun x => x[j % m]?) := by
    intro l m hl
    induction l with
    | nil => intro j _; simp
    | cons x l ih =>
      intro j hm
      have hx := hl x (.head _)
      rw [List.flatten_cons]
      by_cases hj : j < m
      · rw [List.getElem?_append_left (by omega), Nat.div_eq_of_lt hj, Nat.mod_eq_of_lt hj]; rfl
      · rw [List.getElem?_append_right (by omega), ih (fun y hy => hl y (.tail _ hy)) _ hm, hx]
        have h1 : j / m = (j - m) / m + 1 := by
          rw [show j = (j - m) + m by omega, Nat.add_div_right _ hm]; simp
        have h2 : j % m = (j - m) % m := by
          conv => lhs; rw [show j = (j - m) + m by omega]
          exact Nat.add_mod_right _ _
        rw [h1, h2]; rfl
  have hall : ∀ x ∈ zs, x.length = fs.size := fun x hx => Nat.eq_of_beq_eq_true (List.all_eq_true.1 hzs x hx)
  rw [List.getElem?_map, flat zs fs.size hall j hpos] at hj
  obtain ⟨z, hz1, rfl⟩ := Option.map_eq_some_iff.1 hj
  obtain ⟨x, hx, hzx⟩ := Option.bind_eq_some_iff.1 hz1
  have hlt : j / fs.size < n := by rw [← hz]; exact (List.getElem?_eq_some_iff.1 hx).1
  obtain ⟨fuel', d, q, hdi, hr⟩ := array_elem ht hd (j / fs.size) hlt
  rw [List.getElem?_map, hx] at hdi
  cases hdi
  rw [hce] at hr
  have hcs := ints_of_struct he hf hce hr
  have e0 := congrArg (·[j % fs.size]?) hcs
  have hmod := Nat.mod_lt j hpos
  simp only [List.getElem?_take, List.getElem?_drop, if_pos hmod, List.getElem?_map, hzx] at e0
  rw [show j / fs.size * fs.size + j % fs.size = j by rw [Nat.mul_comm]; exact Nat.div_add_mod _ _] at e0
  exact e0

/-- one row of letters' cases -/
theorem case_row {tR tU tD tI : TypeId} {n1 n2 n3 : Field} (uR : P.underlying tR = some (.struct #[n1, n2, n3])) (q1 : n1.type = tU ∧ n1.offset = 0) (q2 : n2.type = tU ∧ n2.offset = 1) (q3 : n3.type = tD ∧ n3.offset = 2)
    (uU : P.underlying tU = some (.int .u32)) (uD : P.underlying tD = some (.array 3 tI)) (uI : P.underlying tI = some (.int .i32)) (cR : P.cellsOf tR = 5) (cU : P.cellsOf tU = 1) (cD : P.cellsOf tD = 3) (cI : P.cellsOf tI = 1)
    {enc : TypeId × Value → Unit} {base : Nat} {sp : Nat → Bool} {held : Bool} (x : CaseRow) (hw : rowWf x = true) (fuel : Nat) :
    DataW.trod enc P w base sp held (fuel + 3) tR (cells5 x) = some (Pinned.caseRange x, []) := by
  simp only [rowWf, Bool.and_eq_true] at hw
  obtain ⟨⟨⟨⟨w0, w1⟩, w2⟩, w3⟩, w4⟩ := hw
  have r3 : List.range 3 = [0, 1, 2] := rfl
  simp [DataW.trod, uR, q1.1, q1.2, q2.1, q2.2, q3.1, q3.2, uU, uD, uI, cR, cU, cD, cI, cells5, Pinned.caseRange, w0, w1, w2, w3, w4, r3]

/-- letters' cases, as a block of cells -/
def caseBlock : Array Value := (Pinned.caseRows.flatMap cells5).toArray
theorem case_wf : Pinned.caseRows.all rowWf = true := by decide +kernel

theorem case_read {tS tR tU tD tI : TypeId} {n1 n2 n3 : Field} (uS : P.underlying tS = some (.slice tR)) (uR : P.underlying tR = some (.struct #[n1, n2, n3])) (q1 : n1.type = tU ∧ n1.offset = 0) (q2 : n2.type = tU ∧ n2.offset = 1) (q3 : n3.type = tD ∧ n3.offset = 2)
    (uU : P.underlying tU = some (.int .u32)) (uD : P.underlying tD = some (.array 3 tI)) (uI : P.underlying tI = some (.int .i32)) (cR : P.cellsOf tR = 5) (cU : P.cellsOf tU = 1) (cD : P.cellsOf tD = 3) (cI : P.cellsOf tI = 1)
    {R : Nat} {t : TypeId} {fz : Nat × Nat} (hb : w.heap[R]? = some (.cells caseBlock t fz)) (hn : Pinned.caseRows.length ≤ maxLen) (fuel : Nat) :
    DataW.trod (fun _ => ()) P w 0 (fun _ => true) false (fuel + 4) tS [.slice (some ⟨R, 0, none⟩) Pinned.caseRows.length Pinned.caseRows.length] = some (Pinned.caseRanges, MemPlace.row ⟨R, 0, none⟩ (Pinned.caseRows.length * 5)) := by
  have hcell : ∀ (i : Nat) (x : CaseRow), Pinned.caseRows[i]? = some x → w.cells? 0 ((⟨R, 0, none⟩ : Addr).add (i * 5)) 5 = some (cells5 x) := by
    intro i x hx
    have k : ∀ j, j < 5 → w.cell? ⟨R, 0 + i * 5 + j, none⟩ = (cells5 x)[j]? := fun j hj => by
      rw [Lib.cell_of_heap hb, Nat.zero_add]
      unfold caseBlock
      rw [List.getElem?_toArray]
      exact flat5 _ i _ hx j hj
    have k0 := k 0 (by omega); have k1 := k 1 (by omega); have k2 := k 2 (by omega); have k3 := k 3 (by omega); have k4 := k 4 (by omega)
    have r5 : List.range 5 = [0, 1, 2, 3, 4] := rfl
    unfold World.cells?
    rw [if_pos (Nat.zero_le _), r5]
    simp [Addr.add_lit] at k0 k1 k2 k3 k4 ⊢
    simp [k0, k1, k2, k3, k4, cells5]
  have helem : ∀ i ∈ List.range Pinned.caseRows.length, (w.cells? 0 ((⟨R, 0, none⟩ : Addr).add (i * 5)) 5).bind (DataW.trod (fun _ => ()) P w 0 (fun _ => true) false (fuel + 3) tR) =
      some ((fun i => ((Pinned.caseRange (Pinned.caseRows.getD i (0, 0, 0, 0, 0)) : DataW Unit), ([] : List MemPlace))) i) := by
    intro i hi
    have hi' := List.mem_range.1 hi
    obtain ⟨x, hx⟩ : ∃ x, Pinned.caseRows[i]? = some x := ⟨_, List.getElem?_eq_getElem hi'⟩
    rw [hcell i x hx]
    have := case_row (w := w) (enc := fun _ => ()) (base := 0) (sp := fun _ => true) (held := false) uR q1 q2 q3 uU uD uI cR cU cD cI x (List.all_eq_true.1 case_wf x (List.mem_of_getElem? hx)) fuel
    simp only [Option.bind_some, this, List.getD, hx, Option.getD_some]
  show DataW.trod _ _ _ _ _ _ ((fuel + 3) + 1) _ _ = _
  unfold DataW.trod
  simp only [uS, cR]
  rw [if_pos ⟨Nat.zero_le _, Nat.le_refl _, hn⟩, mapM_some _ _ _ helem]
  have hd : ((List.range Pinned.caseRows.length).map fun i => (Pinned.caseRange (Pinned.caseRows.getD i (0, 0, 0, 0, 0)) : DataW Unit)) = Pinned.caseRows.map Pinned.caseRange := by
    apply List.ext_getElem?
    intro i
    by_cases hi : i < Pinned.caseRows.length
    · simp [hi]
    · simp [hi]
  simp [Function.comp_def] at hd ⊢
  rw [show Pinned.caseRanges = .slice (Pinned.caseRows.map Pinned.caseRange) [] from rfl, ← hd]

/-- letters' cases, listed -/
theorem case_laid {tS tR tU tD tI : TypeId} {n1 n2 n3 : Field} (uS : P.underlying tS = some (.slice tR)) (uR : P.underlying tR = some (.struct #[n1, n2, n3])) (q1 : n1.type = tU ∧ n1.offset = 0) (q2 : n2.type = tU ∧ n2.offset = 1) (q3 : n3.type = tD ∧ n3.offset = 2)
    (uU : P.underlying tU = some (.int .u32)) (uD : P.underlying tD = some (.array 3 tI)) (uI : P.underlying tI = some (.int .i32)) (cR : P.cellsOf tR = 5) (cU : P.cellsOf tU = 1) (cD : P.cellsOf tD = 3) (cI : P.cellsOf tI = 1)
    {g R : Nat} {t : TypeId} (hg : P.globalNamed "unicode.CaseRanges" = some g) (ht : (P.globals[g]?).map (·.type) = some tS) (hgR : g ≠ R)
    (hv : w.heap[g]? = some (.cells #[.slice (some ⟨R, 0, none⟩) Pinned.caseRows.length Pinned.caseRows.length] tS (0, 0))) (hb : w.heap[R]? = some (.cells caseBlock t (0, 0))) (hn : Pinned.caseRows.length ≤ maxLen) : LaidIn P w [("unicode.CaseRanges", Pinned.caseRanges)] [g, R] := by
  have hread := case_read uS uR q1 q2 q3 uU uD uI cR cU cD cI hb hn 0
  refine LaidIn.one (cs := #[.slice (some ⟨R, 0, none⟩) Pinned.caseRows.length Pinned.caseRows.length]) [g, R] hg ht (by simp [World.var?, hg, hv]) hread ?_ ?_ ?_
  · refine List.nodup_append.2 ⟨Go.Proofs.row_nodup _ _, Go.Proofs.row_nodup _ _, ?_⟩
    intro a ha b hb e
    obtain ⟨i, _, rfl⟩ := MemPlace.mem_row.1 ha
    obtain ⟨j, _, rfl⟩ := MemPlace.mem_row.1 hb
    simp at e
    exact hgR e.1
  · intro b off hp
    rcases List.mem_append.1 hp with hp | hp
    · obtain ⟨i, hi, e⟩ := MemPlace.mem_row.1 hp
      cases e
      refine ⟨⟨_, _, hv⟩, fun u v hc => ?_⟩
      obtain rfl : i = 0 := by simp at hi; exact hi
      rw [Lib.cell_of_heap hv] at hc
      simp at hc
    · obtain ⟨i, hi, e⟩ := MemPlace.mem_row.1 hp
      cases e
      refine ⟨⟨_, _, hb⟩, fun u v hc => ?_⟩
      rw [Lib.cell_of_heap hb] at hc
      unfold caseBlock at hc
      rw [List.getElem?_toArray] at hc
      obtain ⟨x, _, hx⟩ := List.mem_flatMap.1 (List.mem_of_getElem? hc)
      simp [cells5] at hx
  · intro x hx
    rcases List.mem_append.1 hx with hx | hx
    · obtain ⟨i, _, rfl⟩ := MemPlace.mem_row.1 hx; exact .head _
    · obtain ⟨i, _, rfl⟩ := MemPlace.mem_row.1 hx; exact .tail _ (.head _)
end
end AM

/- COURSES OF STEPS, IN PLAIN WORDS: a list of steps can be built up step by step exactly if it is increasing and has the needed steps. -/
namespace Courses

/-- the steps that may follow a step -/
def af (k : Int) : List Int :=
  if k = 0 then [1] else if k = 1 then [2, 3, 4] else if k = 2 then [3, 4] else if k = 3 then [4] else if k = 4 then [5, 6] else if k = 5 then [6] else if k = 6 then [7] else []

theorem mem_af {k s : Int} (h : s ∈ af k) : 0 ≤ k ∧ k < s ∧ s ≤ 7 ∧ (k < 1 → s ≤ 1) ∧ (k < 4 → s ≤ 4) ∧ (k < 6 → s ≤ 6) := by
  unfold af at h
  repeat' split at h
  all_goals simp only [List.mem_cons, List.not_mem_nil, or_false] at h
  all_goals omega

theorem af_mem {k s : Int} (h0 : 0 ≤ k) (h1 : k < s) (h2 : s ≤ 7) (h3 : k < 1 → s ≤ 1) (h4 : k < 4 → s ≤ 4) (h5 : k < 6 → s ≤ 6) : s ∈ af k := by
  unfold af
  repeat' split
  all_goals simp only [List.mem_cons, List.not_mem_nil, or_false]
  all_goals omega

/-- what may come behind a list of steps -/
def nextFrom (n : List Int) : List Int → List Int
  | [] => n
  | s :: ds => if s ∈ n then nextFrom (af s) ds else []

def nextS (ds : List Int) : List Int := nextFrom (af 0) ds

/-- a course, from a step on -/
def good (k : Int) : List Int → Prop
  | [] => True
  | s :: ds => s ∈ af k ∧ good s ds

instance : ∀ k l, Decidable (good k l)
  | _, [] => isTrue trivial
  | k, s :: ds => @instDecidableAnd _ _ _ (instDecidableGood s ds)
where instDecidableGood : ∀ k l, Decidable (good k l)
  | _, [] => isTrue trivial
  | k, s :: ds => @instDecidableAnd _ _ _ (instDecidableGood s ds)

def lastFrom (k : Int) : List Int → Int
  | [] => k
  | s :: ds => lastFrom s ds

theorem nextFrom_good : ∀ (l : List Int) (k : Int), good k l → nextFrom (af k) l = af (lastFrom k l)
  | [], _, _ => rfl
  | s :: ds, k, h => by simp only [nextFrom, if_pos h.1, lastFrom]; exact nextFrom_good ds s h.2

theorem nextFrom_bad : ∀ (l : List Int) (k : Int), ¬ good k l → nextFrom (af k) l = []
  | [], _, h => absurd trivial h
  | s :: ds, k, h => by
    simp only [nextFrom]
    by_cases hs : s ∈ af k
    · rw [if_pos hs]; exact nextFrom_bad ds s (fun g => h ⟨hs, g⟩)
    · rw [if_neg hs]

theorem nextFrom_append : ∀ (l : List Int) (k s : Int), good k (l ++ [s]) ↔ good k l ∧ s ∈ af (lastFrom k l)
  | [], k, s => by simp [good, lastFrom]
  | a :: ds, k, s => by simp only [List.cons_append, good, lastFrom, nextFrom_append ds a s, and_assoc]

/-- step by step -/
theorem good_iff : ∀ (l : List Int), good 0 l ↔ ∀ i (h : i < l.length), l[i] ∈ nextS (l.take i) := by
  have gen : ∀ n (l : List Int), l.length = n → (good 0 l ↔ ∀ i (h : i < l.length), l[i] ∈ nextS (l.take i)) := by
    intro n
    induction n with
    | zero => intro l hl; cases l with
      | nil => simp [good]
      | cons a l => cases hl
    | succ n ih =>
      intro l hl
      obtain ⟨p, s, rfl⟩ : ∃ p s, l = p ++ [s] := by
        rcases List.eq_nil_or_concat l with h | ⟨p, s, h⟩
        · rw [h] at hl; cases hl
        · exact ⟨p, s, by simpa using h⟩
      have hp : p.length = n := by simpa using hl
      rw [nextFrom_append, ih p hp]
      constructor
      · rintro ⟨h1, h2⟩ i hi
        by_cases hip : i < p.length
        · rw [List.getElem_append_left hip, List.take_append_of_le_length (by omega)]
          exact h1 i hip
        · have : i = p.length := by simp at hi; omega
          subst this
          rw [List.getElem_append_right (Nat.le_refl _)]
          simp only [Nat.sub_self, List.getElem_cons_zero, List.take_left]
          unfold nextS
          rw [nextFrom_good p 0 ((ih p hp).2 h1)]
          exact h2
      · intro h
        have h1 : ∀ i (hi : i < p.length), p[i] ∈ nextS (p.take i) := fun i hi => by
          have := h i (by simp; omega)
          rw [List.getElem_append_left hi, List.take_append_of_le_length (by omega)] at this
          exact this
        refine ⟨h1, ?_⟩
        have := h p.length (by simp)
        rw [List.getElem_append_right (Nat.le_refl _)] at this
        simp only [Nat.sub_self, List.getElem_cons_zero, List.take_left] at this
        unfold nextS at this
        rw [nextFrom_good p 0 ((ih p hp).2 h1)] at this
        exact this
  exact fun l => gen _ l rfl

/-- increasing from k on, none beyond 7 -/
def sorted (k : Int) : List Int → Prop
  | [] => True
  | s :: ds => k < s ∧ s ≤ 7 ∧ sorted s ds

theorem sorted_lt : ∀ {l : List Int} {k : Int}, sorted k l → ∀ s ∈ l, k < s
  | [], _, _, s, hs => by cases hs
  | a :: ds, k, h, s, hs => by
    cases hs with
    | head => exact h.1
    | tail _ hs => have := sorted_lt h.2.2 s hs; have := h.1; omega

theorem good_sorted : ∀ {l : List Int} {k : Int}, good k l → sorted k l
  | [], _, _ => trivial
  | a :: ds, k, h => ⟨(mem_af h.1).2.1, (mem_af h.1).2.2.1, good_sorted h.2⟩

theorem good_pivot {p : Int} (hp : p = 1 ∨ p = 4 ∨ p = 6) : ∀ {l : List Int} {k : Int}, good k l → k < p → ∀ s ∈ l, p < s → p ∈ l
  | [], _, _, _, s, hs, _ => by cases hs
  | a :: ds, k, h, hk, s, hs, hps => by
    have ha := mem_af h.1
    have hap : a ≤ p := by rcases hp with rfl | rfl | rfl <;> omega
    by_cases hea : a = p
    · subst hea; exact .head _
    · cases hs with
      | head => omega
      | tail _ hs => exact .tail _ (good_pivot hp h.2 (by omega) s hs hps)

theorem good_of : ∀ {l : List Int} {k : Int}, 0 ≤ k → sorted k l → (∀ p, p = 1 ∨ p = 4 ∨ p = 6 → k < p → ∀ s ∈ l, p < s → p ∈ l) → good k l
  | [], _, _, _, _ => trivial
  | a :: ds, k, h0, hs, hp => by
    have no : ∀ p, p = 1 ∨ p = 4 ∨ p = 6 → k < p → a ≤ p := by
      intro p h1 h2
      by_cases h3 : p < a
      · have := hp p h1 h2 a (.head _) h3
        cases this with
        | head => omega
        | tail _ hm => have := sorted_lt hs.2.2 p hm; omega
      · omega
    refine ⟨af_mem h0 hs.1 hs.2.1 (no 1 (.inl rfl)) (no 4 (.inr (.inl rfl))) (no 6 (.inr (.inr rfl))), good_of (by have := hs.1; omega) hs.2.2 (fun p h1 h2 s h3 h4 => ?_)⟩
    have := hp p h1 (by have := hs.1; omega) s (.tail _ h3) h4
    cases this with
    | head => omega
    | tail _ hm => exact hm

/-- as the statement asks of each step -/
def rightAt (l : List Int) (i : Nat) : Prop := ∃ s, l[i]? = some s ∧ 1 ≤ s ∧ s ≤ 7 ∧ (i = 0 ∨ ∃ t : Int, l[i - 1]? = some t ∧ t < s) ∧ (s ≤ 1 ∨ 1 ∈ l) ∧ (s ≤ 4 ∨ 4 ∈ l) ∧ (s ≤ 6 ∨ 6 ∈ l)

theorem sorted_iff : ∀ (l : List Int) (k : Int), sorted k l ↔ ∀ (i : Nat) (s : Int), l[i]? = some s → s ≤ 7 ∧ (match i with | 0 => k < s | i + 1 => ∃ t : Int, l[i]? = some t ∧ t < s)
  | [], k => by simp [sorted]
  | a :: ds, k => by
    simp only [sorted, sorted_iff ds a]
    constructor
    · rintro ⟨h1, h2, h3⟩ i s hs
      cases i with
      | zero => simp only [List.getElem?_cons_zero, Option.some.injEq] at hs; subst hs; exact ⟨h2, h1⟩
      | succ i =>
        simp only [List.getElem?_cons_succ] at hs
        obtain ⟨k1, k2⟩ := h3 i s hs
        refine ⟨k1, ?_⟩
        cases i with
        | zero => exact ⟨a, rfl, k2⟩
        | succ i => obtain ⟨t, t1, t2⟩ := k2; exact ⟨t, by simpa using t1, t2⟩
    · intro h
      have h0 := h 0 a rfl
      refine ⟨h0.2, h0.1, fun i s hs => ?_⟩
      obtain ⟨k1, k2⟩ := h (i + 1) s (by simpa using hs)
      refine ⟨k1, ?_⟩
      cases i with
      | zero => obtain ⟨t, t1, t2⟩ := k2; simp only [List.getElem?_cons_zero, Option.some.injEq] at t1; subst t1; exact t2
      | succ i => obtain ⟨t, t1, t2⟩ := k2; exact ⟨t, by simpa using t1, t2⟩

theorem good_right (l : List Int) : good 0 l ↔ ∀ i, i < l.length → rightAt l i := by
  constructor
  · intro h i hi
    obtain ⟨s, hs⟩ : ∃ s, l[i]? = some s := ⟨_, List.getElem?_eq_getElem hi⟩
    have hsrt := good_sorted h
    obtain ⟨k1, k2⟩ := (sorted_iff l 0).1 hsrt i s hs
    have hm := List.mem_of_getElem? hs
    have hpos := sorted_lt hsrt s hm
    refine ⟨s, hs, by omega, k1, ?_, ?_, ?_, ?_⟩
    · cases i with
      | zero => exact .inl rfl
      | succ i => exact .inr (by simpa using k2)
    · by_cases h1 : s ≤ 1
      · exact .inl h1
      · exact .inr (good_pivot (.inl rfl) h (by omega) s hm (by omega))
    · by_cases h1 : s ≤ 4
      · exact .inl h1
      · exact .inr (good_pivot (.inr (.inl rfl)) h (by omega) s hm (by omega))
    · by_cases h1 : s ≤ 6
      · exact .inl h1
      · exact .inr (good_pivot (.inr (.inr rfl)) h (by omega) s hm (by omega))
  · intro h
    have at' : ∀ (i : Nat) (s : Int), l[i]? = some s → 1 ≤ s ∧ s ≤ 7 ∧ (i = 0 ∨ ∃ t : Int, l[i - 1]? = some t ∧ t < s) ∧ (s ≤ 1 ∨ 1 ∈ l) ∧ (s ≤ 4 ∨ 4 ∈ l) ∧ (s ≤ 6 ∨ 6 ∈ l) := by
      intro i s hs
      obtain ⟨t, t1, t2⟩ := h i (List.getElem?_eq_some_iff.1 hs).1
      rw [hs] at t1; cases t1; exact t2
    refine good_of (Int.le_refl 0) ((sorted_iff l 0).2 (fun i s hs => ?_)) (fun p hp _ s hs hps => ?_)
    · obtain ⟨a1, a2, a3, _⟩ := at' i s hs
      refine ⟨a2, ?_⟩
      cases i with
      | zero => show (0 : Int) < s; omega
      | succ i => rcases a3 with a3 | a3
                  · cases a3
                  · simpa using a3
    · obtain ⟨i, hi, he⟩ := List.getElem_of_mem hs
      obtain ⟨_, _, _, a4, a5, a6⟩ := at' i s (by rw [List.getElem?_eq_getElem hi, he])
      rcases hp with rfl | rfl | rfl
      · exact a4.resolve_left (by omega)
      · exact a5.resolve_left (by omega)
      · exact a6.resolve_left (by omega)

end Courses
