/-
  A part of the proof: SeatKE.
-/
import Derived.Test.YtgbhlflhgmcbdaaGreatDoorSb
import Derived.Test.YtgbhlflhgmcbdaaGreatDoorAb
set_option linter.all false
/- The calls that are known, and the tables of them. Printed by genknow.py. -/
namespace AmT
open Go AM Go.Proofs

def texts : List (Int × List UInt8) := [(1, [49]), (2, [50]), (3, [51]), (5, [53]), (7, [55]), (9, [57]), (15, [49, 53]), (100, [49, 48, 48]), (900, [57, 48, 48])]
theorem textsK : texts.all (textOk 64) = true := by decide +kernel
def z0 : Entry := ([.slice [] 1 .none], .tuple [.str [48], .int .i64 0])
theorem zk0 : isKnown envT 64 100 z0 = true := by decide +kernel
def zs : List Entry := [z0]
def baseP (g : Nat) : Option (List AV → Option AV) := bif Nat.beq g 100 then some (fun a => match textP texts a with | some v => some v | none => known zs a) else bif Nat.beq g 27 then some joinP else none
theorem en100 : AM.Enters Tryz.prog 100 := ⟨_, Tryz.func100, by decide, rfl⟩
theorem zsR : FactL Tryz.prog 100 zs := .cons (.known simT en100 (n := 64) (fun x hx => by cases hx with | head => exact isKnown_spec zk0 | tail _ hx => cases hx)) (.nil en100)
theorem baseR : ∀ g p, baseP g = some p → PrimR Tryz.prog g p := by
  intro g p h
  unfold baseP at h
  cases b1 : Nat.beq g 100 with
  | true => rw [b1] at h; cases h; rw [Nat.eq_of_beq_eq_true b1]; exact (PrimR_text textsK).or zsR.prim
  | false =>
    rw [b1] at h
    cases b2 : Nat.beq g 27 with
    | true => rw [b2] at h; cases h; rw [Nat.eq_of_beq_eq_true b2]; exact PrimR_join
    | false => rw [b2] at h; cases h
noncomputable def envB : Env := envT.over baseP
theorem envBR : EnvR Tryz.prog envB := envR.over _
theorem fnB : FnT Tryz.prog envB := fnT.over baseR

/-- internal/strconv.formatBits -/
def e0 : Entry := ([.slice [] 0 .exact, .int .u64 16220036665602579244, .int .i64 16, .bool false, .bool false], .tuple [.slice [] 0 .exact, .str [101, 49, 49, 57, 50, 53, 54, 56, 102, 49, 48, 100, 57, 98, 50, 99]])
/-- customhouse/digest.Sum -/
def e1 : Entry := ([.str [107, 101, 121]], .str [101, 49, 49, 57, 50, 53, 54, 56, 102, 49, 48, 100, 57, 98, 50, 99])
/-- strings.makeASCIISet -/
def e2 : Entry := ([.str [48, 49, 50, 51, 52, 53, 54, 55, 56, 57, 97, 98, 99, 100, 101, 102]], .tuple [.agg [.bool false, .bool false, .bool false, .bool false, .bool false, .bool false, .bool false, .bool false, .bool false, .bool false, .bool false, .bool false, .bool false, .bool false, .bool false, .bool false, .bool false, .bool false, .bool false, .bool false, .bool false, .bool false, .bool false, .bool false, .bool false, .bool false, .bool false, .bool false, .bool false, .bool false, .bool false, .bool false, .bool false, .bool false, .bool false, .bool false, .bool false, .bool false, .bool false, .bool false, .bool false, .bool false, .bool false, .bool false, .bool false, .bool false, .bool false, .bool false, .bool true, .bool true, .bool true, .bool true, .bool true, .bool true, .bool true, .bool true, .bool true, .bool true, .bool false, .bool false, .bool false, .bool false, .bool false, .bool false, .bool false, .bool false, .bool false, .bool false, .bool false, .bool false, .bool false, .bool false, .bool false, .bool false, .bool false, .bool false, .bool false, .bool false, .bool false, .bool false, .bool false, .bool false, .bool false, .bool false, .bool false, .bool false, .bool false, .bool false, .bool false, .bool false, .bool false, .bool false, .bool false, .bool false, .bool false, .bool false, .bool false, .bool true, .bool true, .bool true, .bool true, .bool true, .bool true, .bool false, .bool false, .bool false, .bool false, .bool false, .bool false, .bool false, .bool false, .bool false, .bool false, .bool false, .bool false, .bool false, .bool false, .bool false, .bool false, .bool false, .bool false, .bool false, .bool false, .bool false, .bool false, .bool false, .bool false, .bool false, .bool false, .bool false, .bool false, .bool false, .bool false, .bool false, .bool false, .bool false, .bool false, .bool false, .bool false, .bool false, .bool false, .bool false, .bool false, .bool false, .bool false, .bool false, .bool false, .bool false, .bool false, .bool false, .bool false, .bool false, .bool false, .bool false, .bool false, .bool false, .bool false, .bool false, .bool false, .bool false, .bool false, .bool false, .bool false, .bool false, .bool false, .bool false, .bool false, .bool false, .bool false, .bool false, .bool false, .bool false, .bool false, .bool false, .bool false, .bool false, .bool false, .bool false, .bool false, .bool false, .bool false, .bool false, .bool false, .bool false, .bool false, .bool false, .bool false, .bool false, .bool false, .bool false, .bool false, .bool false, .bool false, .bool false, .bool false, .bool false, .bool false, .bool false, .bool false, .bool false, .bool false, .bool false, .bool false, .bool false, .bool false, .bool false, .bool false, .bool false, .bool false, .bool false, .bool false, .bool false, .bool false, .bool false, .bool false, .bool false, .bool false, .bool false, .bool false, .bool false, .bool false, .bool false, .bool false, .bool false, .bool false, .bool false, .bool false, .bool false, .bool false, .bool false, .bool false, .bool false, .bool false, .bool false, .bool false, .bool false, .bool false, .bool false, .bool false, .bool false, .bool false, .bool false, .bool false, .bool false, .bool false, .bool false, .bool false, .bool false, .bool false, .bool false, .bool false, .bool false, .bool false, .bool false, .bool false, .bool false], .bool true])
/-- strings.Trim -/
def e3 : Entry := ([.str [101, 49, 49, 57, 50, 53, 54, 56, 102, 49, 48, 100, 57, 98, 50, 99], .str [48, 49, 50, 51, 52, 53, 54, 55, 56, 57, 97, 98, 99, 100, 101, 102]], .str [])
/-- customhouse/lexer.classes -/
def e4 : Entry := ([], .agg [.int .i64 0, .int .i64 0, .int .i64 0, .int .i64 0, .int .i64 0, .int .i64 0, .int .i64 0, .int .i64 0, .int .i64 0, .int .i64 1, .int .i64 1, .int .i64 0, .int .i64 0, .int .i64 0, .int .i64 0, .int .i64 0, .int .i64 0, .int .i64 0, .int .i64 0, .int .i64 0, .int .i64 0, .int .i64 0, .int .i64 0, .int .i64 0, .int .i64 0, .int .i64 0, .int .i64 0, .int .i64 0, .int .i64 0, .int .i64 0, .int .i64 0, .int .i64 0, .int .i64 1, .int .i64 7, .int .i64 6, .int .i64 2, .int .i64 0, .int .i64 0, .int .i64 0, .int .i64 0, .int .i64 9, .int .i64 9, .int .i64 0, .int .i64 9, .int .i64 9, .int .i64 9, .int .i64 9, .int .i64 0, .int .i64 4, .int .i64 4, .int .i64 4, .int .i64 4, .int .i64 4, .int .i64 4, .int .i64 4, .int .i64 4, .int .i64 4, .int .i64 4, .int .i64 9, .int .i64 9, .int .i64 8, .int .i64 9, .int .i64 8, .int .i64 0, .int .i64 0, .int .i64 3, .int .i64 3, .int .i64 3, .int .i64 3, .int .i64 3, .int .i64 3, .int .i64 3, .int .i64 3, .int .i64 3, .int .i64 3, .int .i64 3, .int .i64 3, .int .i64 3, .int .i64 3, .int .i64 3, .int .i64 3, .int .i64 3, .int .i64 3, .int .i64 3, .int .i64 3, .int .i64 3, .int .i64 3, .int .i64 3, .int .i64 3, .int .i64 3, .int .i64 3, .int .i64 9, .int .i64 0, .int .i64 9, .int .i64 0, .int .i64 5, .int .i64 0, .int .i64 3, .int .i64 3, .int .i64 3, .int .i64 3, .int .i64 3, .int .i64 3, .int .i64 3, .int .i64 3, .int .i64 3, .int .i64 3, .int .i64 3, .int .i64 3, .int .i64 3, .int .i64 3, .int .i64 3, .int .i64 3, .int .i64 3, .int .i64 3, .int .i64 3, .int .i64 3, .int .i64 3, .int .i64 3, .int .i64 3, .int .i64 3, .int .i64 3, .int .i64 3, .int .i64 9, .int .i64 0, .int .i64 9, .int .i64 0, .int .i64 0, .int .i64 0, .int .i64 0, .int .i64 0, .int .i64 0, .int .i64 0, .int .i64 0, .int .i64 0, .int .i64 0, .int .i64 0, .int .i64 0, .int .i64 0, .int .i64 0, .int .i64 0, .int .i64 0, .int .i64 0, .int .i64 0, .int .i64 0, .int .i64 0, .int .i64 0, .int .i64 0, .int .i64 0, .int .i64 0, .int .i64 0, .int .i64 0, .int .i64 0, .int .i64 0, .int .i64 0, .int .i64 0, .int .i64 0, .int .i64 0, .int .i64 0, .int .i64 0, .int .i64 0, .int .i64 0, .int .i64 0, .int .i64 0, .int .i64 0, .int .i64 0, .int .i64 0, .int .i64 0, .int .i64 0, .int .i64 0, .int .i64 0, .int .i64 0, .int .i64 0, .int .i64 0, .int .i64 0, .int .i64 0, .int .i64 0, .int .i64 0, .int .i64 0, .int .i64 0, .int .i64 0, .int .i64 0, .int .i64 0, .int .i64 0, .int .i64 0, .int .i64 0, .int .i64 0, .int .i64 0, .int .i64 0, .int .i64 0, .int .i64 0, .int .i64 0, .int .i64 0, .int .i64 0, .int .i64 0, .int .i64 0, .int .i64 0, .int .i64 0, .int .i64 0, .int .i64 0, .int .i64 0, .int .i64 0, .int .i64 0, .int .i64 0, .int .i64 0, .int .i64 0, .int .i64 0, .int .i64 0, .int .i64 0, .int .i64 0, .int .i64 0, .int .i64 0, .int .i64 0, .int .i64 0, .int .i64 0, .int .i64 0, .int .i64 0, .int .i64 0, .int .i64 0, .int .i64 0, .int .i64 0, .int .i64 0, .int .i64 0, .int .i64 0, .int .i64 0, .int .i64 0, .int .i64 0, .int .i64 0, .int .i64 0, .int .i64 0, .int .i64 0, .int .i64 0, .int .i64 0, .int .i64 0, .int .i64 0, .int .i64 0, .int .i64 0, .int .i64 0, .int .i64 0, .int .i64 0, .int .i64 0, .int .i64 0, .int .i64 0, .int .i64 0, .int .i64 0, .int .i64 0, .int .i64 0, .int .i64 0, .int .i64 0, .int .i64 0, .int .i64 0, .int .i64 0, .int .i64 0, .int .i64 0, .int .i64 0, .int .i64 0])
/-- customhouse/lexer.Lex -/
def e5 : Entry := ([.str [112]], .tuple [.slice [.agg [.int .i64 1, .int .i64 0, .int .i64 0, .str [112]]] 4 .none, .int .i64 0, .int .i64 0])
/-- customhouse/list.identifier -/
def e6 : Entry := ([.str [112]], .bool true)
/-- customhouse/script.Letters -/
def e7 : Entry := ([.int .i64 1, .str [97, 110, 110, 97]], .tuple [.slice [.str [97], .str [110], .str [110], .str [97]] 1 .none, .int .i64 0])
/-- customhouse/lexer.Lex -/
def e8 : Entry := ([.str [113]], .tuple [.slice [.agg [.int .i64 1, .int .i64 0, .int .i64 0, .str [113]]] 4 .none, .int .i64 0, .int .i64 0])
/-- customhouse/list.identifier -/
def e9 : Entry := ([.str [113]], .bool true)
/-- customhouse/script.Letters -/
def e10 : Entry := ([.int .i64 1, .str [97]], .tuple [.slice [.str [97]] 1 .none, .int .i64 0])
/-- strings.makeASCIISet -/
def e11 : Entry := ([.str [97, 98, 99, 100, 101, 102, 103, 104, 105, 106, 107, 108, 109, 110, 111, 112, 113, 114, 115, 116, 117, 118, 119, 120, 121, 122]], .tuple [.agg [.bool false, .bool false, .bool false, .bool false, .bool false, .bool false, .bool false, .bool false, .bool false, .bool false, .bool false, .bool false, .bool false, .bool false, .bool false, .bool false, .bool false, .bool false, .bool false, .bool false, .bool false, .bool false, .bool false, .bool false, .bool false, .bool false, .bool false, .bool false, .bool false, .bool false, .bool false, .bool false, .bool false, .bool false, .bool false, .bool false, .bool false, .bool false, .bool false, .bool false, .bool false, .bool false, .bool false, .bool false, .bool false, .bool false, .bool false, .bool false, .bool false, .bool false, .bool false, .bool false, .bool false, .bool false, .bool false, .bool false, .bool false, .bool false, .bool false, .bool false, .bool false, .bool false, .bool false, .bool false, .bool false, .bool false, .bool false, .bool false, .bool false, .bool false, .bool false, .bool false, .bool false, .bool false, .bool false, .bool false, .bool false, .bool false, .bool false, .bool false, .bool false, .bool false, .bool false, .bool false, .bool false, .bool false, .bool false, .bool false, .bool false, .bool false, .bool false, .bool false, .bool false, .bool false, .bool false, .bool false, .bool false, .bool true, .bool true, .bool true, .bool true, .bool true, .bool true, .bool true, .bool true, .bool true, .bool true, .bool true, .bool true, .bool true, .bool true, .bool true, .bool true, .bool true, .bool true, .bool true, .bool true, .bool true, .bool true, .bool true, .bool true, .bool true, .bool true, .bool false, .bool false, .bool false, .bool false, .bool false, .bool false, .bool false, .bool false, .bool false, .bool false, .bool false, .bool false, .bool false, .bool false, .bool false, .bool false, .bool false, .bool false, .bool false, .bool false, .bool false, .bool false, .bool false, .bool false, .bool false, .bool false, .bool false, .bool false, .bool false, .bool false, .bool false, .bool false, .bool false, .bool false, .bool false, .bool false, .bool false, .bool false, .bool false, .bool false, .bool false, .bool false, .bool false, .bool false, .bool false, .bool false, .bool false, .bool false, .bool false, .bool false, .bool false, .bool false, .bool false, .bool false, .bool false, .bool false, .bool false, .bool false, .bool false, .bool false, .bool false, .bool false, .bool false, .bool false, .bool false, .bool false, .bool false, .bool false, .bool false, .bool false, .bool false, .bool false, .bool false, .bool false, .bool false, .bool false, .bool false, .bool false, .bool false, .bool false, .bool false, .bool false, .bool false, .bool false, .bool false, .bool false, .bool false, .bool false, .bool false, .bool false, .bool false, .bool false, .bool false, .bool false, .bool false, .bool false, .bool false, .bool false, .bool false, .bool false, .bool false, .bool false, .bool false, .bool false, .bool false, .bool false, .bool false, .bool false, .bool false, .bool false, .bool false, .bool false, .bool false, .bool false, .bool false, .bool false, .bool false, .bool false, .bool false, .bool false, .bool false, .bool false, .bool false, .bool false, .bool false, .bool false, .bool false, .bool false, .bool false, .bool false, .bool false, .bool false, .bool false], .bool true])
/-- strings.Trim -/
def e12 : Entry := ([.str [97], .str [97, 98, 99, 100, 101, 102, 103, 104, 105, 106, 107, 108, 109, 110, 111, 112, 113, 114, 115, 116, 117, 118, 119, 120, 121, 122]], .str [])
/-- customhouse/rewrite.Valid -/
def e13 : Entry := ([.agg [.slice [.agg [.int .i64 1, .str [97], .str [97], .int .i64 0]] 4 .exact, .slice [] 0 .exact, .slice [] 0 .exact, .int .i64 0, .int .i64 0, .int .i64 0]], .bool true)
/-- customhouse/money.Valid -/
def e14 : Entry := ([.slice [.agg [.str [85, 83, 68], .int .i64 0, .int .i64 3, .int .i64 2]] 4 .exact, .str [69, 85, 82]], .bool true)
/-- customhouse/fact.isName -/
def e15 : Entry := ([.str [109, 105, 108, 105, 116, 97, 114, 121]], .bool true)
/-- customhouse/lexer.Lex -/
def e16 : Entry := ([.str [97, 49]], .tuple [.slice [.agg [.int .i64 1, .int .i64 0, .int .i64 0, .str [97, 49]]] 4 .none, .int .i64 0, .int .i64 0])
/-- customhouse/tariff.identifier -/
def e17 : Entry := ([.str [97, 49]], .bool true)
/-- customhouse/tariff.Valid -/
def e18 : Entry := ([.agg [.slice [.agg [.str [109, 105, 108, 105, 116, 97, 114, 121], .int .i64 1, .int .i64 0, .int .i64 1]] 4 .exact, .slice [.agg [.int .i64 1, .str [], .int .i64 0, .int .i64 0, .slice [] 0 .exact, .str [97, 49], .bool true]] 7 .exact]], .bool true)
/-- customhouse/lexer.Lex -/
def e19 : Entry := ([.str [103]], .tuple [.slice [.agg [.int .i64 1, .int .i64 0, .int .i64 0, .str [103]]] 4 .none, .int .i64 0, .int .i64 0])
/-- customhouse/parts.identifier -/
def e20 : Entry := ([.str [103]], .bool true)
/-- customhouse/parts.Order -/
def e21 : Entry := ([.slice [.agg [.str [103], .slice [.int .i64 0] 1 .exact, .str [69, 85, 82], .int .i64 9, .slice [] 0 .exact]] 5 .exact], .tuple [.slice [.str [103]] 1 .none, .int .i64 0])
/-- customhouse/formula.Holds -/
def e22 : Entry := ([.agg [.int .i64 1, .str [], .int .i64 0, .int .i64 0, .slice [] 0 .exact], .agg [.slice [.agg [.str [109, 105, 108, 105, 116, 97, 114, 121], .int .i64 1, .int .i64 0, .int .i64 1]] 4 .exact], .slice [.int .i64 0] 1 .exact], .bool true)
/-- customhouse/parts.Check -/
def e23 : Entry := ([.agg [.slice [.agg [.str [109, 105, 108, 105, 116, 97, 114, 121], .int .i64 1, .int .i64 0, .int .i64 1]] 4 .exact, .slice [.agg [.int .i64 1, .str [], .int .i64 0, .int .i64 0, .slice [] 0 .exact, .str [97, 49], .bool true]] 7 .exact], .slice [.agg [.str [103], .slice [.int .i64 0] 1 .exact, .str [69, 85, 82], .int .i64 9, .slice [] 0 .exact]] 5 .exact], .int .i64 0)
/-- customhouse/public.Proper -/
def e24 : Entry := ([.agg [.slice [.agg [.int .i64 1, .str [97], .str [97], .int .i64 0]] 4 .exact, .slice [] 0 .exact, .slice [] 0 .exact, .int .i64 0, .int .i64 0, .int .i64 0, .int .i64 0, .slice [.agg [.str [101, 117], .slice [.agg [.int .i64 0, .int .i64 0]] 2 .exact, .str [101, 49, 49, 57, 50, 53, 54, 56, 102, 49, 48, 100, 57, 98, 50, 99], .bool false]] 4 .exact, .slice [.agg [.str [112], .slice [.agg [.int .i64 1, .slice [.str [97, 110, 110, 97]] 1 .exact]] 2 .exact], .agg [.str [113], .slice [.agg [.int .i64 1, .slice [.str [97, 110, 110, 97]] 1 .exact]] 2 .exact]] 2 .exact, .slice [.agg [.str [109, 105, 108, 105, 116, 97, 114, 121], .int .i64 1, .int .i64 0, .int .i64 1]] 4 .exact, .slice [.agg [.int .i64 1, .str [], .int .i64 0, .int .i64 0, .slice [] 0 .exact, .str [97, 49], .bool true]] 7 .exact, .slice [.agg [.str [103], .slice [.int .i64 0] 1 .exact, .str [69, 85, 82], .int .i64 9, .slice [] 0 .exact]] 5 .exact, .str [69, 85, 82], .slice [.agg [.str [85, 83, 68], .int .i64 0, .int .i64 3, .int .i64 2]] 4 .exact, .int .i64 50, .int .i64 0, .int .i64 0]], .int .i64 0)
/-- customhouse/clock.Text -/
def e25 : Entry := ([.int .i64 0], .tuple [.str [48, 47, 48, 48, 58, 48, 48], .int .i64 0])
/-- customhouse/lexer.Lex -/
def e26 : Entry := ([.str [116]], .tuple [.slice [.agg [.int .i64 1, .int .i64 0, .int .i64 0, .str [116]]] 4 .none, .int .i64 0, .int .i64 0])
/-- customhouse/lexer.Lex -/
def e27 : Entry := ([.str [85, 83, 68]], .tuple [.slice [.agg [.int .i64 1, .int .i64 0, .int .i64 0, .str [85, 83, 68]]] 4 .none, .int .i64 0, .int .i64 0])
/-- customhouse/trade.formed -/
def e28 : Entry := ([.agg [.str [116], .slice [.agg [.str [112], .int .i64 0], .agg [.str [113], .int .i64 1]] 2 .exact, .slice [.int .i64 0] 1 .exact, .str [103], .int .i64 1, .str [85, 83, 68], .int .i64 5, .int .i64 1, .int .i64 2, .int .i64 0]], .bool true)
/-- customhouse/trade.Check -/
def e29 : Entry := ([.agg [.slice [.agg [.int .i64 1, .str [97], .str [97], .int .i64 0]] 4 .exact, .slice [] 0 .exact, .slice [] 0 .exact, .int .i64 0, .int .i64 0, .int .i64 0, .int .i64 0, .slice [.agg [.str [101, 117], .slice [.agg [.int .i64 0, .int .i64 0]] 2 .exact, .str [101, 49, 49, 57, 50, 53, 54, 56, 102, 49, 48, 100, 57, 98, 50, 99], .bool false]] 4 .exact, .slice [.agg [.str [112], .slice [.agg [.int .i64 1, .slice [.str [97, 110, 110, 97]] 1 .exact]] 2 .exact], .agg [.str [113], .slice [.agg [.int .i64 1, .slice [.str [97, 110, 110, 97]] 1 .exact]] 2 .exact]] 2 .exact, .slice [.agg [.str [109, 105, 108, 105, 116, 97, 114, 121], .int .i64 1, .int .i64 0, .int .i64 1]] 4 .exact, .slice [.agg [.int .i64 1, .str [], .int .i64 0, .int .i64 0, .slice [] 0 .exact, .str [97, 49], .bool true]] 7 .exact, .slice [.agg [.str [103], .slice [.int .i64 0] 1 .exact, .str [69, 85, 82], .int .i64 9, .slice [] 0 .exact]] 5 .exact, .str [69, 85, 82], .slice [.agg [.str [85, 83, 68], .int .i64 0, .int .i64 3, .int .i64 2]] 4 .exact, .int .i64 50, .int .i64 0, .int .i64 0], .agg [.str [116], .slice [.agg [.str [112], .int .i64 0], .agg [.str [113], .int .i64 1]] 2 .exact, .slice [.int .i64 0] 1 .exact, .str [103], .int .i64 1, .str [85, 83, 68], .int .i64 5, .int .i64 1, .int .i64 2, .int .i64 0]], .int .i64 0)
/-- customhouse/money.Find -/
def e30 : Entry := ([.slice [.agg [.str [85, 83, 68], .int .i64 0, .int .i64 3, .int .i64 2]] 4 .exact, .str [69, 85, 82], .str [85, 83, 68], .int .i64 0], .tuple [.agg [.str [85, 83, 68], .int .i64 0, .int .i64 3, .int .i64 2], .int .i64 0])
/-- customhouse/money.Find -/
def e31 : Entry := ([.slice [.agg [.str [85, 83, 68], .int .i64 0, .int .i64 3, .int .i64 2]] 4 .exact, .str [69, 85, 82], .str [69, 85, 82], .int .i64 0], .tuple [.agg [.str [69, 85, 82], .int .i64 0, .int .i64 1, .int .i64 1], .int .i64 0])
/-- customhouse/ratio.Of$1 -/
def e32 : Entry := ([.int .i64 5], .str [53])
/-- customhouse/ratio.Of$1 -/
def e33 : Entry := ([.int .i64 1], .str [49])
/-- strings.makeASCIISet -/
def e34 : Entry := ([.str [48, 49, 50, 51, 52, 53, 54, 55, 56, 57]], .tuple [.agg [.bool false, .bool false, .bool false, .bool false, .bool false, .bool false, .bool false, .bool false, .bool false, .bool false, .bool false, .bool false, .bool false, .bool false, .bool false, .bool false, .bool false, .bool false, .bool false, .bool false, .bool false, .bool false, .bool false, .bool false, .bool false, .bool false, .bool false, .bool false, .bool false, .bool false, .bool false, .bool false, .bool false, .bool false, .bool false, .bool false, .bool false, .bool false, .bool false, .bool false, .bool false, .bool false, .bool false, .bool false, .bool false, .bool false, .bool false, .bool false, .bool true, .bool true, .bool true, .bool true, .bool true, .bool true, .bool true, .bool true, .bool true, .bool true, .bool false, .bool false, .bool false, .bool false, .bool false, .bool false, .bool false, .bool false, .bool false, .bool false, .bool false, .bool false, .bool false, .bool false, .bool false, .bool false, .bool false, .bool false, .bool false, .bool false, .bool false, .bool false, .bool false, .bool false, .bool false, .bool false, .bool false, .bool false, .bool false, .bool false, .bool false, .bool false, .bool false, .bool false, .bool false, .bool false, .bool false, .bool false, .bool false, .bool false, .bool false, .bool false, .bool false, .bool false, .bool false, .bool false, .bool false, .bool false, .bool false, .bool false, .bool false, .bool false, .bool false, .bool false, .bool false, .bool false, .bool false, .bool false, .bool false, .bool false, .bool false, .bool false, .bool false, .bool false, .bool false, .bool false, .bool false, .bool false, .bool false, .bool false, .bool false, .bool false, .bool false, .bool false, .bool false, .bool false, .bool false, .bool false, .bool false, .bool false, .bool false, .bool false, .bool false, .bool false, .bool false, .bool false, .bool false, .bool false, .bool false, .bool false, .bool false, .bool false, .bool false, .bool false, .bool false, .bool false, .bool false, .bool false, .bool false, .bool false, .bool false, .bool false, .bool false, .bool false, .bool false, .bool false, .bool false, .bool false, .bool false, .bool false, .bool false, .bool false, .bool false, .bool false, .bool false, .bool false, .bool false, .bool false, .bool false, .bool false, .bool false, .bool false, .bool false, .bool false, .bool false, .bool false, .bool false, .bool false, .bool false, .bool false, .bool false, .bool false, .bool false, .bool false, .bool false, .bool false, .bool false, .bool false, .bool false, .bool false, .bool false, .bool false, .bool false, .bool false, .bool false, .bool false, .bool false, .bool false, .bool false, .bool false, .bool false, .bool false, .bool false, .bool false, .bool false, .bool false, .bool false, .bool false, .bool false, .bool false, .bool false, .bool false, .bool false, .bool false, .bool false, .bool false, .bool false, .bool false, .bool false, .bool false, .bool false, .bool false, .bool false, .bool false, .bool false, .bool false, .bool false, .bool false, .bool false, .bool false, .bool false, .bool false, .bool false, .bool false, .bool false, .bool false, .bool false, .bool false, .bool false, .bool false, .bool false, .bool false, .bool false, .bool false, .bool false, .bool false, .bool false, .bool false], .bool true])
/-- strings.Trim -/
def e35 : Entry := ([.str [53], .str [48, 49, 50, 51, 52, 53, 54, 55, 56, 57]], .str [])
/-- customhouse/natural.Is -/
def e36 : Entry := ([.str [53]], .bool true)
/-- strings.Trim -/
def e37 : Entry := ([.str [49], .str [48, 49, 50, 51, 52, 53, 54, 55, 56, 57]], .str [])
/-- customhouse/natural.Is -/
def e38 : Entry := ([.str [49]], .bool true)
/-- strconv.ParseUint -/
def e39 : Entry := ([.str [53], .int .i64 10, .int .i64 64], .tuple [.int .u64 5, .niliface])
/-- strconv.ParseUint -/
def e40 : Entry := ([.str [49], .int .i64 10, .int .i64 64], .tuple [.int .u64 1, .niliface])
/-- (customhouse/natural.number).div -/
def e41 : Entry := ([.slice [.int .u64 5] 1 .none, .slice [.int .u64 1] 1 .none], .tuple [.slice [.int .u64 5] 1 .none, .slice [] 1 .none])
/-- customhouse/natural.Gcd -/
def e42 : Entry := ([.str [53], .str [49]], .tuple [.str [49], .int .i64 0])
/-- customhouse/natural.Div -/
def e43 : Entry := ([.str [53], .str [49]], .tuple [.str [53], .str [48], .int .i64 0])
/-- (customhouse/natural.number).div -/
def e44 : Entry := ([.slice [.int .u64 1] 1 .none, .slice [.int .u64 1] 1 .none], .tuple [.slice [.int .u64 1] 1 .none, .slice [] 1 .none])
/-- customhouse/natural.Div -/
def e45 : Entry := ([.str [49], .str [49]], .tuple [.str [49], .str [48], .int .i64 0])
/-- customhouse/ratio.Of$1 -/
def e46 : Entry := ([.int .i64 3], .str [51])
/-- customhouse/ratio.Of$1 -/
def e47 : Entry := ([.int .i64 2], .str [50])
/-- strings.Trim -/
def e48 : Entry := ([.str [51], .str [48, 49, 50, 51, 52, 53, 54, 55, 56, 57]], .str [])
/-- customhouse/natural.Is -/
def e49 : Entry := ([.str [51]], .bool true)
/-- strings.Trim -/
def e50 : Entry := ([.str [50], .str [48, 49, 50, 51, 52, 53, 54, 55, 56, 57]], .str [])
/-- customhouse/natural.Is -/
def e51 : Entry := ([.str [50]], .bool true)
/-- strconv.ParseUint -/
def e52 : Entry := ([.str [51], .int .i64 10, .int .i64 64], .tuple [.int .u64 3, .niliface])
/-- strconv.ParseUint -/
def e53 : Entry := ([.str [50], .int .i64 10, .int .i64 64], .tuple [.int .u64 2, .niliface])
/-- (customhouse/natural.number).div -/
def e54 : Entry := ([.slice [.int .u64 3] 1 .none, .slice [.int .u64 2] 1 .none], .tuple [.slice [.int .u64 1] 1 .none, .slice [.int .u64 1] 1 .none])
/-- (customhouse/natural.number).div -/
def e55 : Entry := ([.slice [.int .u64 2] 1 .none, .slice [.int .u64 1] 1 .none], .tuple [.slice [.int .u64 2] 1 .none, .slice [] 1 .none])
/-- customhouse/natural.Gcd -/
def e56 : Entry := ([.str [51], .str [50]], .tuple [.str [49], .int .i64 0])
/-- (customhouse/natural.number).div -/
def e57 : Entry := ([.slice [.int .u64 3] 1 .none, .slice [.int .u64 1] 1 .none], .tuple [.slice [.int .u64 3] 1 .none, .slice [] 1 .none])
/-- customhouse/natural.Div -/
def e58 : Entry := ([.str [51], .str [49]], .tuple [.str [51], .str [48], .int .i64 0])
/-- customhouse/natural.Div -/
def e59 : Entry := ([.str [50], .str [49]], .tuple [.str [50], .str [48], .int .i64 0])
/-- customhouse/natural.Mul -/
def e60 : Entry := ([.str [53], .str [51]], .tuple [.str [49, 53], .int .i64 0])
/-- customhouse/natural.Mul -/
def e61 : Entry := ([.str [49], .str [50]], .tuple [.str [50], .int .i64 0])
/-- strings.Trim -/
def e62 : Entry := ([.str [49, 53], .str [48, 49, 50, 51, 52, 53, 54, 55, 56, 57]], .str [])
/-- customhouse/natural.Is -/
def e63 : Entry := ([.str [49, 53]], .bool true)
/-- strconv.ParseUint -/
def e64 : Entry := ([.str [49, 53], .int .i64 10, .int .i64 64], .tuple [.int .u64 15, .niliface])
/-- (customhouse/natural.number).div -/
def e65 : Entry := ([.slice [.int .u64 15] 1 .none, .slice [.int .u64 2] 1 .none], .tuple [.slice [.int .u64 7] 1 .none, .slice [.int .u64 1] 1 .none])
/-- customhouse/natural.Gcd -/
def e66 : Entry := ([.str [49, 53], .str [50]], .tuple [.str [49], .int .i64 0])
/-- (customhouse/natural.number).div -/
def e67 : Entry := ([.slice [.int .u64 15] 1 .none, .slice [.int .u64 1] 1 .none], .tuple [.slice [.int .u64 15] 1 .none, .slice [] 1 .none])
/-- customhouse/natural.Div -/
def e68 : Entry := ([.str [49, 53], .str [49]], .tuple [.str [49, 53], .str [48], .int .i64 0])
/-- customhouse/ratio.Mul -/
def e69 : Entry := ([.agg [.bool false, .str [53], .str [49]], .agg [.bool false, .str [51], .str [50]]], .tuple [.agg [.bool false, .str [49, 53], .str [50]], .int .i64 0])
/-- customhouse/natural.Gcd -/
def e70 : Entry := ([.str [49], .str [49]], .tuple [.str [49], .int .i64 0])
/-- customhouse/natural.Mul -/
def e71 : Entry := ([.str [49, 53], .str [49]], .tuple [.str [49, 53], .int .i64 0])
/-- customhouse/natural.Mul -/
def e72 : Entry := ([.str [50], .str [49]], .tuple [.str [50], .int .i64 0])
/-- customhouse/ratio.Mul -/
def e73 : Entry := ([.agg [.bool false, .str [49, 53], .str [50]], .agg [.bool false, .str [49], .str [49]]], .tuple [.agg [.bool false, .str [49, 53], .str [50]], .int .i64 0])
/-- customhouse/money.Convert -/
def e74 : Entry := ([.slice [.agg [.str [85, 83, 68], .int .i64 0, .int .i64 3, .int .i64 2]] 4 .exact, .str [69, 85, 82], .agg [.str [85, 83, 68], .int .i64 5], .str [69, 85, 82], .int .i64 0], .tuple [.agg [.bool false, .str [49, 53], .str [50]], .int .i64 0])
/-- customhouse/natural.Div -/
def e75 : Entry := ([.str [49, 53], .str [50]], .tuple [.str [55], .str [49], .int .i64 0])
/-- customhouse/ratio.Floor -/
def e76 : Entry := ([.agg [.bool false, .str [49, 53], .str [50]]], .tuple [.int .i64 7, .int .i64 0])
/-- customhouse/ratio.Of$1 -/
def e77 : Entry := ([.int .i64 9], .str [57])
/-- strings.Trim -/
def e78 : Entry := ([.str [57], .str [48, 49, 50, 51, 52, 53, 54, 55, 56, 57]], .str [])
/-- customhouse/natural.Is -/
def e79 : Entry := ([.str [57]], .bool true)
/-- strconv.ParseUint -/
def e80 : Entry := ([.str [57], .int .i64 10, .int .i64 64], .tuple [.int .u64 9, .niliface])
/-- (customhouse/natural.number).div -/
def e81 : Entry := ([.slice [.int .u64 9] 1 .none, .slice [.int .u64 1] 1 .none], .tuple [.slice [.int .u64 9] 1 .none, .slice [] 1 .none])
/-- customhouse/natural.Gcd -/
def e82 : Entry := ([.str [57], .str [49]], .tuple [.str [49], .int .i64 0])
/-- customhouse/natural.Div -/
def e83 : Entry := ([.str [57], .str [49]], .tuple [.str [57], .str [48], .int .i64 0])
/-- customhouse/natural.Mul -/
def e84 : Entry := ([.str [57], .str [49]], .tuple [.str [57], .int .i64 0])
/-- customhouse/natural.Mul -/
def e85 : Entry := ([.str [49], .str [49]], .tuple [.str [49], .int .i64 0])
/-- customhouse/ratio.Mul -/
def e86 : Entry := ([.agg [.bool false, .str [57], .str [49]], .agg [.bool false, .str [49], .str [49]]], .tuple [.agg [.bool false, .str [57], .str [49]], .int .i64 0])
/-- customhouse/money.Convert -/
def e87 : Entry := ([.slice [.agg [.str [85, 83, 68], .int .i64 0, .int .i64 3, .int .i64 2]] 4 .exact, .str [69, 85, 82], .agg [.str [69, 85, 82], .int .i64 9], .str [69, 85, 82], .int .i64 0], .tuple [.agg [.bool false, .str [57], .str [49]], .int .i64 0])
/-- customhouse/parts.Controlled -/
def e88 : Entry := ([.agg [.slice [.agg [.str [109, 105, 108, 105, 116, 97, 114, 121], .int .i64 1, .int .i64 0, .int .i64 1]] 4 .exact, .slice [.agg [.int .i64 1, .str [], .int .i64 0, .int .i64 0, .slice [] 0 .exact, .str [97, 49], .bool true]] 7 .exact], .slice [.agg [.str [103], .slice [.int .i64 0] 1 .exact, .str [69, 85, 82], .int .i64 9, .slice [] 0 .exact]] 5 .exact, .slice [.agg [.str [85, 83, 68], .int .i64 0, .int .i64 3, .int .i64 2]] 4 .exact, .str [69, 85, 82], .str [103], .int .i64 0], .tuple [.agg [.bool false, .str [57], .str [49]], .int .i64 0])
/-- customhouse/parts.Value -/
def e89 : Entry := ([.agg [.slice [.agg [.str [109, 105, 108, 105, 116, 97, 114, 121], .int .i64 1, .int .i64 0, .int .i64 1]] 4 .exact, .slice [.agg [.int .i64 1, .str [], .int .i64 0, .int .i64 0, .slice [] 0 .exact, .str [97, 49], .bool true]] 7 .exact], .slice [.agg [.str [103], .slice [.int .i64 0] 1 .exact, .str [69, 85, 82], .int .i64 9, .slice [] 0 .exact]] 5 .exact, .slice [.agg [.str [85, 83, 68], .int .i64 0, .int .i64 3, .int .i64 2]] 4 .exact, .str [69, 85, 82], .str [103], .int .i64 0], .tuple [.agg [.bool false, .str [57], .str [49]], .int .i64 0])
/-- customhouse/ratio.Of$1 -/
def e90 : Entry := ([.int .i64 100], .str [49, 48, 48])
/-- strings.Trim -/
def e91 : Entry := ([.str [49, 48, 48], .str [48, 49, 50, 51, 52, 53, 54, 55, 56, 57]], .str [])
/-- customhouse/natural.Is -/
def e92 : Entry := ([.str [49, 48, 48]], .bool true)
/-- strconv.ParseUint -/
def e93 : Entry := ([.str [49, 48, 48], .int .i64 10, .int .i64 64], .tuple [.int .u64 100, .niliface])
/-- (customhouse/natural.number).div -/
def e94 : Entry := ([.slice [.int .u64 100] 1 .none, .slice [.int .u64 1] 1 .none], .tuple [.slice [.int .u64 100] 1 .none, .slice [] 1 .none])
/-- customhouse/natural.Gcd -/
def e95 : Entry := ([.str [49, 48, 48], .str [49]], .tuple [.str [49], .int .i64 0])
/-- customhouse/natural.Div -/
def e96 : Entry := ([.str [49, 48, 48], .str [49]], .tuple [.str [49, 48, 48], .str [48], .int .i64 0])
/-- customhouse/natural.Mul -/
def e97 : Entry := ([.str [49, 48, 48], .str [57]], .tuple [.str [57, 48, 48], .int .i64 0])
/-- strings.Trim -/
def e98 : Entry := ([.str [57, 48, 48], .str [48, 49, 50, 51, 52, 53, 54, 55, 56, 57]], .str [])
/-- customhouse/natural.Is -/
def e99 : Entry := ([.str [57, 48, 48]], .bool true)
/-- strconv.ParseUint -/
def e100 : Entry := ([.str [57, 48, 48], .int .i64 10, .int .i64 64], .tuple [.int .u64 900, .niliface])
/-- (customhouse/natural.number).div -/
def e101 : Entry := ([.slice [.int .u64 900] 1 .none, .slice [.int .u64 1] 1 .none], .tuple [.slice [.int .u64 900] 1 .none, .slice [] 1 .none])
/-- customhouse/natural.Gcd -/
def e102 : Entry := ([.str [57, 48, 48], .str [49]], .tuple [.str [49], .int .i64 0])
/-- customhouse/natural.Div -/
def e103 : Entry := ([.str [57, 48, 48], .str [49]], .tuple [.str [57, 48, 48], .str [48], .int .i64 0])
/-- customhouse/ratio.Mul -/
def e104 : Entry := ([.agg [.bool false, .str [49, 48, 48], .str [49]], .agg [.bool false, .str [57], .str [49]]], .tuple [.agg [.bool false, .str [57, 48, 48], .str [49]], .int .i64 0])
/-- customhouse/natural.Mul -/
def e105 : Entry := ([.str [57, 48, 48], .str [49]], .tuple [.str [57, 48, 48], .int .i64 0])
/-- customhouse/natural.Mul -/
def e106 : Entry := ([.str [49], .str [57]], .tuple [.str [57], .int .i64 0])
/-- (customhouse/natural.number).div -/
def e107 : Entry := ([.slice [.int .u64 900] 1 .none, .slice [.int .u64 9] 1 .none], .tuple [.slice [.int .u64 100] 1 .none, .slice [] 1 .none])
/-- customhouse/natural.Gcd -/
def e108 : Entry := ([.str [57, 48, 48], .str [57]], .tuple [.str [57], .int .i64 0])
/-- customhouse/natural.Div -/
def e109 : Entry := ([.str [57, 48, 48], .str [57]], .tuple [.str [49, 48, 48], .str [48], .int .i64 0])
/-- (customhouse/natural.number).div -/
def e110 : Entry := ([.slice [.int .u64 9] 1 .none, .slice [.int .u64 9] 1 .none], .tuple [.slice [.int .u64 1] 1 .none, .slice [] 1 .none])
/-- customhouse/natural.Div -/
def e111 : Entry := ([.str [57], .str [57]], .tuple [.str [49], .str [48], .int .i64 0])
/-- customhouse/ratio.Div -/
def e112 : Entry := ([.agg [.bool false, .str [57, 48, 48], .str [49]], .agg [.bool false, .str [57], .str [49]]], .tuple [.agg [.bool false, .str [49, 48, 48], .str [49]], .int .i64 0])
/-- customhouse/ratio.Floor -/
def e113 : Entry := ([.agg [.bool false, .str [49, 48, 48], .str [49]]], .tuple [.int .i64 100, .int .i64 0])
/-- customhouse/trade.Facts -/
def e114 : Entry := ([.agg [.slice [.agg [.int .i64 1, .str [97], .str [97], .int .i64 0]] 4 .exact, .slice [] 0 .exact, .slice [] 0 .exact, .int .i64 0, .int .i64 0, .int .i64 0, .int .i64 0, .slice [.agg [.str [101, 117], .slice [.agg [.int .i64 0, .int .i64 0]] 2 .exact, .str [101, 49, 49, 57, 50, 53, 54, 56, 102, 49, 48, 100, 57, 98, 50, 99], .bool false]] 4 .exact, .slice [.agg [.str [112], .slice [.agg [.int .i64 1, .slice [.str [97, 110, 110, 97]] 1 .exact]] 2 .exact], .agg [.str [113], .slice [.agg [.int .i64 1, .slice [.str [97, 110, 110, 97]] 1 .exact]] 2 .exact]] 2 .exact, .slice [.agg [.str [109, 105, 108, 105, 116, 97, 114, 121], .int .i64 1, .int .i64 0, .int .i64 1]] 4 .exact, .slice [.agg [.int .i64 1, .str [], .int .i64 0, .int .i64 0, .slice [] 0 .exact, .str [97, 49], .bool true]] 7 .exact, .slice [.agg [.str [103], .slice [.int .i64 0] 1 .exact, .str [69, 85, 82], .int .i64 9, .slice [] 0 .exact]] 5 .exact, .str [69, 85, 82], .slice [.agg [.str [85, 83, 68], .int .i64 0, .int .i64 3, .int .i64 2]] 4 .exact, .int .i64 50, .int .i64 0, .int .i64 0], .agg [.str [116], .slice [.agg [.str [112], .int .i64 0], .agg [.str [113], .int .i64 1]] 2 .exact, .slice [.int .i64 0] 1 .exact, .str [103], .int .i64 1, .str [85, 83, 68], .int .i64 5, .int .i64 1, .int .i64 2, .int .i64 0], .int .i64 4, .int .i64 0, .bool true, .bool false, .bool true], .tuple [.slice [.int .i64 4, .int .i64 7, .int .i64 1, .int .i64 0, .int .i64 1, .int .i64 1, .int .i64 100, .int .i64 1, .int .i64 2] 1 .exact, .int .i64 0])
/-- customhouse/trade.Text -/
def e115 : Entry := ([.agg [.str [116], .slice [.agg [.str [112], .int .i64 0], .agg [.str [113], .int .i64 1]] 2 .exact, .slice [.int .i64 0] 1 .exact, .str [103], .int .i64 1, .str [85, 83, 68], .int .i64 5, .int .i64 1, .int .i64 2, .int .i64 0]], .tuple [.str [116, 114, 97, 100, 101, 32, 116, 32, 112, 114, 111, 100, 117, 99, 116, 32, 103, 32, 99, 111, 117, 110, 116, 32, 49, 32, 112, 114, 105, 99, 101, 32, 85, 83, 68, 32, 53, 32, 102, 114, 111, 109, 32, 49, 32, 116, 111, 32, 50, 32, 115, 105, 103, 110, 101, 100, 32, 48, 32, 110, 101, 120, 117, 115, 32, 48, 32, 114, 111, 108, 101, 115, 32, 112, 32, 48, 32, 113, 32, 49, 59], .int .i64 0])
/-- customhouse/trade.Next -/
def e116 : Entry := ([.slice [] 0 .exact], .slice [.int .i64 1] 1 .none)
/-- customhouse/trade.Next -/
def e117 : Entry := ([.slice [.int .i64 1] 1 .exact], .slice [.int .i64 2, .int .i64 3, .int .i64 4] 1 .none)
/-- customhouse/trade.Next -/
def e118 : Entry := ([.slice [.int .i64 1, .int .i64 4] 1 .exact], .slice [.int .i64 5, .int .i64 6] 1 .none)
/-- customhouse/trade.Next -/
def e119 : Entry := ([.slice [.int .i64 1, .int .i64 4, .int .i64 6, .int .i64 7] 1 .exact], .slice [] 0 .exact)
/-- customhouse/trade.Next -/
def e120 : Entry := ([.slice [.int .i64 2] 1 .exact], .slice [] 0 .exact)
/-- customhouse/trade.Next -/
def e121 : Entry := ([.slice [.int .i64 1, .int .i64 6] 1 .exact], .slice [] 0 .exact)
/-- customhouse/trade.Next -/
def e122 : Entry := ([.slice [.int .i64 1, .int .i64 1] 1 .exact], .slice [] 0 .exact)
/-- customhouse/customhouselaw45.head -/
def e123 : Entry := ([], .bool true)
def T0 : Tabs := []
def T1 : Tabs := [(7, [e116, e117, e118, e119, e120, e121, e122]), (39, [e25]), (75, [e14]), (91, [e32, e33, e46, e47, e77, e90]), (99, [e41, e44, e54, e55, e57, e65, e67, e81, e94, e101, e107, e110]), (145, [e0]), (152, [e39, e40, e52, e53, e64, e80, e93, e100]), (171, [e15]), (175, [e4]), (182, [e2, e11, e34]), (187, [e7, e10])]
def T2 : Tabs := [(7, [e116, e117, e118, e119, e120, e121, e122]), (18, [e1]), (39, [e25]), (41, [e30, e31]), (55, [e22]), (75, [e14]), (91, [e32, e33, e46, e47, e77, e90]), (99, [e41, e44, e54, e55, e57, e65, e67, e81, e94, e101, e107, e110]), (121, [e5, e8, e16, e19, e26, e27]), (125, [e3, e12, e35, e37, e48, e50, e62, e78, e91, e98]), (145, [e0]), (152, [e39, e40, e52, e53, e64, e80, e93, e100]), (171, [e15]), (175, [e4]), (182, [e2, e11, e34]), (187, [e7, e10])]
def T3 : Tabs := [(7, [e116, e117, e118, e119, e120, e121, e122]), (18, [e1]), (25, [e28]), (39, [e25]), (41, [e30, e31]), (55, [e22]), (74, [e13]), (75, [e14]), (91, [e32, e33, e46, e47, e77, e90]), (96, [e36, e38, e49, e51, e63, e79, e92, e99]), (99, [e41, e44, e54, e55, e57, e65, e67, e81, e94, e101, e107, e110]), (111, [e17]), (121, [e5, e8, e16, e19, e26, e27]), (125, [e3, e12, e35, e37, e48, e50, e62, e78, e91, e98]), (130, [e6, e9]), (145, [e0]), (152, [e39, e40, e52, e53, e64, e80, e93, e100]), (171, [e15]), (175, [e4]), (182, [e2, e11, e34]), (187, [e7, e10]), (192, [e20])]
def T4 : Tabs := [(7, [e116, e117, e118, e119, e120, e121, e122]), (12, [e115]), (18, [e1]), (25, [e28]), (39, [e25]), (41, [e30, e31]), (45, [e43, e45, e58, e59, e68, e75, e83, e96, e103, e109, e111]), (51, [e18]), (55, [e22]), (74, [e13]), (75, [e14]), (91, [e32, e33, e46, e47, e77, e90]), (96, [e36, e38, e49, e51, e63, e79, e92, e99]), (97, [e42, e56, e66, e70, e82, e95, e102, e108]), (99, [e41, e44, e54, e55, e57, e65, e67, e81, e94, e101, e107, e110]), (111, [e17]), (121, [e5, e8, e16, e19, e26, e27]), (125, [e3, e12, e35, e37, e48, e50, e62, e78, e91, e98]), (130, [e6, e9]), (141, [e21]), (145, [e0]), (152, [e39, e40, e52, e53, e64, e80, e93, e100]), (171, [e15]), (175, [e4]), (182, [e2, e11, e34]), (187, [e7, e10]), (192, [e20]), (204, [e60, e61, e71, e72, e84, e85, e97, e105, e106])]
def T5 : Tabs := [(7, [e116, e117, e118, e119, e120, e121, e122]), (12, [e115]), (18, [e1]), (21, [e76, e113]), (25, [e28]), (39, [e25]), (41, [e30, e31]), (43, [e69, e73, e86, e104]), (45, [e43, e45, e58, e59, e68, e75, e83, e96, e103, e109, e111]), (50, [e112]), (51, [e18]), (55, [e22]), (74, [e13]), (75, [e14]), (76, [e23]), (91, [e32, e33, e46, e47, e77, e90]), (96, [e36, e38, e49, e51, e63, e79, e92, e99]), (97, [e42, e56, e66, e70, e82, e95, e102, e108]), (99, [e41, e44, e54, e55, e57, e65, e67, e81, e94, e101, e107, e110]), (111, [e17]), (121, [e5, e8, e16, e19, e26, e27]), (125, [e3, e12, e35, e37, e48, e50, e62, e78, e91, e98]), (130, [e6, e9]), (141, [e21]), (145, [e0]), (152, [e39, e40, e52, e53, e64, e80, e93, e100]), (171, [e15]), (175, [e4]), (182, [e2, e11, e34]), (187, [e7, e10]), (192, [e20]), (204, [e60, e61, e71, e72, e84, e85, e97, e105, e106])]
def T6 : Tabs := [(7, [e116, e117, e118, e119, e120, e121, e122]), (12, [e115]), (18, [e1]), (20, [e74, e87]), (21, [e76, e113]), (25, [e28]), (28, [e24]), (39, [e25]), (41, [e30, e31]), (43, [e69, e73, e86, e104]), (45, [e43, e45, e58, e59, e68, e75, e83, e96, e103, e109, e111]), (50, [e112]), (51, [e18]), (55, [e22]), (74, [e13]), (75, [e14]), (76, [e23]), (91, [e32, e33, e46, e47, e77, e90]), (96, [e36, e38, e49, e51, e63, e79, e92, e99]), (97, [e42, e56, e66, e70, e82, e95, e102, e108]), (99, [e41, e44, e54, e55, e57, e65, e67, e81, e94, e101, e107, e110]), (111, [e17]), (121, [e5, e8, e16, e19, e26, e27]), (125, [e3, e12, e35, e37, e48, e50, e62, e78, e91, e98]), (130, [e6, e9]), (141, [e21]), (145, [e0]), (152, [e39, e40, e52, e53, e64, e80, e93, e100]), (171, [e15]), (175, [e4]), (182, [e2, e11, e34]), (187, [e7, e10]), (192, [e20]), (204, [e60, e61, e71, e72, e84, e85, e97, e105, e106])]
def T7 : Tabs := [(7, [e116, e117, e118, e119, e120, e121, e122]), (12, [e115]), (14, [e29]), (18, [e1]), (20, [e74, e87]), (21, [e76, e113]), (25, [e28]), (28, [e24]), (39, [e25]), (41, [e30, e31]), (43, [e69, e73, e86, e104]), (45, [e43, e45, e58, e59, e68, e75, e83, e96, e103, e109, e111]), (48, [e88]), (49, [e89]), (50, [e112]), (51, [e18]), (55, [e22]), (74, [e13]), (75, [e14]), (76, [e23]), (91, [e32, e33, e46, e47, e77, e90]), (96, [e36, e38, e49, e51, e63, e79, e92, e99]), (97, [e42, e56, e66, e70, e82, e95, e102, e108]), (99, [e41, e44, e54, e55, e57, e65, e67, e81, e94, e101, e107, e110]), (111, [e17]), (121, [e5, e8, e16, e19, e26, e27]), (125, [e3, e12, e35, e37, e48, e50, e62, e78, e91, e98]), (130, [e6, e9]), (141, [e21]), (145, [e0]), (152, [e39, e40, e52, e53, e64, e80, e93, e100]), (171, [e15]), (175, [e4]), (182, [e2, e11, e34]), (187, [e7, e10]), (192, [e20]), (204, [e60, e61, e71, e72, e84, e85, e97, e105, e106])]
def T8 : Tabs := [(7, [e116, e117, e118, e119, e120, e121, e122]), (11, [e114]), (12, [e115]), (14, [e29]), (18, [e1]), (20, [e74, e87]), (21, [e76, e113]), (25, [e28]), (28, [e24]), (39, [e25]), (41, [e30, e31]), (43, [e69, e73, e86, e104]), (45, [e43, e45, e58, e59, e68, e75, e83, e96, e103, e109, e111]), (48, [e88]), (49, [e89]), (50, [e112]), (51, [e18]), (55, [e22]), (74, [e13]), (75, [e14]), (76, [e23]), (91, [e32, e33, e46, e47, e77, e90]), (96, [e36, e38, e49, e51, e63, e79, e92, e99]), (97, [e42, e56, e66, e70, e82, e95, e102, e108]), (99, [e41, e44, e54, e55, e57, e65, e67, e81, e94, e101, e107, e110]), (111, [e17]), (121, [e5, e8, e16, e19, e26, e27]), (125, [e3, e12, e35, e37, e48, e50, e62, e78, e91, e98]), (130, [e6, e9]), (141, [e21]), (145, [e0]), (152, [e39, e40, e52, e53, e64, e80, e93, e100]), (171, [e15]), (175, [e4]), (182, [e2, e11, e34]), (187, [e7, e10]), (192, [e20]), (204, [e60, e61, e71, e72, e84, e85, e97, e105, e106])]
def T9 : Tabs := [(4, [e123]), (7, [e116, e117, e118, e119, e120, e121, e122]), (11, [e114]), (12, [e115]), (14, [e29]), (18, [e1]), (20, [e74, e87]), (21, [e76, e113]), (25, [e28]), (28, [e24]), (39, [e25]), (41, [e30, e31]), (43, [e69, e73, e86, e104]), (45, [e43, e45, e58, e59, e68, e75, e83, e96, e103, e109, e111]), (48, [e88]), (49, [e89]), (50, [e112]), (51, [e18]), (55, [e22]), (74, [e13]), (75, [e14]), (76, [e23]), (91, [e32, e33, e46, e47, e77, e90]), (96, [e36, e38, e49, e51, e63, e79, e92, e99]), (97, [e42, e56, e66, e70, e82, e95, e102, e108]), (99, [e41, e44, e54, e55, e57, e65, e67, e81, e94, e101, e107, e110]), (111, [e17]), (121, [e5, e8, e16, e19, e26, e27]), (125, [e3, e12, e35, e37, e48, e50, e62, e78, e91, e98]), (130, [e6, e9]), (141, [e21]), (145, [e0]), (152, [e39, e40, e52, e53, e64, e80, e93, e100]), (171, [e15]), (175, [e4]), (182, [e2, e11, e34]), (187, [e7, e10]), (192, [e20]), (204, [e60, e61, e71, e72, e84, e85, e97, e105, e106])]
end AmT
