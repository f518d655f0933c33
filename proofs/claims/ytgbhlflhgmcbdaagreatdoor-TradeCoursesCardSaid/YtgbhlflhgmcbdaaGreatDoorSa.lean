/-
  A part of the proof: Env, SeatGood.
-/
import Derived.Test.YtgbhlflhgmcbdaaGreatDoorAb
import Derived.Test.YtgbhlflhgmcbdaaGreatDoorProg
set_option linter.all false
/-  -/
open Go AM
namespace AmT

noncomputable def tdE (t : Nat) : Option TD :=
  (bif Nat.blt t 183 then (bif Nat.blt t 93 then (bif Nat.blt t 48 then (bif Nat.blt t 27 then (bif Nat.blt t 17 then (bif Nat.blt t 6 then (bif Nat.blt t 3 then (bif Nat.blt t 2 then (bif Nat.beq t 1 then some (.func) else none) else (bif Nat.beq t 2 then some (.int .i64) else none)) else (bif Nat.blt t 4 then (bif Nat.beq t 3 then some (.int .i64) else none) else (bif Nat.blt t 5 then (bif Nat.beq t 4 then some (.bool) else none) else (bif Nat.beq t 5 then some (.int .u8) else none)))) else (bif Nat.blt t 12 then (bif Nat.blt t 9 then (bif Nat.beq t 6 then some (.int .u8) else none) else (bif Nat.beq t 9 then some (.str) else none)) else (bif Nat.blt t 15 then (bif Nat.beq t 12 then some (.int .u64) else none) else (bif Nat.blt t 16 then (bif Nat.beq t 15 then some (.ptr) else none) else (bif Nat.beq t 16 then some (.ptr) else none))))) else (bif Nat.blt t 22 then (bif Nat.blt t 19 then (bif Nat.blt t 18 then (bif Nat.beq t 17 then some (.ptr) else none) else (bif Nat.beq t 18 then some (.struct none 1 [(0, 1, false)] [.nilptr]) else none)) else (bif Nat.blt t 20 then (bif Nat.beq t 19 then some (.struct none 1 [(0, 1, false)] [.nilptr]) else none) else (bif Nat.blt t 21 then (bif Nat.beq t 20 then some (.iface) else none) else (bif Nat.beq t 21 then some (.int .i32) else none)))) else (bif Nat.blt t 24 then (bif Nat.blt t 23 then (bif Nat.beq t 22 then some (.slice 1 false 8 [.int .i64 0]) else none) else (bif Nat.beq t 23 then some (.func) else none)) else (bif Nat.blt t 25 then (bif Nat.beq t 24 then some (.func) else none) else (bif Nat.blt t 26 then (bif Nat.beq t 25 then some (.func) else none) else (bif Nat.beq t 26 then some (.func) else none)))))) else (bif Nat.blt t 37 then (bif Nat.blt t 32 then (bif Nat.blt t 29 then (bif Nat.blt t 28 then (bif Nat.beq t 27 then some (.func) else none) else (bif Nat.beq t 28 then some (.slice 4 true 48 [.int .i64 0, .str [], .str [], .int .i64 0]) else none)) else (bif Nat.blt t 30 then (bif Nat.beq t 29 then some (.slice 3 true 32 [.int .i64 0, .str [], .int .i64 0]) else none) else (bif Nat.blt t 31 then (bif Nat.beq t 30 then some (.struct none 6 [(0, 1, false), (1, 1, false), (2, 1, false), (3, 1, false), (4, 1, false), (5, 1, false)] [.slice [] 0 .exact, .slice [] 0 .exact, .slice [] 0 .exact, .int .i64 0, .int .i64 0, .int .i64 0]) else none) else (bif Nat.beq t 31 then some (.struct none 6 [(0, 1, false), (1, 1, false), (2, 1, false), (3, 1, false), (4, 1, false), (5, 1, false)] [.slice [] 0 .exact, .slice [] 0 .exact, .slice [] 0 .exact, .int .i64 0, .int .i64 0, .int .i64 0]) else none)))) else (bif Nat.blt t 34 then (bif Nat.blt t 33 then (bif Nat.beq t 32 then some (.slice 4 true 64 [.str [], .slice [] 0 .exact, .str [], .bool false]) else none) else (bif Nat.beq t 33 then some (.slice 2 true 40 [.str [], .slice [] 0 .exact]) else none)) else (bif Nat.blt t 35 then (bif Nat.beq t 34 then some (.slice 4 true 40 [.str [], .int .i64 0, .int .i64 0, .int .i64 0]) else none) else (bif Nat.blt t 36 then (bif Nat.beq t 35 then some (.struct none 1 [(0, 1, false)] [.slice [] 0 .exact]) else none) else (bif Nat.beq t 36 then some (.struct none 1 [(0, 1, false)] [.slice [] 0 .exact]) else none))))) else (bif Nat.blt t 42 then (bif Nat.blt t 39 then (bif Nat.blt t 38 then (bif Nat.beq t 37 then some (.slice 7 true 88 [.int .i64 0, .str [], .int .i64 0, .int .i64 0, .slice [] 0 .exact, .str [], .bool false]) else none) else (bif Nat.beq t 38 then some (.struct none 2 [(0, 1, true), (1, 1, false)] [.slice [] 0 .exact, .slice [] 0 .exact]) else none)) else (bif Nat.blt t 40 then (bif Nat.beq t 39 then some (.struct none 2 [(0, 1, true), (1, 1, false)] [.slice [] 0 .exact, .slice [] 0 .exact]) else none) else (bif Nat.blt t 41 then (bif Nat.beq t 40 then some (.slice 5 true 88 [.str [], .slice [] 0 .exact, .str [], .int .i64 0, .slice [] 0 .exact]) else none) else (bif Nat.beq t 41 then some (.slice 4 true 40 [.str [], .int .i64 0, .int .i64 0, .int .i64 0]) else none)))) else (bif Nat.blt t 45 then (bif Nat.blt t 43 then (bif Nat.beq t 42 then some (.struct none 17 [(0, 6, true), (6, 1, false), (7, 1, false), (8, 1, false), (9, 2, true), (11, 1, false), (12, 1, false), (13, 1, false), (14, 1, false), (15, 1, false), (16, 1, false)] [.slice [] 0 .exact, .slice [] 0 .exact, .slice [] 0 .exact, .int .i64 0, .int .i64 0, .int .i64 0, .int .i64 0, .slice [] 0 .exact, .slice [] 0 .exact, .slice [] 0 .exact, .slice [] 0 .exact, .slice [] 0 .exact, .str [], .slice [] 0 .exact, .int .i64 0, .int .i64 0, .int .i64 0]) else none) else (bif Nat.blt t 44 then (bif Nat.beq t 43 then some (.struct none 17 [(0, 6, true), (6, 1, false), (7, 1, false), (8, 1, false), (9, 2, true), (11, 1, false), (12, 1, false), (13, 1, false), (14, 1, false), (15, 1, false), (16, 1, false)] [.slice [] 0 .exact, .slice [] 0 .exact, .slice [] 0 .exact, .int .i64 0, .int .i64 0, .int .i64 0, .int .i64 0, .slice [] 0 .exact, .slice [] 0 .exact, .slice [] 0 .exact, .slice [] 0 .exact, .slice [] 0 .exact, .str [], .slice [] 0 .exact, .int .i64 0, .int .i64 0, .int .i64 0]) else none) else (bif Nat.beq t 44 then some (.slice 2 true 24 [.str [], .int .i64 0]) else none))) else (bif Nat.blt t 46 then (bif Nat.beq t 45 then some (.struct (some [.str, .int]) 2 [(0, 1, false), (1, 1, false)] [.str [], .int .i64 0]) else none) else (bif Nat.blt t 47 then (bif Nat.beq t 46 then some (.struct (some [.str, .int]) 2 [(0, 1, false), (1, 1, false)] [.str [], .int .i64 0]) else none) else (bif Nat.beq t 47 then some (.struct none 10 [(0, 1, false), (1, 1, false), (2, 1, false), (3, 1, false), (4, 1, false), (5, 2, true), (7, 1, false), (8, 1, false), (9, 1, false)] [.str [], .slice [] 0 .exact, .slice [] 0 .exact, .str [], .int .i64 0, .str [], .int .i64 0, .int .i64 0, .int .i64 0, .int .i64 0]) else none))))))) else (bif Nat.blt t 72 then (bif Nat.blt t 62 then (bif Nat.blt t 56 then (bif Nat.blt t 51 then (bif Nat.blt t 50 then (bif Nat.beq t 48 then some (.struct none 10 [(0, 1, false), (1, 1, false), (2, 1, false), (3, 1, false), (4, 1, false), (5, 2, true), (7, 1, false), (8, 1, false), (9, 1, false)] [.str [], .slice [] 0 .exact, .slice [] 0 .exact, .str [], .int .i64 0, .str [], .int .i64 0, .int .i64 0, .int .i64 0, .int .i64 0]) else none) else (bif Nat.beq t 50 then some (.func) else none)) else (bif Nat.blt t 53 then (bif Nat.beq t 51 then some (.int .i64) else none) else (bif Nat.blt t 54 then (bif Nat.beq t 53 then some (.func) else none) else (bif Nat.beq t 54 then some (.slice 1 false 8 [.int .i64 0]) else none)))) else (bif Nat.blt t 59 then (bif Nat.blt t 58 then (bif Nat.beq t 56 then some (.func) else none) else (bif Nat.beq t 58 then some (.func) else none)) else (bif Nat.blt t 60 then (bif Nat.beq t 59 then some (.func) else none) else (bif Nat.blt t 61 then (bif Nat.beq t 60 then some (.func) else none) else (bif Nat.beq t 61 then some (.func) else none))))) else (bif Nat.blt t 67 then (bif Nat.blt t 64 then (bif Nat.blt t 63 then (bif Nat.beq t 62 then some (.func) else none) else (bif Nat.beq t 63 then some (.slice 5 true 64 [.int .i64 0, .str [], .int .i64 0, .int .i64 0, .slice [] 0 .exact]) else none)) else (bif Nat.blt t 65 then (bif Nat.beq t 64 then some (.struct none 5 [(0, 1, false), (1, 1, false), (2, 1, false), (3, 1, false), (4, 1, false)] [.int .i64 0, .str [], .int .i64 0, .int .i64 0, .slice [] 0 .exact]) else none) else (bif Nat.blt t 66 then (bif Nat.beq t 65 then some (.struct none 5 [(0, 1, false), (1, 1, false), (2, 1, false), (3, 1, false), (4, 1, false)] [.int .i64 0, .str [], .int .i64 0, .int .i64 0, .slice [] 0 .exact]) else none) else (bif Nat.beq t 66 then some (.slice 1 false 16 [.str []]) else none)))) else (bif Nat.blt t 69 then (bif Nat.blt t 68 then (bif Nat.beq t 67 then some (.struct none 2 [(0, 1, false), (1, 1, false)] [.int .i64 0, .slice [] 0 .exact]) else none) else (bif Nat.beq t 68 then some (.struct none 2 [(0, 1, false), (1, 1, false)] [.int .i64 0, .slice [] 0 .exact]) else none)) else (bif Nat.blt t 70 then (bif Nat.beq t 69 then some (.slice 2 true 32 [.int .i64 0, .slice [] 0 .exact]) else none) else (bif Nat.blt t 71 then (bif Nat.beq t 70 then some (.struct (some [.int, .str, .str, .int]) 4 [(0, 1, false), (1, 1, false), (2, 1, false), (3, 1, false)] [.int .i64 0, .str [], .str [], .int .i64 0]) else none) else (bif Nat.beq t 71 then some (.struct (some [.int, .str, .str, .int]) 4 [(0, 1, false), (1, 1, false), (2, 1, false), (3, 1, false)] [.int .i64 0, .str [], .str [], .int .i64 0]) else none)))))) else (bif Nat.blt t 82 then (bif Nat.blt t 77 then (bif Nat.blt t 74 then (bif Nat.blt t 73 then (bif Nat.beq t 72 then some (.struct (some [.int, .int]) 2 [(0, 1, false), (1, 1, false)] [.int .i64 0, .int .i64 0]) else none) else (bif Nat.beq t 73 then some (.struct (some [.int, .int]) 2 [(0, 1, false), (1, 1, false)] [.int .i64 0, .int .i64 0]) else none)) else (bif Nat.blt t 75 then (bif Nat.beq t 74 then some (.slice 2 true 16 [.int .i64 0, .int .i64 0]) else none) else (bif Nat.blt t 76 then (bif Nat.beq t 75 then some (.struct none 1 [(0, 1, false)] [.slice [] 0 .exact]) else none) else (bif Nat.beq t 76 then some (.struct none 1 [(0, 1, false)] [.slice [] 0 .exact]) else none)))) else (bif Nat.blt t 79 then (bif Nat.blt t 78 then (bif Nat.beq t 77 then some (.func) else none) else (bif Nat.beq t 78 then some (.struct none 4 [(0, 1, false), (1, 1, true), (2, 1, false), (3, 1, false)] [.str [], .slice [] 0 .exact, .str [], .bool false]) else none)) else (bif Nat.blt t 80 then (bif Nat.beq t 79 then some (.struct none 4 [(0, 1, false), (1, 1, true), (2, 1, false), (3, 1, false)] [.str [], .slice [] 0 .exact, .str [], .bool false]) else none) else (bif Nat.blt t 81 then (bif Nat.beq t 80 then some (.struct none 2 [(0, 1, false), (1, 1, false)] [.str [], .slice [] 0 .exact]) else none) else (bif Nat.beq t 81 then some (.struct none 2 [(0, 1, false), (1, 1, false)] [.str [], .slice [] 0 .exact]) else none))))) else (bif Nat.blt t 87 then (bif Nat.blt t 84 then (bif Nat.blt t 83 then (bif Nat.beq t 82 then some (.struct (some [.str, .int, .int, .int]) 4 [(0, 1, false), (1, 1, false), (2, 1, false), (3, 1, false)] [.str [], .int .i64 0, .int .i64 0, .int .i64 0]) else none) else (bif Nat.beq t 83 then some (.struct (some [.str, .int, .int, .int]) 4 [(0, 1, false), (1, 1, false), (2, 1, false), (3, 1, false)] [.str [], .int .i64 0, .int .i64 0, .int .i64 0]) else none)) else (bif Nat.blt t 85 then (bif Nat.beq t 84 then some (.struct (some [.str, .int, .int, .int]) 4 [(0, 1, false), (1, 1, false), (2, 1, false), (3, 1, false)] [.str [], .int .i64 0, .int .i64 0, .int .i64 0]) else none) else (bif Nat.blt t 86 then (bif Nat.beq t 85 then some (.struct (some [.str, .int, .int, .int]) 4 [(0, 1, false), (1, 1, false), (2, 1, false), (3, 1, false)] [.str [], .int .i64 0, .int .i64 0, .int .i64 0]) else none) else (bif Nat.beq t 86 then some (.struct none 7 [(0, 5, true), (5, 1, false), (6, 1, false)] [.int .i64 0, .str [], .int .i64 0, .int .i64 0, .slice [] 0 .exact, .str [], .bool false]) else none)))) else (bif Nat.blt t 90 then (bif Nat.blt t 88 then (bif Nat.beq t 87 then some (.struct none 7 [(0, 5, true), (5, 1, false), (6, 1, false)] [.int .i64 0, .str [], .int .i64 0, .int .i64 0, .slice [] 0 .exact, .str [], .bool false]) else none) else (bif Nat.blt t 89 then (bif Nat.beq t 88 then some (.slice 2 true 24 [.str [], .int .i64 0]) else none) else (bif Nat.beq t 89 then some (.struct none 5 [(0, 1, false), (1, 1, false), (2, 2, true), (4, 1, false)] [.str [], .slice [] 0 .exact, .str [], .int .i64 0, .slice [] 0 .exact]) else none))) else (bif Nat.blt t 91 then (bif Nat.beq t 90 then some (.struct none 5 [(0, 1, false), (1, 1, false), (2, 2, true), (4, 1, false)] [.str [], .slice [] 0 .exact, .str [], .int .i64 0, .slice [] 0 .exact]) else none) else (bif Nat.blt t 92 then (bif Nat.beq t 91 then some (.struct (some [.str, .int]) 2 [(0, 1, false), (1, 1, false)] [.str [], .int .i64 0]) else none) else (bif Nat.beq t 92 then some (.struct (some [.str, .int]) 2 [(0, 1, false), (1, 1, false)] [.str [], .int .i64 0]) else none)))))))) else (bif Nat.blt t 138 then (bif Nat.blt t 114 then (bif Nat.blt t 104 then (bif Nat.blt t 99 then (bif Nat.blt t 96 then (bif Nat.blt t 94 then (bif Nat.beq t 93 then some (.struct (some [.bool, .str, .str]) 3 [(0, 1, false), (1, 1, false), (2, 1, false)] [.bool false, .str [], .str []]) else none) else (bif Nat.beq t 94 then some (.struct (some [.bool, .str, .str]) 3 [(0, 1, false), (1, 1, false), (2, 1, false)] [.bool false, .str [], .str []]) else none)) else (bif Nat.blt t 97 then (bif Nat.beq t 96 then some (.func) else none) else (bif Nat.blt t 98 then (bif Nat.beq t 97 then some (.func) else none) else (bif Nat.beq t 98 then some (.func) else none)))) else (bif Nat.blt t 101 then (bif Nat.blt t 100 then (bif Nat.beq t 99 then some (.func) else none) else (bif Nat.beq t 100 then some (.func) else none)) else (bif Nat.blt t 102 then (bif Nat.beq t 101 then some (.map (.one .bool) false [.int .i64 0]) else none) else (bif Nat.blt t 103 then (bif Nat.beq t 102 then some (.func) else none) else (bif Nat.beq t 103 then some (.func) else none))))) else (bif Nat.blt t 109 then (bif Nat.blt t 106 then (bif Nat.blt t 105 then (bif Nat.beq t 104 then some (.func) else none) else (bif Nat.beq t 105 then some (.func) else none)) else (bif Nat.blt t 107 then (bif Nat.beq t 106 then some (.func) else none) else (bif Nat.blt t 108 then (bif Nat.beq t 107 then some (.func) else none) else (bif Nat.beq t 108 then some (.func) else none)))) else (bif Nat.blt t 111 then (bif Nat.blt t 110 then (bif Nat.beq t 109 then some (.func) else none) else (bif Nat.beq t 110 then some (.func) else none)) else (bif Nat.blt t 112 then (bif Nat.beq t 111 then some (.array 8 1 false (List.replicate 8 (.bool false))) else none) else (bif Nat.blt t 113 then (bif Nat.beq t 112 then some (.func) else none) else (bif Nat.beq t 113 then some (.int .u64) else none)))))) else (bif Nat.blt t 125 then (bif Nat.blt t 119 then (bif Nat.blt t 116 then (bif Nat.blt t 115 then (bif Nat.beq t 114 then some (.int .u64) else none) else (bif Nat.beq t 115 then some (.func) else none)) else (bif Nat.blt t 117 then (bif Nat.beq t 116 then some (.func) else none) else (bif Nat.blt t 118 then (bif Nat.beq t 117 then some (.func) else none) else (bif Nat.beq t 118 then some (.func) else none)))) else (bif Nat.blt t 122 then (bif Nat.blt t 120 then (bif Nat.beq t 119 then some (.func) else none) else (bif Nat.beq t 120 then some (.func) else none)) else (bif Nat.blt t 123 then (bif Nat.beq t 122 then some (.func) else none) else (bif Nat.blt t 124 then (bif Nat.beq t 123 then some (.func) else none) else (bif Nat.beq t 124 then some (.array 2 1 false (List.replicate 2 (.int .i64 0))) else none))))) else (bif Nat.blt t 131 then (bif Nat.blt t 127 then (bif Nat.blt t 126 then (bif Nat.beq t 125 then some (.slice 2 true 16 [.int .i64 0, .int .i64 0]) else none) else (bif Nat.beq t 126 then some (.func) else none)) else (bif Nat.blt t 129 then (bif Nat.beq t 127 then some (.func) else none) else (bif Nat.blt t 130 then (bif Nat.beq t 129 then some (.func) else none) else (bif Nat.beq t 130 then some (.func) else none)))) else (bif Nat.blt t 135 then (bif Nat.blt t 132 then (bif Nat.beq t 131 then some (.iface) else none) else (bif Nat.blt t 134 then (bif Nat.beq t 132 then some (.iface) else none) else (bif Nat.beq t 134 then some (.func) else none))) else (bif Nat.blt t 136 then (bif Nat.beq t 135 then some (.func) else none) else (bif Nat.blt t 137 then (bif Nat.beq t 136 then some (.func) else none) else (bif Nat.beq t 137 then some (.func) else none))))))) else (bif Nat.blt t 159 then (bif Nat.blt t 148 then (bif Nat.blt t 143 then (bif Nat.blt t 140 then (bif Nat.blt t 139 then (bif Nat.beq t 138 then some (.func) else none) else (bif Nat.beq t 139 then some (.func) else none)) else (bif Nat.blt t 141 then (bif Nat.beq t 140 then some (.func) else none) else (bif Nat.blt t 142 then (bif Nat.beq t 141 then some (.func) else none) else (bif Nat.beq t 142 then some (.func) else none)))) else (bif Nat.blt t 145 then (bif Nat.blt t 144 then (bif Nat.beq t 143 then some (.func) else none) else (bif Nat.beq t 144 then some (.func) else none)) else (bif Nat.blt t 146 then (bif Nat.beq t 145 then some (.ptr) else none) else (bif Nat.blt t 147 then (bif Nat.beq t 146 then some (.slice 1 false 1 [.int .u8 0]) else none) else (bif Nat.beq t 147 then some (.struct none 2 [(0, 1, false), (1, 1, false)] [.nilptr, .slice [] 0 .exact]) else none))))) else (bif Nat.blt t 153 then (bif Nat.blt t 150 then (bif Nat.blt t 149 then (bif Nat.beq t 148 then some (.struct none 2 [(0, 1, false), (1, 1, false)] [.nilptr, .slice [] 0 .exact]) else none) else (bif Nat.beq t 149 then some (.func) else none)) else (bif Nat.blt t 151 then (bif Nat.beq t 150 then some (.func) else none) else (bif Nat.blt t 152 then (bif Nat.beq t 151 then some (.func) else none) else (bif Nat.beq t 152 then some (.func) else none)))) else (bif Nat.blt t 156 then (bif Nat.blt t 154 then (bif Nat.beq t 153 then some (.func) else none) else (bif Nat.blt t 155 then (bif Nat.beq t 154 then some (.func) else none) else (bif Nat.beq t 155 then some (.func) else none))) else (bif Nat.blt t 157 then (bif Nat.beq t 156 then some (.func) else none) else (bif Nat.blt t 158 then (bif Nat.beq t 157 then some (.func) else none) else (bif Nat.beq t 158 then some (.func) else none)))))) else (bif Nat.blt t 171 then (bif Nat.blt t 165 then (bif Nat.blt t 161 then (bif Nat.blt t 160 then (bif Nat.beq t 159 then some (.func) else none) else (bif Nat.beq t 160 then some (.func) else none)) else (bif Nat.blt t 162 then (bif Nat.beq t 161 then some (.array 8 1 false (List.replicate 8 (.int .u8 0))) else none) else (bif Nat.blt t 163 then (bif Nat.beq t 162 then some (.ptr) else none) else (bif Nat.beq t 163 then some (.int .u64) else none)))) else (bif Nat.blt t 167 then (bif Nat.blt t 166 then (bif Nat.beq t 165 then some (.func) else none) else (bif Nat.beq t 166 then some (.func) else none)) else (bif Nat.blt t 168 then (bif Nat.beq t 167 then some (.func) else none) else (bif Nat.blt t 170 then (bif Nat.beq t 168 then some (.func) else none) else (bif Nat.beq t 170 then some (.func) else none))))) else (bif Nat.blt t 176 then (bif Nat.blt t 173 then (bif Nat.blt t 172 then (bif Nat.beq t 171 then some (.func) else none) else (bif Nat.beq t 172 then some (.func) else none)) else (bif Nat.blt t 174 then (bif Nat.beq t 173 then some (.func) else none) else (bif Nat.blt t 175 then (bif Nat.beq t 174 then some (.struct none 2 [(0, 1, false), (1, 1, false)] [.bool false, .nilfunc]) else none) else (bif Nat.beq t 175 then some (.struct none 2 [(0, 1, false), (1, 1, false)] [.bool false, .nilfunc]) else none)))) else (bif Nat.blt t 180 then (bif Nat.blt t 177 then (bif Nat.beq t 176 then some (.slice 1 false 8 [.int .u64 0]) else none) else (bif Nat.blt t 179 then (bif Nat.beq t 177 then some (.slice 1 false 8 [.int .u64 0]) else none) else (bif Nat.beq t 179 then some (.func) else none))) else (bif Nat.blt t 181 then (bif Nat.beq t 180 then some (.func) else none) else (bif Nat.blt t 182 then (bif Nat.beq t 181 then some (.func) else none) else (bif Nat.beq t 182 then some (.func) else none))))))))) else (bif Nat.blt t 277 then (bif Nat.blt t 227 then (bif Nat.blt t 205 then (bif Nat.blt t 194 then (bif Nat.blt t 189 then (bif Nat.blt t 185 then (bif Nat.blt t 184 then (bif Nat.beq t 183 then some (.func) else none) else (bif Nat.beq t 184 then some (.func) else none)) else (bif Nat.blt t 186 then (bif Nat.beq t 185 then some (.func) else none) else (bif Nat.blt t 188 then (bif Nat.beq t 186 then some (.ptr) else none) else (bif Nat.beq t 188 then some (.func) else none)))) else (bif Nat.blt t 191 then (bif Nat.blt t 190 then (bif Nat.beq t 189 then some (.struct none 4 [(0, 3, true), (3, 1, false)] [.bool false, .str [], .str [], .int .i64 0]) else none) else (bif Nat.beq t 190 then some (.struct none 4 [(0, 3, true), (3, 1, false)] [.bool false, .str [], .str [], .int .i64 0]) else none)) else (bif Nat.blt t 192 then (bif Nat.beq t 191 then some (.func) else none) else (bif Nat.blt t 193 then (bif Nat.beq t 192 then some (.func) else none) else (bif Nat.beq t 193 then some (.func) else none))))) else (bif Nat.blt t 199 then (bif Nat.blt t 196 then (bif Nat.blt t 195 then (bif Nat.beq t 194 then some (.func) else none) else (bif Nat.beq t 195 then some (.func) else none)) else (bif Nat.blt t 197 then (bif Nat.beq t 196 then some (.func) else none) else (bif Nat.blt t 198 then (bif Nat.beq t 197 then some (.func) else none) else (bif Nat.beq t 198 then some (.func) else none)))) else (bif Nat.blt t 201 then (bif Nat.blt t 200 then (bif Nat.beq t 199 then some (.array 7 1 false (List.replicate 7 (.bool false))) else none) else (bif Nat.beq t 200 then some (.func) else none)) else (bif Nat.blt t 202 then (bif Nat.beq t 201 then some (.func) else none) else (bif Nat.blt t 203 then (bif Nat.beq t 202 then some (.func) else none) else (bif Nat.beq t 203 then some (.slice 4 true 40 [.int .i64 0, .int .i64 0, .int .i64 0, .str []]) else none)))))) else (bif Nat.blt t 215 then (bif Nat.blt t 210 then (bif Nat.blt t 207 then (bif Nat.blt t 206 then (bif Nat.beq t 205 then some (.func) else none) else (bif Nat.beq t 206 then some (.struct (some [.int, .int, .int, .str]) 4 [(0, 1, false), (1, 1, false), (2, 1, false), (3, 1, false)] [.int .i64 0, .int .i64 0, .int .i64 0, .str []]) else none)) else (bif Nat.blt t 208 then (bif Nat.beq t 207 then some (.struct (some [.int, .int, .int, .str]) 4 [(0, 1, false), (1, 1, false), (2, 1, false), (3, 1, false)] [.int .i64 0, .int .i64 0, .int .i64 0, .str []]) else none) else (bif Nat.blt t 209 then (bif Nat.beq t 208 then some (.func) else none) else (bif Nat.beq t 209 then some (.ptr) else none)))) else (bif Nat.blt t 212 then (bif Nat.blt t 211 then (bif Nat.beq t 210 then some (.func) else none) else (bif Nat.beq t 211 then some (.func) else none)) else (bif Nat.blt t 213 then (bif Nat.beq t 212 then some (.func) else none) else (bif Nat.blt t 214 then (bif Nat.beq t 213 then some (.func) else none) else (bif Nat.beq t 214 then some (.map (.fields [.int, .str, .str]) false [.bool false]) else none))))) else (bif Nat.blt t 220 then (bif Nat.blt t 217 then (bif Nat.blt t 216 then (bif Nat.beq t 215 then some (.struct (some [.int, .str, .str]) 3 [(0, 1, false), (1, 1, false), (2, 1, false)] [.int .i64 0, .str [], .str []]) else none) else (bif Nat.beq t 216 then some (.struct (some [.int, .str, .str]) 3 [(0, 1, false), (1, 1, false), (2, 1, false)] [.int .i64 0, .str [], .str []]) else none)) else (bif Nat.blt t 218 then (bif Nat.beq t 217 then some (.func) else none) else (bif Nat.blt t 219 then (bif Nat.beq t 218 then some (.func) else none) else (bif Nat.beq t 219 then some (.map (.fields [.str, .int]) false [.bool false]) else none)))) else (bif Nat.blt t 223 then (bif Nat.blt t 221 then (bif Nat.beq t 220 then some (.struct (some [.str, .int]) 2 [(0, 1, false), (1, 1, false)] [.str [], .int .i64 0]) else none) else (bif Nat.blt t 222 then (bif Nat.beq t 221 then some (.struct (some [.str, .int]) 2 [(0, 1, false), (1, 1, false)] [.str [], .int .i64 0]) else none) else (bif Nat.beq t 222 then some (.func) else none))) else (bif Nat.blt t 225 then (bif Nat.beq t 223 then some (.func) else none) else (bif Nat.blt t 226 then (bif Nat.beq t 225 then some (.func) else none) else (bif Nat.beq t 226 then some (.array 24 1 false (List.replicate 24 (.int .u8 0))) else none))))))) else (bif Nat.blt t 252 then (bif Nat.blt t 241 then (bif Nat.blt t 235 then (bif Nat.blt t 230 then (bif Nat.blt t 228 then (bif Nat.beq t 227 then some (.func) else none) else (bif Nat.beq t 228 then some (.func) else none)) else (bif Nat.blt t 231 then (bif Nat.beq t 230 then some (.func) else none) else (bif Nat.blt t 233 then (bif Nat.beq t 231 then some (.int .u32) else none) else (bif Nat.beq t 233 then some (.func) else none)))) else (bif Nat.blt t 237 then (bif Nat.blt t 236 then (bif Nat.beq t 235 then some (.func) else none) else (bif Nat.beq t 236 then some (.func) else none)) else (bif Nat.blt t 239 then (bif Nat.beq t 237 then some (.array 2 1 false (List.replicate 2 (.str []))) else none) else (bif Nat.blt t 240 then (bif Nat.beq t 239 then some (.func) else none) else (bif Nat.beq t 240 then some (.func) else none))))) else (bif Nat.blt t 246 then (bif Nat.blt t 243 then (bif Nat.blt t 242 then (bif Nat.beq t 241 then some (.func) else none) else (bif Nat.beq t 242 then some (.func) else none)) else (bif Nat.blt t 244 then (bif Nat.beq t 243 then some (.func) else none) else (bif Nat.blt t 245 then (bif Nat.beq t 244 then some (.func) else none) else (bif Nat.beq t 245 then some (.func) else none)))) else (bif Nat.blt t 249 then (bif Nat.blt t 248 then (bif Nat.beq t 246 then some (.int .i64) else none) else (bif Nat.beq t 248 then some (.func) else none)) else (bif Nat.blt t 250 then (bif Nat.beq t 249 then some (.ptr) else none) else (bif Nat.blt t 251 then (bif Nat.beq t 250 then some (.func) else none) else (bif Nat.beq t 251 then some (.func) else none)))))) else (bif Nat.blt t 264 then (bif Nat.blt t 259 then (bif Nat.blt t 254 then (bif Nat.blt t 253 then (bif Nat.beq t 252 then some (.map (.one .str) true [.str [], .slice [] 0 .exact, .str [], .int .i64 0, .slice [] 0 .exact]) else none) else (bif Nat.beq t 253 then some (.struct none 6 [(0, 2, true), (2, 1, false), (3, 1, false), (4, 1, false), (5, 1, false)] [.slice [] 0 .exact, .slice [] 0 .exact, .nilmap, .slice [] 0 .exact, .str [], .int .i64 0]) else none)) else (bif Nat.blt t 256 then (bif Nat.beq t 254 then some (.struct none 6 [(0, 2, true), (2, 1, false), (3, 1, false), (4, 1, false), (5, 1, false)] [.slice [] 0 .exact, .slice [] 0 .exact, .nilmap, .slice [] 0 .exact, .str [], .int .i64 0]) else none) else (bif Nat.blt t 257 then (bif Nat.beq t 256 then some (.map (.one .str) true [.bool false, .str [], .str [], .int .i64 0]) else none) else (bif Nat.beq t 257 then some (.func) else none)))) else (bif Nat.blt t 261 then (bif Nat.blt t 260 then (bif Nat.beq t 259 then some (.struct (some [.str, .int]) 2 [(0, 1, false), (1, 1, false)] [.str [], .int .i64 0]) else none) else (bif Nat.beq t 260 then some (.struct (some [.str, .int]) 2 [(0, 1, false), (1, 1, false)] [.str [], .int .i64 0]) else none)) else (bif Nat.blt t 262 then (bif Nat.beq t 261 then some (.func) else none) else (bif Nat.blt t 263 then (bif Nat.beq t 262 then some (.func) else none) else (bif Nat.beq t 263 then some (.func) else none))))) else (bif Nat.blt t 269 then (bif Nat.blt t 266 then (bif Nat.blt t 265 then (bif Nat.beq t 264 then some (.map (.one .str) false [.bool false]) else none) else (bif Nat.beq t 265 then some (.func) else none)) else (bif Nat.blt t 267 then (bif Nat.beq t 266 then some (.func) else none) else (bif Nat.blt t 268 then (bif Nat.beq t 267 then some (.func) else none) else (bif Nat.beq t 268 then some (.array 256 1 false (List.replicate 256 (.int .i64 0))) else none)))) else (bif Nat.blt t 272 then (bif Nat.blt t 270 then (bif Nat.beq t 269 then some (.func) else none) else (bif Nat.blt t 271 then (bif Nat.beq t 270 then some (.struct none 257 [(0, 1, false), (1, 256, true)] [.str [], .int .i64 0, .int .i64 0, .int .i64 0, .int .i64 0, .int .i64 0, .int .i64 0, .int .i64 0, .int .i64 0, .int .i64 0, .int .i64 0, .int .i64 0, .int .i64 0, .int .i64 0, .int .i64 0, .int .i64 0, .int .i64 0, .int .i64 0, .int .i64 0, .int .i64 0, .int .i64 0, .int .i64 0, .int .i64 0, .int .i64 0, .int .i64 0, .int .i64 0, .int .i64 0, .int .i64 0, .int .i64 0, .int .i64 0, .int .i64 0, .int .i64 0, .int .i64 0, .int .i64 0, .int .i64 0, .int .i64 0, .int .i64 0, .int .i64 0, .int .i64 0, .int .i64 0, .int .i64 0, .int .i64 0, .int .i64 0, .int .i64 0, .int .i64 0, .int .i64 0, .int .i64 0, .int .i64 0, .int .i64 0, .int .i64 0, .int .i64 0, .int .i64 0, .int .i64 0, .int .i64 0, .int .i64 0, .int .i64 0, .int .i64 0, .int .i64 0, .int .i64 0, .int .i64 0, .int .i64 0, .int .i64 0, .int .i64 0, .int .i64 0, .int .i64 0, .int .i64 0, .int .i64 0, .int .i64 0, .int .i64 0, .int .i64 0, .int .i64 0, .int .i64 0, .int .i64 0, .int .i64 0, .int .i64 0, .int .i64 0, .int .i64 0, .int .i64 0, .int .i64 0, .int .i64 0, .int .i64 0, .int .i64 0, .int .i64 0, .int .i64 0, .int .i64 0, .int .i64 0, .int .i64 0, .int .i64 0, .int .i64 0, .int .i64 0, .int .i64 0, .int .i64 0, .int .i64 0, .int .i64 0, .int .i64 0, .int .i64 0, .int .i64 0, .int .i64 0, .int .i64 0, .int .i64 0, .int .i64 0, .int .i64 0, .int .i64 0, .int .i64 0, .int .i64 0, .int .i64 0, .int .i64 0, .int .i64 0, .int .i64 0, .int .i64 0, .int .i64 0, .int .i64 0, .int .i64 0, .int .i64 0, .int .i64 0, .int .i64 0, .int .i64 0, .int .i64 0, .int .i64 0, .int .i64 0, .int .i64 0, .int .i64 0, .int .i64 0, .int .i64 0, .int .i64 0, .int .i64 0, .int .i64 0, .int .i64 0, .int .i64 0, .int .i64 0, .int .i64 0, .int .i64 0, .int .i64 0, .int .i64 0, .int .i64 0, .int .i64 0, .int .i64 0, .int .i64 0, .int .i64 0, .int .i64 0, .int .i64 0, .int .i64 0, .int .i64 0, .int .i64 0, .int .i64 0, .int .i64 0, .int .i64 0, .int .i64 0, .int .i64 0, .int .i64 0, .int .i64 0, .int .i64 0, .int .i64 0, .int .i64 0, .int .i64 0, .int .i64 0, .int .i64 0, .int .i64 0, .int .i64 0, .int .i64 0, .int .i64 0, .int .i64 0, .int .i64 0, .int .i64 0, .int .i64 0, .int .i64 0, .int .i64 0, .int .i64 0, .int .i64 0, .int .i64 0, .int .i64 0, .int .i64 0, .int .i64 0, .int .i64 0, .int .i64 0, .int .i64 0, .int .i64 0, .int .i64 0, .int .i64 0, .int .i64 0, .int .i64 0, .int .i64 0, .int .i64 0, .int .i64 0, .int .i64 0, .int .i64 0, .int .i64 0, .int .i64 0, .int .i64 0, .int .i64 0, .int .i64 0, .int .i64 0, .int .i64 0, .int .i64 0, .int .i64 0, .int .i64 0, .int .i64 0, .int .i64 0, .int .i64 0, .int .i64 0, .int .i64 0, .int .i64 0, .int .i64 0, .int .i64 0, .int .i64 0, .int .i64 0, .int .i64 0, .int .i64 0, .int .i64 0, .int .i64 0, .int .i64 0, .int .i64 0, .int .i64 0, .int .i64 0, .int .i64 0, .int .i64 0, .int .i64 0, .int .i64 0, .int .i64 0, .int .i64 0, .int .i64 0, .int .i64 0, .int .i64 0, .int .i64 0, .int .i64 0, .int .i64 0, .int .i64 0, .int .i64 0, .int .i64 0, .int .i64 0, .int .i64 0, .int .i64 0, .int .i64 0, .int .i64 0, .int .i64 0, .int .i64 0, .int .i64 0, .int .i64 0, .int .i64 0, .int .i64 0, .int .i64 0, .int .i64 0, .int .i64 0, .int .i64 0, .int .i64 0, .int .i64 0, .int .i64 0, .int .i64 0, .int .i64 0, .int .i64 0, .int .i64 0, .int .i64 0, .int .i64 0, .int .i64 0, .int .i64 0, .int .i64 0, .int .i64 0]) else none) else (bif Nat.beq t 271 then some (.struct none 257 [(0, 1, false), (1, 256, true)] [.str [], .int .i64 0, .int .i64 0, .int .i64 0, .int .i64 0, .int .i64 0, .int .i64 0, .int .i64 0, .int .i64 0, .int .i64 0, .int .i64 0, .int .i64 0, .int .i64 0, .int .i64 0, .int .i64 0, .int .i64 0, .int .i64 0, .int .i64 0, .int .i64 0, .int .i64 0, .int .i64 0, .int .i64 0, .int .i64 0, .int .i64 0, .int .i64 0, .int .i64 0, .int .i64 0, .int .i64 0, .int .i64 0, .int .i64 0, .int .i64 0, .int .i64 0, .int .i64 0, .int .i64 0, .int .i64 0, .int .i64 0, .int .i64 0, .int .i64 0, .int .i64 0, .int .i64 0, .int .i64 0, .int .i64 0, .int .i64 0, .int .i64 0, .int .i64 0, .int .i64 0, .int .i64 0, .int .i64 0, .int .i64 0, .int .i64 0, .int .i64 0, .int .i64 0, .int .i64 0, .int .i64 0, .int .i64 0, .int .i64 0, .int .i64 0, .int .i64 0, .int .i64 0, .int .i64 0, .int .i64 0, .int .i64 0, .int .i64 0, .int .i64 0, .int .i64 0, .int .i64 0, .int .i64 0, .int .i64 0, .int .i64 0, .int .i64 0, .int .i64 0, .int .i64 0, .int .i64 0, .int .i64 0, .int .i64 0, .int .i64 0, .int .i64 0, .int .i64 0, .int .i64 0, .int .i64 0, .int .i64 0, .int .i64 0, .int .i64 0, .int .i64 0, .int .i64 0, .int .i64 0, .int .i64 0, .int .i64 0, .int .i64 0, .int .i64 0, .int .i64 0, .int .i64 0, .int .i64 0, .int .i64 0, .int .i64 0, .int .i64 0, .int .i64 0, .int .i64 0, .int .i64 0, .int .i64 0, .int .i64 0, .int .i64 0, .int .i64 0, .int .i64 0, .int .i64 0, .int .i64 0, .int .i64 0, .int .i64 0, .int .i64 0, .int .i64 0, .int .i64 0, .int .i64 0, .int .i64 0, .int .i64 0, .int .i64 0, .int .i64 0, .int .i64 0, .int .i64 0, .int .i64 0, .int .i64 0, .int .i64 0, .int .i64 0, .int .i64 0, .int .i64 0, .int .i64 0, .int .i64 0, .int .i64 0, .int .i64 0, .int .i64 0, .int .i64 0, .int .i64 0, .int .i64 0, .int .i64 0, .int .i64 0, .int .i64 0, .int .i64 0, .int .i64 0, .int .i64 0, .int .i64 0, .int .i64 0, .int .i64 0, .int .i64 0, .int .i64 0, .int .i64 0, .int .i64 0, .int .i64 0, .int .i64 0, .int .i64 0, .int .i64 0, .int .i64 0, .int .i64 0, .int .i64 0, .int .i64 0, .int .i64 0, .int .i64 0, .int .i64 0, .int .i64 0, .int .i64 0, .int .i64 0, .int .i64 0, .int .i64 0, .int .i64 0, .int .i64 0, .int .i64 0, .int .i64 0, .int .i64 0, .int .i64 0, .int .i64 0, .int .i64 0, .int .i64 0, .int .i64 0, .int .i64 0, .int .i64 0, .int .i64 0, .int .i64 0, .int .i64 0, .int .i64 0, .int .i64 0, .int .i64 0, .int .i64 0, .int .i64 0, .int .i64 0, .int .i64 0, .int .i64 0, .int .i64 0, .int .i64 0, .int .i64 0, .int .i64 0, .int .i64 0, .int .i64 0, .int .i64 0, .int .i64 0, .int .i64 0, .int .i64 0, .int .i64 0, .int .i64 0, .int .i64 0, .int .i64 0, .int .i64 0, .int .i64 0, .int .i64 0, .int .i64 0, .int .i64 0, .int .i64 0, .int .i64 0, .int .i64 0, .int .i64 0, .int .i64 0, .int .i64 0, .int .i64 0, .int .i64 0, .int .i64 0, .int .i64 0, .int .i64 0, .int .i64 0, .int .i64 0, .int .i64 0, .int .i64 0, .int .i64 0, .int .i64 0, .int .i64 0, .int .i64 0, .int .i64 0, .int .i64 0, .int .i64 0, .int .i64 0, .int .i64 0, .int .i64 0, .int .i64 0, .int .i64 0, .int .i64 0, .int .i64 0, .int .i64 0, .int .i64 0, .int .i64 0, .int .i64 0, .int .i64 0, .int .i64 0, .int .i64 0, .int .i64 0, .int .i64 0, .int .i64 0, .int .i64 0, .int .i64 0, .int .i64 0, .int .i64 0, .int .i64 0, .int .i64 0, .int .i64 0, .int .i64 0, .int .i64 0, .int .i64 0, .int .i64 0, .int .i64 0, .int .i64 0, .int .i64 0, .int .i64 0]) else none))) else (bif Nat.blt t 274 then (bif Nat.beq t 272 then some (.func) else none) else (bif Nat.blt t 276 then (bif Nat.beq t 274 then some (.func) else none) else (bif Nat.beq t 276 then some (.func) else none)))))))) else (bif Nat.blt t 321 then (bif Nat.blt t 298 then (bif Nat.blt t 288 then (bif Nat.blt t 283 then (bif Nat.blt t 279 then (bif Nat.blt t 278 then (bif Nat.beq t 277 then some (.func) else none) else (bif Nat.beq t 278 then some (.func) else none)) else (bif Nat.blt t 280 then (bif Nat.beq t 279 then some (.array 256 1 false (List.replicate 256 (.bool false))) else none) else (bif Nat.blt t 282 then (bif Nat.beq t 280 then some (.array 256 1 false (List.replicate 256 (.bool false))) else none) else (bif Nat.beq t 282 then some (.func) else none)))) else (bif Nat.blt t 285 then (bif Nat.blt t 284 then (bif Nat.beq t 283 then some (.func) else none) else (bif Nat.beq t 284 then some (.ptr) else none)) else (bif Nat.blt t 286 then (bif Nat.beq t 285 then some (.func) else none) else (bif Nat.blt t 287 then (bif Nat.beq t 286 then some (.func) else none) else (bif Nat.beq t 287 then some (.func) else none))))) else (bif Nat.blt t 293 then (bif Nat.blt t 290 then (bif Nat.blt t 289 then (bif Nat.beq t 288 then some (.struct (some [.int, .str, .int]) 3 [(0, 1, false), (1, 1, false), (2, 1, false)] [.int .i64 0, .str [], .int .i64 0]) else none) else (bif Nat.beq t 289 then some (.struct (some [.int, .str, .int]) 3 [(0, 1, false), (1, 1, false), (2, 1, false)] [.int .i64 0, .str [], .int .i64 0]) else none)) else (bif Nat.blt t 291 then (bif Nat.beq t 290 then some (.func) else none) else (bif Nat.blt t 292 then (bif Nat.beq t 291 then some (.func) else none) else (bif Nat.beq t 292 then some (.func) else none)))) else (bif Nat.blt t 295 then (bif Nat.blt t 294 then (bif Nat.beq t 293 then some (.func) else none) else (bif Nat.beq t 294 then some (.func) else none)) else (bif Nat.blt t 296 then (bif Nat.beq t 295 then some (.array 20 1 false (List.replicate 20 (.int .u64 0))) else none) else (bif Nat.blt t 297 then (bif Nat.beq t 296 then some (.array 65 1 false (List.replicate 65 (.int .u8 0))) else none) else (bif Nat.beq t 297 then some (.func) else none)))))) else (bif Nat.blt t 309 then (bif Nat.blt t 303 then (bif Nat.blt t 300 then (bif Nat.blt t 299 then (bif Nat.beq t 298 then some (.slice 2 true 32 [.str [], .str []]) else none) else (bif Nat.beq t 299 then some (.func) else none)) else (bif Nat.blt t 301 then (bif Nat.beq t 300 then some (.func) else none) else (bif Nat.blt t 302 then (bif Nat.beq t 301 then some (.func) else none) else (bif Nat.beq t 302 then some (.struct none 3 [(0, 1, false), (1, 1, false), (2, 1, false)] [.str [], .str [], .niliface]) else none)))) else (bif Nat.blt t 306 then (bif Nat.blt t 304 then (bif Nat.beq t 303 then some (.struct none 3 [(0, 1, false), (1, 1, false), (2, 1, false)] [.str [], .str [], .niliface]) else none) else (bif Nat.beq t 304 then some (.func) else none)) else (bif Nat.blt t 307 then (bif Nat.beq t 306 then some (.func) else none) else (bif Nat.blt t 308 then (bif Nat.beq t 307 then some (.func) else none) else (bif Nat.beq t 308 then some (.ptr) else none))))) else (bif Nat.blt t 315 then (bif Nat.blt t 311 then (bif Nat.blt t 310 then (bif Nat.beq t 309 then some (.func) else none) else (bif Nat.beq t 310 then some (.func) else none)) else (bif Nat.blt t 312 then (bif Nat.beq t 311 then some (.func) else none) else (bif Nat.blt t 314 then (bif Nat.beq t 312 then some (.func) else none) else (bif Nat.beq t 314 then some (.func) else none)))) else (bif Nat.blt t 318 then (bif Nat.blt t 316 then (bif Nat.beq t 315 then some (.func) else none) else (bif Nat.blt t 317 then (bif Nat.beq t 316 then some (.func) else none) else (bif Nat.beq t 317 then some (.func) else none))) else (bif Nat.blt t 319 then (bif Nat.beq t 318 then some (.func) else none) else (bif Nat.blt t 320 then (bif Nat.beq t 319 then some (.func) else none) else (bif Nat.beq t 320 then some (.func) else none))))))) else (bif Nat.blt t 342 then (bif Nat.blt t 331 then (bif Nat.blt t 326 then (bif Nat.blt t 323 then (bif Nat.blt t 322 then (bif Nat.beq t 321 then some (.func) else none) else (bif Nat.beq t 322 then some (.func) else none)) else (bif Nat.blt t 324 then (bif Nat.beq t 323 then some (.func) else none) else (bif Nat.blt t 325 then (bif Nat.beq t 324 then some (.ptr) else none) else (bif Nat.beq t 325 then some (.struct (some [.str]) 1 [(0, 1, false)] [.str []]) else none)))) else (bif Nat.blt t 328 then (bif Nat.blt t 327 then (bif Nat.beq t 326 then some (.struct (some [.str]) 1 [(0, 1, false)] [.str []]) else none) else (bif Nat.beq t 327 then some (.func) else none)) else (bif Nat.blt t 329 then (bif Nat.beq t 328 then some (.func) else none) else (bif Nat.blt t 330 then (bif Nat.beq t 329 then some (.func) else none) else (bif Nat.beq t 330 then some (.func) else none))))) else (bif Nat.blt t 336 then (bif Nat.blt t 333 then (bif Nat.blt t 332 then (bif Nat.beq t 331 then some (.func) else none) else (bif Nat.beq t 332 then some (.func) else none)) else (bif Nat.blt t 334 then (bif Nat.beq t 333 then some (.array 32 1 false (List.replicate 32 (.int .u8 0))) else none) else (bif Nat.blt t 335 then (bif Nat.beq t 334 then some (.array 64 1 false (List.replicate 64 (.int .u8 0))) else none) else (bif Nat.beq t 335 then some (.func) else none)))) else (bif Nat.blt t 339 then (bif Nat.blt t 337 then (bif Nat.beq t 336 then some (.func) else none) else (bif Nat.blt t 338 then (bif Nat.beq t 337 then some (.array 256 1 false (List.replicate 256 (.int .u8 0))) else none) else (bif Nat.beq t 338 then some (.struct (some [.int, .int]) 2 [(0, 1, false), (1, 1, false)] [.int .u8 0, .int .u8 0]) else none))) else (bif Nat.blt t 340 then (bif Nat.beq t 339 then some (.struct (some [.int, .int]) 2 [(0, 1, false), (1, 1, false)] [.int .u8 0, .int .u8 0]) else none) else (bif Nat.blt t 341 then (bif Nat.beq t 340 then some (.array 16 2 true [.int .u8 0, .int .u8 0, .int .u8 0, .int .u8 0, .int .u8 0, .int .u8 0, .int .u8 0, .int .u8 0, .int .u8 0, .int .u8 0, .int .u8 0, .int .u8 0, .int .u8 0, .int .u8 0, .int .u8 0, .int .u8 0, .int .u8 0, .int .u8 0, .int .u8 0, .int .u8 0, .int .u8 0, .int .u8 0, .int .u8 0, .int .u8 0, .int .u8 0, .int .u8 0, .int .u8 0, .int .u8 0, .int .u8 0, .int .u8 0, .int .u8 0, .int .u8 0]) else none) else (bif Nat.beq t 341 then some (.func) else none)))))) else (bif Nat.blt t 353 then (bif Nat.blt t 348 then (bif Nat.blt t 344 then (bif Nat.blt t 343 then (bif Nat.beq t 342 then some (.func) else none) else (bif Nat.beq t 343 then some (.func) else none)) else (bif Nat.blt t 345 then (bif Nat.beq t 344 then some (.func) else none) else (bif Nat.blt t 347 then (bif Nat.beq t 345 then some (.func) else none) else (bif Nat.beq t 347 then some (.func) else none)))) else (bif Nat.blt t 350 then (bif Nat.blt t 349 then (bif Nat.beq t 348 then some (.slice 5 true 20 [.int .u32 0, .int .u32 0, .int .i32 0, .int .i32 0, .int .i32 0]) else none) else (bif Nat.beq t 349 then some (.ptr) else none)) else (bif Nat.blt t 351 then (bif Nat.beq t 350 then some (.func) else none) else (bif Nat.blt t 352 then (bif Nat.beq t 351 then some (.func) else none) else (bif Nat.beq t 352 then some (.array 3 1 false (List.replicate 3 (.int .i32 0))) else none))))) else (bif Nat.blt t 362 then (bif Nat.blt t 355 then (bif Nat.blt t 354 then (bif Nat.beq t 353 then some (.array 3 1 false (List.replicate 3 (.int .i32 0))) else none) else (bif Nat.beq t 354 then some (.struct none 5 [(0, 1, false), (1, 1, false), (2, 3, true)] [.int .u32 0, .int .u32 0, .int .i32 0, .int .i32 0, .int .i32 0]) else none)) else (bif Nat.blt t 358 then (bif Nat.beq t 355 then some (.struct none 5 [(0, 1, false), (1, 1, false), (2, 3, true)] [.int .u32 0, .int .u32 0, .int .i32 0, .int .i32 0, .int .i32 0]) else none) else (bif Nat.blt t 361 then (bif Nat.beq t 358 then some (.array 0 1 false (List.replicate 0 (.nilptr))) else none) else (bif Nat.beq t 361 then some (.int .u8) else none)))) else (bif Nat.blt t 365 then (bif Nat.blt t 363 then (bif Nat.beq t 362 then some (.int .u8) else none) else (bif Nat.blt t 364 then (bif Nat.beq t 363 then some (.func) else none) else (bif Nat.beq t 364 then some (.int .i32) else none))) else (bif Nat.blt t 366 then (bif Nat.beq t 365 then some (.int .i32) else none) else (bif Nat.blt t 367 then (bif Nat.beq t 366 then some (.struct none 11 [(0, 1, false), (1, 1, false), (2, 1, false), (3, 1, false), (4, 1, false), (5, 1, false), (6, 1, false), (7, 1, false), (8, 1, false), (9, 1, false), (10, 1, false)] [.int .u64 0, .int .u64 0, .int .u32 0, .int .u8 0, .int .u8 0, .int .u8 0, .int .u8 0, .nilfunc, .nilptr, .int .i32 0, .int .i32 0]) else none) else (bif Nat.beq t 367 then some (.struct none 11 [(0, 1, false), (1, 1, false), (2, 1, false), (3, 1, false), (4, 1, false), (5, 1, false), (6, 1, false), (7, 1, false), (8, 1, false), (9, 1, false), (10, 1, false)] [.int .u64 0, .int .u64 0, .int .u32 0, .int .u8 0, .int .u8 0, .int .u8 0, .int .u8 0, .nilfunc, .nilptr, .int .i32 0, .int .i32 0]) else none))))))))))

/-- gosem.cut.init -/
def i2 : Info := { mode := .pure, own := false, cut := true, grow := [], keep := [], pairs := [] }
/-- customhouse/customhouselaw45.TradeCourses -/
def i3 : Info := { mode := .pure, own := false, cut := true, grow := [], keep := [(0, [0, 3, 4, 5, 6]), (2, [3, 8, 9, 10])], pairs := [(23, [])] }
/-- customhouse/customhouselaw45.head -/
def i4 : Info := { mode := .pure, own := false, cut := true, grow := [], keep := [], pairs := [] }
/-- customhouse/customhouselaw45.TradeCourses$1 -/
def i5 : Info := { mode := .pure, own := false, cut := true, grow := [], keep := [(0, [0, 1, 5])], pairs := [] }
/-- customhouse/customhouselaw45.course -/
def i6 : Info := { mode := .pure, own := false, cut := true, grow := [], keep := [(0, [0, 3]), (2, [0, 3, 4, 5, 6])], pairs := [(9, [])] }
/-- customhouse/trade.Next -/
def i7 : Info := { mode := .pure, own := false, cut := true, grow := [], keep := [(0, [3, 7, 8, 9])], pairs := [] }
/-- customhouse/trade.Final -/
def i8 : Info := { mode := .pure, own := false, cut := true, grow := [], keep := [], pairs := [] }
/-- customhouse/customhouselaw45.sample -/
def i9 : Info := { mode := .pure, own := false, cut := true, grow := [], keep := [], pairs := [] }
/-- customhouse/trade.Value -/
def i10 : Info := { mode := .pure, own := false, cut := true, grow := [], keep := [], pairs := [] }
/-- customhouse/trade.Facts -/
def i11 : Info := { mode := .pure, own := false, cut := true, grow := [], keep := [], pairs := [(12, [(1, 7), (3, 7)]), (14, [])] }
/-- customhouse/trade.Text -/
def i12 : Info := { mode := .pure, own := false, cut := true, grow := [0, 2], keep := [(0, [1, 4, 5, 43, 44, 45]), (2, [4, 5, 60, 61, 62])], pairs := [(4, [(1, 7), (3, 7), (7, 10), (7, 14), (1, 15), (3, 15), (10, 15), (7, 18), (15, 18), (1, 19), (3, 19), (10, 19), (7, 22), (15, 22), (19, 22), (1, 23), (3, 23), (10, 23), (7, 26), (15, 26), (19, 26), (23, 26), (1, 27), (3, 27), (10, 27)]), (14, [(2, 6)])] }
/-- customhouse/customhouseref18.Ints -/
def i13 : Info := { mode := .pure, own := false, cut := true, grow := [], keep := [(0, [0, 1, 5])], pairs := [(6, [])] }
/-- customhouse/trade.Check -/
def i14 : Info := { mode := .pure, own := false, cut := true, grow := [], keep := [], pairs := [(7, [(7, 9), (7, 10)])] }
/-- customhouse/customhouseref24.Equal -/
def i15 : Info := { mode := .pure, own := false, cut := true, grow := [], keep := [(0, [0, 1, 5])], pairs := [(6, [])] }
/-- customhouse/trade.after -/
def i16 : Info := { mode := .pure, own := false, cut := true, grow := [0], keep := [(0, [3, 4, 5])], pairs := [] }
/-- slices.Contains[[]int,int] -/
def i17 : Info := { mode := .pure, own := false, cut := true, grow := [], keep := [], pairs := [] }
/-- customhouse/digest.Sum -/
def i18 : Info := { mode := .pure, own := false, cut := true, grow := [], keep := [], pairs := [] }
/-- customhouse/trade.instant -/
def i19 : Info := { mode := .pure, own := false, cut := true, grow := [], keep := [], pairs := [] }
/-- customhouse/money.Convert -/
def i20 : Info := { mode := .pure, own := false, cut := true, grow := [], keep := [(0, [10, 15, 66, 67, 68])], pairs := [] }
/-- customhouse/ratio.Floor -/
def i21 : Info := { mode := .pure, own := false, cut := true, grow := [], keep := [], pairs := [] }
/-- customhouse/parts.Share -/
def i22 : Info := { mode := .pure, own := false, cut := true, grow := [], keep := [], pairs := [] }
/-- customhouse/tariff.Classify -/
def i23 : Info := { mode := .pure, own := false, cut := true, grow := [], keep := [], pairs := [] }
/-- customhouse/trade.product -/
def i24 : Info := { mode := .pure, own := false, cut := true, grow := [], keep := [], pairs := [] }
/-- customhouse/trade.formed -/
def i25 : Info := { mode := .pure, own := false, cut := true, grow := [], keep := [(0, [1, 3, 11, 12, 13]), (2, [1, 3, 40, 41, 42])], pairs := [] }
/-- strconv.Itoa -/
def i26 : Info := { mode := .pure, own := false, cut := true, grow := [], keep := [], pairs := [] }
/-- strings.Join -/
def i27 : Info := { mode := .pure, own := false, cut := true, grow := [], keep := [(1, [0, 1, 5, 39, 40, 41]), (3, [1, 8, 63, 64, 65])], pairs := [] }
/-- customhouse/public.Proper -/
def i28 : Info := { mode := .pure, own := false, cut := true, grow := [], keep := [(0, [1, 9, 10, 11]), (2, [1, 43, 44, 45])], pairs := [] }
/-- customhouse/trade.Check$1 -/
def i29 : Info := { mode := .loc, own := false, cut := true, grow := [], keep := [], pairs := [] }
/-- customhouse/trade.find[customhouse/api.Entry] -/
def i30 : Info := { mode := .pure, own := false, cut := true, grow := [], keep := [], pairs := [] }
/-- customhouse/trade.Check$1$1 -/
def i31 : Info := { mode := .pure, own := false, cut := true, grow := [], keep := [], pairs := [] }
/-- slices.ContainsFunc[[]customhouse/api.Role,customhouse/api.Role] -/
def i32 : Info := { mode := .loc, own := false, cut := true, grow := [], keep := [], pairs := [] }
/-- slices.Max[[]int,int] -/
def i33 : Info := { mode := .pure, own := false, cut := true, grow := [], keep := [(0, [0, 3, 4])], pairs := [] }
/-- slices.Index[[]int,int] -/
def i34 : Info := { mode := .pure, own := false, cut := true, grow := [], keep := [(0, [0, 1, 7, 8])], pairs := [] }
/-- customhouse/digest.blocks -/
def i35 : Info := { mode := .loc, own := false, cut := true, grow := [], keep := [(0, [0, 1, 4])], pairs := [(4, [])] }
/-- (*customhouse/digest.state).take -/
def i36 : Info := { mode := .loc, own := false, cut := true, grow := [], keep := [(0, [0, 3, 4, 7])], pairs := [] }
/-- strconv.FormatUint -/
def i37 : Info := { mode := .pure, own := false, cut := true, grow := [], keep := [], pairs := [] }
/-- strings.Repeat -/
def i38 : Info := { mode := .pure, own := false, cut := true, grow := [], keep := [(3, [7, 8, 9])], pairs := [] }
/-- customhouse/clock.Text -/
def i39 : Info := { mode := .pure, own := false, cut := true, grow := [], keep := [], pairs := [] }
/-- customhouse/money.proper -/
def i40 : Info := { mode := .pure, own := false, cut := true, grow := [], keep := [], pairs := [] }
/-- customhouse/money.Find -/
def i41 : Info := { mode := .pure, own := false, cut := true, grow := [], keep := [], pairs := [] }
/-- customhouse/ratio.Of -/
def i42 : Info := { mode := .pure, own := false, cut := true, grow := [], keep := [], pairs := [] }
/-- customhouse/ratio.Mul -/
def i43 : Info := { mode := .pure, own := false, cut := true, grow := [], keep := [], pairs := [] }
/-- customhouse/ratio.Valid -/
def i44 : Info := { mode := .pure, own := false, cut := true, grow := [], keep := [], pairs := [] }
/-- customhouse/natural.Div -/
def i45 : Info := { mode := .pure, own := false, cut := true, grow := [], keep := [], pairs := [] }
/-- customhouse/natural.Add -/
def i46 : Info := { mode := .pure, own := false, cut := true, grow := [], keep := [], pairs := [] }
/-- strconv.Atoi -/
def i47 : Info := { mode := .pure, own := false, cut := true, grow := [], keep := [], pairs := [] }
/-- customhouse/parts.Controlled -/
def i48 : Info := { mode := .pure, own := false, cut := true, grow := [], keep := [], pairs := [(8, [(2, 3)])] }
/-- customhouse/parts.Value -/
def i49 : Info := { mode := .pure, own := false, cut := true, grow := [], keep := [], pairs := [(6, [(2, 3)])] }
/-- customhouse/ratio.Div -/
def i50 : Info := { mode := .pure, own := false, cut := true, grow := [], keep := [], pairs := [] }
/-- customhouse/tariff.Valid -/
def i51 : Info := { mode := .pure, own := false, cut := true, grow := [], keep := [], pairs := [] }
/-- customhouse/fact.Fits -/
def i52 : Info := { mode := .pure, own := false, cut := true, grow := [], keep := [(0, [1, 19, 20, 21])], pairs := [(6, [])] }
/-- slices.IndexFunc[[]customhouse/api.Line,customhouse/api.Line] -/
def i53 : Info := { mode := .loc, own := false, cut := true, grow := [], keep := [(0, [0, 1, 7, 8])], pairs := [] }
/-- customhouse/tariff.Classify$1 -/
def i54 : Info := { mode := .loc, own := false, cut := true, grow := [], keep := [], pairs := [] }
/-- customhouse/formula.Holds -/
def i55 : Info := { mode := .pure, own := false, cut := true, grow := [], keep := [], pairs := [] }
/-- customhouse/trade.find[customhouse/api.Product] -/
def i56 : Info := { mode := .pure, own := false, cut := true, grow := [], keep := [], pairs := [] }
/-- customhouse/trade.product$1 -/
def i57 : Info := { mode := .pure, own := false, cut := true, grow := [], keep := [], pairs := [] }
/-- customhouse/trade.formed$1 -/
def i58 : Info := { mode := .pure, own := false, cut := true, grow := [], keep := [], pairs := [] }
/-- customhouse/trade.formed$2 -/
def i59 : Info := { mode := .loc, own := false, cut := true, grow := [], keep := [], pairs := [] }
/-- customhouse/trade.identifier -/
def i60 : Info := { mode := .pure, own := false, cut := true, grow := [], keep := [], pairs := [] }
/-- internal/strconv.Itoa -/
def i61 : Info := { mode := .pure, own := false, cut := true, grow := [], keep := [], pairs := [] }
/-- (*strings.Builder).Grow -/
def i62 : Info := { mode := .loc, own := false, cut := true, grow := [], keep := [], pairs := [(3, [(4, 8), (4, 9)])] }
/-- (*strings.Builder).WriteString -/
def i63 : Info := { mode := .loc, own := false, cut := true, grow := [], keep := [], pairs := [] }
/-- (*strings.Builder).String -/
def i64 : Info := { mode := .loc, own := false, cut := true, grow := [], keep := [], pairs := [(1, [(4, 8), (4, 9)])] }
/-- customhouse/public.isName -/
def i65 : Info := { mode := .pure, own := false, cut := true, grow := [], keep := [(0, [0, 7, 8])], pairs := [] }
/-- customhouse/clock.Valid -/
def i66 : Info := { mode := .pure, own := false, cut := true, grow := [], keep := [(0, [1, 3, 8, 9, 10])], pairs := [] }
/-- customhouse/digest.Is -/
def i67 : Info := { mode := .pure, own := false, cut := true, grow := [], keep := [], pairs := [] }
/-- customhouse/public.place[customhouse/api.Authority,string] -/
def i68 : Info := { mode := .pure, own := false, cut := true, grow := [], keep := [], pairs := [] }
/-- customhouse/public.authorityName -/
def i69 : Info := { mode := .pure, own := false, cut := true, grow := [], keep := [], pairs := [] }
/-- customhouse/list.Proper -/
def i70 : Info := { mode := .pure, own := false, cut := true, grow := [], keep := [], pairs := [] }
/-- customhouse/public.place[customhouse/api.Entry,string] -/
def i71 : Info := { mode := .pure, own := false, cut := true, grow := [], keep := [], pairs := [] }
/-- customhouse/public.entryId -/
def i72 : Info := { mode := .pure, own := false, cut := true, grow := [], keep := [], pairs := [] }
/-- customhouse/public.within -/
def i73 : Info := { mode := .pure, own := false, cut := true, grow := [], keep := [], pairs := [] }
/-- customhouse/rewrite.Valid -/
def i74 : Info := { mode := .pure, own := false, cut := true, grow := [], keep := [(0, [1, 3, 37, 38, 39])], pairs := [] }
/-- customhouse/money.Valid -/
def i75 : Info := { mode := .pure, own := false, cut := true, grow := [], keep := [(0, [1, 5, 6, 19, 20, 21])], pairs := [] }
/-- customhouse/parts.Check -/
def i76 : Info := { mode := .pure, own := false, cut := true, grow := [], keep := [(0, [1, 2, 20, 21, 22]), (2, [2, 61, 62, 63])], pairs := [] }
/-- slices.IndexFunc[[]customhouse/api.Entry,customhouse/api.Entry] -/
def i77 : Info := { mode := .loc, own := false, cut := true, grow := [], keep := [(0, [0, 1, 7, 8])], pairs := [] }
/-- customhouse/trade.find[customhouse/api.Entry]$1 -/
def i78 : Info := { mode := .loc, own := false, cut := true, grow := [], keep := [], pairs := [(1, [(2, 3)])] }
/-- slices.IndexFunc[[]customhouse/api.Role,customhouse/api.Role] -/
def i79 : Info := { mode := .loc, own := false, cut := true, grow := [], keep := [(0, [0, 1, 7, 8])], pairs := [] }
/-- internal/strconv.FormatUint -/
def i80 : Info := { mode := .pure, own := false, cut := true, grow := [], keep := [], pairs := [] }
/-- math/bits.Mul -/
def i81 : Info := { mode := .pure, own := false, cut := true, grow := [], keep := [], pairs := [] }
/-- strings.HasPrefix -/
def i82 : Info := { mode := .pure, own := false, cut := true, grow := [], keep := [], pairs := [] }
/-- (*strings.Builder).Len -/
def i83 : Info := { mode := .loc, own := false, cut := true, grow := [], keep := [], pairs := [] }
/-- customhouse/clock.instant -/
def i84 : Info := { mode := .pure, own := false, cut := true, grow := [], keep := [], pairs := [] }
/-- customhouse/clock.two -/
def i85 : Info := { mode := .pure, own := false, cut := true, grow := [], keep := [], pairs := [] }
/-- customhouse/money.isCurrency -/
def i86 : Info := { mode := .pure, own := false, cut := true, grow := [], keep := [(0, [0, 7, 8])], pairs := [] }
/-- customhouse/money.isDay -/
def i87 : Info := { mode := .pure, own := false, cut := true, grow := [], keep := [], pairs := [] }
/-- customhouse/money.Find$1 -/
def i88 : Info := { mode := .loc, own := false, cut := true, grow := [], keep := [], pairs := [] }
/-- customhouse/money.best[customhouse/api.Rate] -/
def i89 : Info := { mode := .loc, own := false, cut := true, grow := [], keep := [(0, [1, 2, 6, 7, 10, 11, 12])], pairs := [] }
/-- customhouse/money.Find$2 -/
def i90 : Info := { mode := .pure, own := false, cut := true, grow := [], keep := [], pairs := [] }
/-- customhouse/ratio.Of$1 -/
def i91 : Info := { mode := .pure, own := false, cut := true, grow := [], keep := [], pairs := [] }
/-- strings.TrimPrefix -/
def i92 : Info := { mode := .pure, own := false, cut := true, grow := [], keep := [], pairs := [] }
/-- customhouse/ratio.lowest -/
def i93 : Info := { mode := .pure, own := false, cut := true, grow := [], keep := [], pairs := [] }
/-- customhouse/ratio.product -/
def i94 : Info := { mode := .pure, own := false, cut := true, grow := [], keep := [], pairs := [(2, [])] }
/-- (customhouse/ratio.operation).run -/
def i95 : Info := { mode := .pure, own := false, cut := true, grow := [], keep := [], pairs := [] }
/-- customhouse/natural.Is -/
def i96 : Info := { mode := .pure, own := false, cut := true, grow := [], keep := [], pairs := [] }
/-- customhouse/natural.Gcd -/
def i97 : Info := { mode := .pure, own := false, cut := true, grow := [], keep := [], pairs := [] }
/-- customhouse/natural.parse -/
def i98 : Info := { mode := .pure, own := false, cut := true, grow := [0], keep := [(0, [0, 3, 4])], pairs := [] }
/-- (customhouse/natural.number).div -/
def i99 : Info := { mode := .pure, own := false, cut := true, grow := [], keep := [(0, [3, 6, 7])], pairs := [(10, [(0, 3), (1, 3), (0, 5)]), (11, [(1, 2)])] }
/-- (customhouse/natural.number).text -/
def i100 : Info := { mode := .pure, own := false, cut := false, grow := [], keep := [(0, [1, 4])], pairs := [] }
/-- customhouse/natural.apply -/
def i101 : Info := { mode := .pure, own := false, cut := true, grow := [], keep := [], pairs := [] }
/-- (customhouse/natural.number).add -/
def i102 : Info := { mode := .pure, own := false, cut := true, grow := [0], keep := [(0, [1, 5, 6, 20, 21, 22])], pairs := [] }
/-- internal/strconv.Atoi -/
def i103 : Info := { mode := .pure, own := false, cut := true, grow := [], keep := [(0, [5, 6, 47, 48, 49])], pairs := [] }
/-- strconv.toError -/
def i104 : Info := { mode := .pure, own := false, cut := true, grow := [], keep := [], pairs := [] }
/-- customhouse/parts.open -/
def i105 : Info := { mode := .raw, own := false, cut := true, grow := [], keep := [(0, [4, 15, 45, 46, 47])], pairs := [(10, [])] }
/-- (*customhouse/parts.goods).total -/
def i106 : Info := { mode := .loc, own := false, cut := true, grow := [], keep := [], pairs := [] }
/-- (*customhouse/parts.goods).own -/
def i107 : Info := { mode := .loc, own := false, cut := true, grow := [], keep := [], pairs := [(1, [(3, 22), (7, 22), (9, 22), (13, 22), (17, 22), (18, 22)])] }
/-- (*customhouse/parts.goods).nothing -/
def i108 : Info := { mode := .loc, own := false, cut := true, grow := [], keep := [], pairs := [(1, [])] }
/-- customhouse/ratio.Div$1 -/
def i109 : Info := { mode := .pure, own := false, cut := true, grow := [], keep := [], pairs := [] }
/-- customhouse/tariff.Valid$1 -/
def i110 : Info := { mode := .loc, own := false, cut := true, grow := [], keep := [], pairs := [] }
/-- customhouse/tariff.identifier -/
def i111 : Info := { mode := .pure, own := false, cut := true, grow := [], keep := [], pairs := [] }
/-- customhouse/formula.Check -/
def i112 : Info := { mode := .pure, own := false, cut := true, grow := [], keep := [], pairs := [] }
/-- customhouse/fact.Valid -/
def i113 : Info := { mode := .pure, own := false, cut := true, grow := [], keep := [(0, [1, 3, 10, 11, 12])], pairs := [] }
/-- slices.ContainsFunc[[]customhouse/api.Line,customhouse/api.Line] -/
def i114 : Info := { mode := .loc, own := false, cut := true, grow := [], keep := [], pairs := [] }
/-- customhouse/formula.Holds$1 -/
def i115 : Info := { mode := .loc, own := false, cut := true, grow := [], keep := [], pairs := [(3, [(0, 4)]), (6, [])] }
/-- customhouse/fact.Index -/
def i116 : Info := { mode := .pure, own := false, cut := true, grow := [], keep := [], pairs := [] }
/-- slices.ContainsFunc[[]customhouse/api.Formula,customhouse/api.Formula] -/
def i117 : Info := { mode := .loc, own := false, cut := true, grow := [], keep := [], pairs := [] }
/-- customhouse/formula.Holds$1$1 -/
def i118 : Info := { mode := .loc, own := false, cut := true, grow := [], keep := [], pairs := [] }
/-- slices.IndexFunc[[]customhouse/api.Product,customhouse/api.Product] -/
def i119 : Info := { mode := .loc, own := false, cut := true, grow := [], keep := [(0, [0, 1, 7, 8])], pairs := [] }
/-- customhouse/trade.find[customhouse/api.Product]$1 -/
def i120 : Info := { mode := .loc, own := false, cut := true, grow := [], keep := [], pairs := [(1, [(2, 3)])] }
/-- customhouse/lexer.Lex -/
def i121 : Info := { mode := .pure, own := false, cut := true, grow := [0], keep := [(0, [0, 5, 6, 7])], pairs := [] }
/-- internal/strconv.FormatInt -/
def i122 : Info := { mode := .pure, own := false, cut := true, grow := [], keep := [], pairs := [] }
/-- (*strings.Builder).copyCheck -/
def i123 : Info := { mode := .loc, own := false, cut := true, grow := [], keep := [], pairs := [] }
/-- (*strings.Builder).grow -/
def i124 : Info := { mode := .loc, own := false, cut := true, grow := [], keep := [], pairs := [(0, [(4, 12), (8, 12), (4, 13), (8, 13)])] }
/-- strings.Trim -/
def i125 : Info := { mode := .pure, own := false, cut := true, grow := [], keep := [], pairs := [(4, [])] }
/-- slices.IndexFunc[[]customhouse/api.Authority,customhouse/api.Authority] -/
def i126 : Info := { mode := .loc, own := false, cut := true, grow := [], keep := [(0, [0, 1, 7, 8])], pairs := [] }
/-- customhouse/public.place[customhouse/api.Authority,string]$1 -/
def i127 : Info := { mode := .loc, own := false, cut := true, grow := [], keep := [], pairs := [(1, [(2, 3)])] }
/-- customhouse/list.Proper$1 -/
def i128 : Info := { mode := .pure, own := false, cut := true, grow := [], keep := [], pairs := [] }
/-- customhouse/script.Valid -/
def i129 : Info := { mode := .pure, own := false, cut := true, grow := [], keep := [(0, [1, 8, 9, 10])], pairs := [] }
/-- customhouse/list.identifier -/
def i130 : Info := { mode := .pure, own := false, cut := true, grow := [], keep := [], pairs := [] }
/-- slices.ContainsFunc[[]customhouse/api.Name,customhouse/api.Name] -/
def i131 : Info := { mode := .loc, own := false, cut := true, grow := [], keep := [], pairs := [] }
/-- customhouse/public.place[customhouse/api.Entry,string]$1 -/
def i132 : Info := { mode := .loc, own := false, cut := true, grow := [], keep := [], pairs := [(1, [(2, 3)])] }
/-- customhouse/rewrite.isCost -/
def i133 : Info := { mode := .pure, own := false, cut := true, grow := [], keep := [], pairs := [] }
/-- customhouse/rewrite.folded -/
def i134 : Info := { mode := .pure, own := false, cut := true, grow := [], keep := [], pairs := [] }
/-- customhouse/rewrite.isForm -/
def i135 : Info := { mode := .pure, own := false, cut := true, grow := [], keep := [], pairs := [] }
/-- customhouse/rewrite.checkDrops -/
def i136 : Info := { mode := .pure, own := false, cut := true, grow := [], keep := [(0, [0, 1, 5, 10, 11, 12])], pairs := [] }
/-- customhouse/money.Valid$1 -/
def i137 : Info := { mode := .pure, own := false, cut := true, grow := [], keep := [], pairs := [] }
/-- customhouse/parts.large -/
def i138 : Info := { mode := .pure, own := false, cut := true, grow := [], keep := [], pairs := [] }
/-- customhouse/money.Text -/
def i139 : Info := { mode := .pure, own := false, cut := true, grow := [], keep := [], pairs := [(3, [(1, 5)])] }
/-- customhouse/parts.odd -/
def i140 : Info := { mode := .pure, own := false, cut := true, grow := [], keep := [], pairs := [] }
/-- customhouse/parts.Order -/
def i141 : Info := { mode := .pure, own := false, cut := true, grow := [6], keep := [(0, [0, 4, 5, 20, 21, 22]), (2, [0, 4, 5, 8, 20, 21, 22, 35, 36, 37]), (4, [0, 4, 5, 50, 51, 52]), (6, [0, 13])], pairs := [(34, [])] }
/-- internal/strconv.small -/
def i142 : Info := { mode := .pure, own := false, cut := true, grow := [], keep := [], pairs := [] }
/-- internal/strconv.numDigits -/
def i143 : Info := { mode := .pure, own := false, cut := true, grow := [], keep := [], pairs := [] }
/-- internal/strconv.formatBase10 -/
def i144 : Info := { mode := .loc, own := false, cut := true, grow := [], keep := [(0, [0, 1, 4])], pairs := [(7, []), (8, []), (9, []), (10, []), (17, []), (18, []), (23, [])] }
/-- internal/strconv.formatBits -/
def i145 : Info := { mode := .pure, own := false, cut := true, grow := [], keep := [(0, [0, 1, 3, 4, 10, 11, 12, 13, 14, 15, 16]), (2, [0, 1, 3, 4, 10, 11, 12, 13, 17])], pairs := [] }
/-- math/bits.Mul32 -/
def i146 : Info := { mode := .pure, own := false, cut := true, grow := [], keep := [], pairs := [] }
/-- math/bits.Mul64 -/
def i147 : Info := { mode := .pure, own := false, cut := true, grow := [], keep := [], pairs := [] }
/-- internal/stringslite.HasPrefix -/
def i148 : Info := { mode := .pure, own := false, cut := true, grow := [], keep := [], pairs := [] }
/-- internal/stringslite.TrimPrefix -/
def i149 : Info := { mode := .pure, own := false, cut := true, grow := [], keep := [], pairs := [] }
/-- customhouse/ratio.products -/
def i150 : Info := { mode := .pure, own := false, cut := true, grow := [0], keep := [(0, [3, 8, 9, 10])], pairs := [] }
/-- (customhouse/natural.number).gcd -/
def i151 : Info := { mode := .pure, own := false, cut := true, grow := [], keep := [(0, [0, 1])], pairs := [] }
/-- strconv.ParseUint -/
def i152 : Info := { mode := .pure, own := false, cut := true, grow := [], keep := [], pairs := [] }
/-- (customhouse/natural.number).trim -/
def i153 : Info := { mode := .pure, own := false, cut := true, grow := [], keep := [(0, [0])], pairs := [] }
/-- slices.Backward[customhouse/natural.number,uint64] -/
def i154 : Info := { mode := .raw, own := false, cut := true, grow := [], keep := [], pairs := [] }
/-- (customhouse/natural.number).compare -/
def i155 : Info := { mode := .pure, own := false, cut := true, grow := [], keep := [(0, [3, 4])], pairs := [] }
/-- sort.Search -/
def i156 : Info := { mode := .loc, own := false, cut := true, grow := [], keep := [(0, [1, 5, 6])], pairs := [] }
/-- (customhouse/natural.number).div$1 -/
def i157 : Info := { mode := .loc, own := false, cut := true, grow := [], keep := [], pairs := [(1, [(0, 3), (3, 6), (5, 6)])] }
/-- (customhouse/natural.number).mul -/
def i158 : Info := { mode := .pure, own := false, cut := true, grow := [], keep := [(0, [1, 5, 18, 19, 20]), (2, [1, 5, 6, 7, 8, 18, 19, 20, 25, 26, 27])], pairs := [] }
/-- (customhouse/natural.number).sub -/
def i159 : Info := { mode := .pure, own := false, cut := true, grow := [], keep := [(0, [1, 5, 6, 13, 14, 15])], pairs := [] }
/-- internal/strconv.ParseInt -/
def i160 : Info := { mode := .pure, own := false, cut := true, grow := [], keep := [], pairs := [] }
/-- strconv.syntaxError -/
def i161 : Info := { mode := .pure, own := false, cut := true, grow := [], keep := [], pairs := [(1, [(2, 3)])] }
/-- strconv.rangeError -/
def i162 : Info := { mode := .pure, own := false, cut := true, grow := [], keep := [], pairs := [(1, [(2, 3)])] }
/-- strconv.baseError -/
def i163 : Info := { mode := .pure, own := false, cut := true, grow := [], keep := [], pairs := [] }
/-- strconv.bitSizeError -/
def i164 : Info := { mode := .pure, own := false, cut := true, grow := [], keep := [], pairs := [] }
/-- (*customhouse/parts.goods).total$1 -/
def i165 : Info := { mode := .loc, own := false, cut := true, grow := [], keep := [(0, [0, 1, 4, 6, 10, 11, 36, 37, 38])], pairs := [(10, [(0, 6), (2, 6)])] }
/-- (customhouse/parts.result).plus -/
def i166 : Info := { mode := .pure, own := false, cut := true, grow := [], keep := [], pairs := [] }
/-- customhouse/formula.large -/
def i167 : Info := { mode := .pure, own := false, cut := true, grow := [], keep := [], pairs := [] }
/-- customhouse/formula.first -/
def i168 : Info := { mode := .loc, own := false, cut := true, grow := [], keep := [(0, [1, 5, 12, 13, 14])], pairs := [] }
/-- customhouse/formula.Check$1 -/
def i169 : Info := { mode := .loc, own := false, cut := true, grow := [], keep := [], pairs := [] }
/-- customhouse/formula.formed -/
def i170 : Info := { mode := .pure, own := false, cut := true, grow := [], keep := [], pairs := [] }
/-- customhouse/fact.isName -/
def i171 : Info := { mode := .pure, own := false, cut := true, grow := [], keep := [(0, [0, 8, 9])], pairs := [] }
/-- slices.IndexFunc[[]customhouse/api.Fact,customhouse/api.Fact] -/
def i172 : Info := { mode := .loc, own := false, cut := true, grow := [], keep := [(0, [0, 1, 7, 8])], pairs := [] }
/-- customhouse/fact.Index$1 -/
def i173 : Info := { mode := .loc, own := false, cut := true, grow := [], keep := [], pairs := [] }
/-- slices.IndexFunc[[]customhouse/api.Formula,customhouse/api.Formula] -/
def i174 : Info := { mode := .loc, own := false, cut := true, grow := [], keep := [(0, [0, 1, 7, 8])], pairs := [] }
/-- customhouse/lexer.classes -/
def i175 : Info := { mode := .pure, own := false, cut := true, grow := [], keep := [], pairs := [] }
/-- (*customhouse/lexer.scanner).gap -/
def i176 : Info := { mode := .loc, own := false, cut := true, grow := [], keep := [(0, [0, 1])], pairs := [] }
/-- (*customhouse/lexer.scanner).next -/
def i177 : Info := { mode := .loc, own := false, cut := true, grow := [], keep := [], pairs := [] }
/-- strings.trimLeftByte -/
def i180 : Info := { mode := .pure, own := false, cut := true, grow := [], keep := [(0, [0, 1])], pairs := [] }
/-- strings.trimRightByte -/
def i181 : Info := { mode := .pure, own := false, cut := true, grow := [], keep := [(0, [0, 1])], pairs := [] }
/-- strings.makeASCIISet -/
def i182 : Info := { mode := .pure, own := false, cut := true, grow := [], keep := [(0, [0, 2, 4])], pairs := [] }
/-- strings.trimLeftASCII -/
def i183 : Info := { mode := .loc, own := false, cut := true, grow := [], keep := [(0, [0, 1])], pairs := [] }
/-- strings.trimRightASCII -/
def i184 : Info := { mode := .loc, own := false, cut := true, grow := [], keep := [(0, [0, 1])], pairs := [] }
/-- strings.trimLeftUnicode -/
def i185 : Info := { mode := .pure, own := false, cut := true, grow := [], keep := [(0, [0, 1])], pairs := [] }
/-- strings.trimRightUnicode -/
def i186 : Info := { mode := .pure, own := false, cut := true, grow := [], keep := [(0, [0, 1])], pairs := [] }
/-- customhouse/script.Letters -/
def i187 : Info := { mode := .pure, own := false, cut := false, grow := [], keep := [(0, [6, 7])], pairs := [(5, [(3, 4), (3, 6), (4, 8), (6, 8)])] }
/-- slices.IndexFunc[[]customhouse/api.Name,customhouse/api.Name] -/
def i188 : Info := { mode := .loc, own := false, cut := true, grow := [], keep := [(0, [0, 1, 7, 8])], pairs := [] }
/-- customhouse/script.Fold -/
def i189 : Info := { mode := .pure, own := false, cut := true, grow := [], keep := [], pairs := [] }
/-- slices.ContainsFunc[[]customhouse/api.Product,customhouse/api.Product] -/
def i190 : Info := { mode := .loc, own := false, cut := true, grow := [], keep := [], pairs := [] }
/-- customhouse/parts.large$1 -/
def i191 : Info := { mode := .pure, own := false, cut := true, grow := [], keep := [], pairs := [] }
/-- customhouse/parts.identifier -/
def i192 : Info := { mode := .pure, own := false, cut := true, grow := [], keep := [], pairs := [] }
/-- slices.ContainsFunc[[]customhouse/api.Component,customhouse/api.Component] -/
def i193 : Info := { mode := .loc, own := false, cut := true, grow := [], keep := [], pairs := [] }
/-- customhouse/parts.odd$1 -/
def i194 : Info := { mode := .pure, own := false, cut := true, grow := [], keep := [], pairs := [] }
/-- customhouse/parts.Order$1 -/
def i195 : Info := { mode := .loc, own := false, cut := true, grow := [], keep := [], pairs := [] }
/-- customhouse/parts.Order$2 -/
def i196 : Info := { mode := .loc, own := false, cut := true, grow := [], keep := [], pairs := [] }
/-- slices.Contains[[]string,string] -/
def i197 : Info := { mode := .pure, own := false, cut := true, grow := [], keep := [], pairs := [] }
/-- customhouse/parts.Order$2$1 -/
def i198 : Info := { mode := .loc, own := false, cut := true, grow := [], keep := [], pairs := [] }
/-- internal/strconv.log10Pow2 -/
def i199 : Info := { mode := .pure, own := false, cut := true, grow := [], keep := [], pairs := [] }
/-- math/bits.Len64 -/
def i200 : Info := { mode := .pure, own := false, cut := true, grow := [], keep := [], pairs := [] }
/-- internal/strconv.bool2[int] -/
def i201 : Info := { mode := .pure, own := false, cut := true, grow := [], keep := [], pairs := [] }
/-- internal/strconv.isPowerOfTwo -/
def i202 : Info := { mode := .pure, own := false, cut := true, grow := [], keep := [], pairs := [] }
/-- math/bits.TrailingZeros -/
def i203 : Info := { mode := .pure, own := false, cut := true, grow := [], keep := [], pairs := [] }
/-- customhouse/natural.Mul -/
def i204 : Info := { mode := .pure, own := false, cut := true, grow := [], keep := [], pairs := [] }
/-- internal/strconv.ParseUint -/
def i205 : Info := { mode := .pure, own := false, cut := true, grow := [], keep := [(3, [1, 8, 9, 10, 11, 12, 13, 99, 100, 101])], pairs := [] }
/-- slices.Backward[customhouse/natural.number,uint64]$1 -/
def i206 : Info := { mode := .loc, own := false, cut := true, grow := [], keep := [(0, [0, 1, 3])], pairs := [] }
/-- cmp.Compare[int] -/
def i207 : Info := { mode := .pure, own := false, cut := true, grow := [], keep := [], pairs := [] }
/-- cmp.Compare[uint64] -/
def i208 : Info := { mode := .pure, own := false, cut := true, grow := [], keep := [], pairs := [] }
/-- internal/stringslite.Clone -/
def i209 : Info := { mode := .pure, own := false, cut := true, grow := [], keep := [], pairs := [] }
/-- errors.New -/
def i210 : Info := { mode := .pure, own := false, cut := true, grow := [], keep := [], pairs := [] }
/-- customhouse/ratio.Add -/
def i211 : Info := { mode := .pure, own := false, cut := true, grow := [], keep := [], pairs := [] }
/-- customhouse/formula.Size -/
def i212 : Info := { mode := .pure, own := false, cut := true, grow := [], keep := [], pairs := [(5, [])] }
/-- customhouse/formula.identifier -/
def i213 : Info := { mode := .pure, own := false, cut := true, grow := [], keep := [], pairs := [] }
/-- customhouse/formula.key -/
def i214 : Info := { mode := .pure, own := false, cut := true, grow := [], keep := [], pairs := [] }
/-- customhouse/lexer.classes$1 -/
def i215 : Info := { mode := .loc, own := false, cut := true, grow := [], keep := [(0, [0, 1, 2, 5])], pairs := [] }
/-- (*customhouse/lexer.scanner).while -/
def i216 : Info := { mode := .loc, own := false, cut := true, grow := [], keep := [(0, [0, 1, 2])], pairs := [] }
/-- (*customhouse/lexer.scanner).at -/
def i217 : Info := { mode := .loc, own := false, cut := true, grow := [], keep := [], pairs := [(3, [])] }
/-- strings.IndexByte -/
def i218 : Info := { mode := .pure, own := false, cut := true, grow := [], keep := [], pairs := [] }
/-- strings.IndexAny -/
def i219 : Info := { mode := .pure, own := false, cut := true, grow := [], keep := [(0, [0, 6, 8]), (2, [1, 45])], pairs := [] }
/-- (*strings.asciiSet).contains -/
def i220 : Info := { mode := .loc, own := false, cut := true, grow := [], keep := [], pairs := [] }
/-- unicode/utf8.DecodeRuneInString -/
def i221 : Info := { mode := .pure, own := false, cut := true, grow := [], keep := [], pairs := [] }
/-- strings.ContainsRune -/
def i222 : Info := { mode := .pure, own := false, cut := true, grow := [], keep := [], pairs := [] }
/-- unicode/utf8.DecodeLastRuneInString -/
def i223 : Info := { mode := .pure, own := false, cut := true, grow := [], keep := [(0, [0, 4, 5, 6])], pairs := [] }
/-- customhouse/script.letters -/
def i224 : Info := { mode := .raw, own := false, cut := true, grow := [], keep := [], pairs := [] }
/-- strings.ToLower -/
def i225 : Info := { mode := .pure, own := false, cut := true, grow := [], keep := [(0, [0, 3, 4, 5]), (2, [0, 7, 8, 9])], pairs := [] }
/-- slices.IndexFunc[[]customhouse/api.Component,customhouse/api.Component] -/
def i226 : Info := { mode := .loc, own := false, cut := true, grow := [], keep := [(0, [0, 1, 7, 8])], pairs := [] }
/-- slices.Index[[]string,string] -/
def i227 : Info := { mode := .pure, own := false, cut := true, grow := [], keep := [(0, [0, 1, 7, 8])], pairs := [] }
/-- math/bits.TrailingZeros32 -/
def i228 : Info := { mode := .pure, own := false, cut := true, grow := [], keep := [], pairs := [] }
/-- math/bits.TrailingZeros64 -/
def i229 : Info := { mode := .pure, own := false, cut := true, grow := [], keep := [], pairs := [] }
/-- internal/strconv.lower -/
def i230 : Info := { mode := .pure, own := false, cut := true, grow := [], keep := [], pairs := [] }
/-- internal/strconv.underscoreOK -/
def i231 : Info := { mode := .pure, own := false, cut := true, grow := [], keep := [(0, [0, 3, 4, 5])], pairs := [] }
/-- cmp.isNaN[int] -/
def i232 : Info := { mode := .pure, own := false, cut := true, grow := [], keep := [], pairs := [] }
/-- cmp.isNaN[uint64] -/
def i233 : Info := { mode := .pure, own := false, cut := true, grow := [], keep := [], pairs := [] }
/-- customhouse/ratio.sum -/
def i234 : Info := { mode := .pure, own := false, cut := true, grow := [], keep := [], pairs := [(2, [])] }
/-- customhouse/formula.Size$1 -/
def i235 : Info := { mode := .loc, own := false, cut := true, grow := [], keep := [(0, [1, 4, 15, 16, 17])], pairs := [(1, [(2, 5)])] }
/-- internal/stringslite.IndexByte -/
def i236 : Info := { mode := .pure, own := false, cut := true, grow := [], keep := [], pairs := [] }
/-- strings.IndexRune -/
def i237 : Info := { mode := .pure, own := false, cut := true, grow := [], keep := [], pairs := [(6, []), (7, []), (14, []), (31, [])] }
/-- strings.shouldUseASCIISet -/
def i238 : Info := { mode := .pure, own := false, cut := true, grow := [], keep := [], pairs := [] }
/-- unicode/utf8.decodeRuneInStringSlow -/
def i239 : Info := { mode := .pure, own := false, cut := true, grow := [], keep := [], pairs := [] }
/-- unicode/utf8.RuneStart -/
def i240 : Info := { mode := .pure, own := false, cut := true, grow := [], keep := [], pairs := [] }
/-- customhouse/script.letters$1 -/
def i241 : Info := { mode := .loc, own := false, cut := true, grow := [], keep := [(0, [0, 1, 2, 4])], pairs := [] }
/-- customhouse/script.length -/
def i242 : Info := { mode := .pure, own := false, cut := true, grow := [], keep := [], pairs := [] }
/-- (*strings.Builder).WriteByte -/
def i243 : Info := { mode := .loc, own := false, cut := true, grow := [], keep := [], pairs := [] }
/-- strings.Map -/
def i244 : Info := { mode := .pure, own := false, cut := true, grow := [], keep := [(0, [0, 1, 5, 14]), (2, [0, 5, 68])], pairs := [] }
/-- unicode.ToLower -/
def i245 : Info := { mode := .pure, own := false, cut := true, grow := [], keep := [], pairs := [] }
/-- customhouse/natural.Compare -/
def i246 : Info := { mode := .pure, own := false, cut := true, grow := [], keep := [], pairs := [] }
/-- customhouse/natural.Sub -/
def i247 : Info := { mode := .pure, own := false, cut := true, grow := [], keep := [], pairs := [] }
/-- unicode/utf8.ValidRune -/
def i249 : Info := { mode := .pure, own := false, cut := true, grow := [], keep := [], pairs := [] }
/-- internal/bytealg.Cutover -/
def i250 : Info := { mode := .pure, own := false, cut := true, grow := [], keep := [], pairs := [] }
/-- customhouse/script.is -/
def i252 : Info := { mode := .pure, own := false, cut := true, grow := [], keep := [], pairs := [] }
/-- unicode/utf8.RuneLen -/
def i253 : Info := { mode := .pure, own := false, cut := true, grow := [], keep := [], pairs := [] }
/-- (*strings.Builder).WriteRune -/
def i254 : Info := { mode := .loc, own := false, cut := true, grow := [], keep := [], pairs := [] }
/-- (*strings.Builder).Cap -/
def i255 : Info := { mode := .loc, own := false, cut := true, grow := [], keep := [], pairs := [] }
/-- unicode.To -/
def i256 : Info := { mode := .pure, own := false, cut := true, grow := [], keep := [], pairs := [] }
/-- unicode/utf8.AppendRune -/
def i257 : Info := { mode := .pure, own := false, cut := true, grow := [], keep := [], pairs := [] }
/-- unicode.to -/
def i258 : Info := { mode := .pure, own := false, cut := true, grow := [], keep := [], pairs := [] }
/-- unicode/utf8.appendRuneNonASCII -/
def i259 : Info := { mode := .pure, own := false, cut := true, grow := [], keep := [], pairs := [] }
/-- unicode.lookupCaseRange -/
def i260 : Info := { mode := .pure, own := false, cut := true, grow := [], keep := [(0, [0, 1, 5, 6])], pairs := [] }
/-- unicode.convertCase -/
def i261 : Info := { mode := .pure, own := false, cut := true, grow := [], keep := [], pairs := [(3, [(4, 9), (3, 10), (4, 10), (3, 15), (4, 15), (9, 15), (10, 15)])] }
/-- gosem.cut.vars -/
def i292 : Info := { mode := .pure, own := false, cut := true, grow := [], keep := [], pairs := [] }

noncomputable def fnE (t : Nat) : Option FnE :=
  (bif Nat.blt t 130 then (bif Nat.blt t 66 then (bif Nat.blt t 34 then (bif Nat.blt t 18 then (bif Nat.blt t 10 then (bif Nat.blt t 6 then (bif Nat.blt t 4 then (bif Nat.blt t 3 then (bif Nat.beq t 2 then some (.go i2 Go.Proofs.Tryz.f2) else none) else (bif Nat.beq t 3 then some (.go i3 Go.Proofs.Tryz.f3) else none)) else (bif Nat.blt t 5 then (bif Nat.beq t 4 then some (.go i4 Go.Proofs.Tryz.f4) else none) else (bif Nat.beq t 5 then some (.go i5 Go.Proofs.Tryz.f5) else none))) else (bif Nat.blt t 8 then (bif Nat.blt t 7 then (bif Nat.beq t 6 then some (.go i6 Go.Proofs.Tryz.f6) else none) else (bif Nat.beq t 7 then some (.go i7 Go.Proofs.Tryz.f7) else none)) else (bif Nat.blt t 9 then (bif Nat.beq t 8 then some (.go i8 Go.Proofs.Tryz.f8) else none) else (bif Nat.beq t 9 then some (.go i9 Go.Proofs.Tryz.f9) else none)))) else (bif Nat.blt t 14 then (bif Nat.blt t 12 then (bif Nat.blt t 11 then (bif Nat.beq t 10 then some (.go i10 Go.Proofs.Tryz.f10) else none) else (bif Nat.beq t 11 then some (.go i11 Go.Proofs.Tryz.f11) else none)) else (bif Nat.blt t 13 then (bif Nat.beq t 12 then some (.go i12 Go.Proofs.Tryz.f12) else none) else (bif Nat.beq t 13 then some (.go i13 Go.Proofs.Tryz.f13) else none))) else (bif Nat.blt t 16 then (bif Nat.blt t 15 then (bif Nat.beq t 14 then some (.go i14 Go.Proofs.Tryz.f14) else none) else (bif Nat.beq t 15 then some (.go i15 Go.Proofs.Tryz.f15) else none)) else (bif Nat.blt t 17 then (bif Nat.beq t 16 then some (.go i16 Go.Proofs.Tryz.f16) else none) else (bif Nat.beq t 17 then some (.go i17 Go.Proofs.Tryz.f17) else none))))) else (bif Nat.blt t 26 then (bif Nat.blt t 22 then (bif Nat.blt t 20 then (bif Nat.blt t 19 then (bif Nat.beq t 18 then some (.go i18 Go.Proofs.Tryz.f18) else none) else (bif Nat.beq t 19 then some (.go i19 Go.Proofs.Tryz.f19) else none)) else (bif Nat.blt t 21 then (bif Nat.beq t 20 then some (.go i20 Go.Proofs.Tryz.f20) else none) else (bif Nat.beq t 21 then some (.go i21 Go.Proofs.Tryz.f21) else none))) else (bif Nat.blt t 24 then (bif Nat.blt t 23 then (bif Nat.beq t 22 then some (.go i22 Go.Proofs.Tryz.f22) else none) else (bif Nat.beq t 23 then some (.go i23 Go.Proofs.Tryz.f23) else none)) else (bif Nat.blt t 25 then (bif Nat.beq t 24 then some (.go i24 Go.Proofs.Tryz.f24) else none) else (bif Nat.beq t 25 then some (.go i25 Go.Proofs.Tryz.f25) else none)))) else (bif Nat.blt t 30 then (bif Nat.blt t 28 then (bif Nat.blt t 27 then (bif Nat.beq t 26 then some (.go i26 Go.Proofs.Tryz.f26) else none) else (bif Nat.beq t 27 then some (.go i27 Go.Proofs.Tryz.f27) else none)) else (bif Nat.blt t 29 then (bif Nat.beq t 28 then some (.go i28 Go.Proofs.Tryz.f28) else none) else (bif Nat.beq t 29 then some (.go i29 Go.Proofs.Tryz.f29) else none))) else (bif Nat.blt t 32 then (bif Nat.blt t 31 then (bif Nat.beq t 30 then some (.go i30 Go.Proofs.Tryz.f30) else none) else (bif Nat.beq t 31 then some (.go i31 Go.Proofs.Tryz.f31) else none)) else (bif Nat.blt t 33 then (bif Nat.beq t 32 then some (.go i32 Go.Proofs.Tryz.f32) else none) else (bif Nat.beq t 33 then some (.go i33 Go.Proofs.Tryz.f33) else none)))))) else (bif Nat.blt t 50 then (bif Nat.blt t 42 then (bif Nat.blt t 38 then (bif Nat.blt t 36 then (bif Nat.blt t 35 then (bif Nat.beq t 34 then some (.go i34 Go.Proofs.Tryz.f34) else none) else (bif Nat.beq t 35 then some (.go i35 Go.Proofs.Tryz.f35) else none)) else (bif Nat.blt t 37 then (bif Nat.beq t 36 then some (.go i36 Go.Proofs.Tryz.f36) else none) else (bif Nat.beq t 37 then some (.go i37 Go.Proofs.Tryz.f37) else none))) else (bif Nat.blt t 40 then (bif Nat.blt t 39 then (bif Nat.beq t 38 then some (.go i38 Go.Proofs.Tryz.f38) else none) else (bif Nat.beq t 39 then some (.go i39 Go.Proofs.Tryz.f39) else none)) else (bif Nat.blt t 41 then (bif Nat.beq t 40 then some (.go i40 Go.Proofs.Tryz.f40) else none) else (bif Nat.beq t 41 then some (.go i41 Go.Proofs.Tryz.f41) else none)))) else (bif Nat.blt t 46 then (bif Nat.blt t 44 then (bif Nat.blt t 43 then (bif Nat.beq t 42 then some (.go i42 Go.Proofs.Tryz.f42) else none) else (bif Nat.beq t 43 then some (.go i43 Go.Proofs.Tryz.f43) else none)) else (bif Nat.blt t 45 then (bif Nat.beq t 44 then some (.go i44 Go.Proofs.Tryz.f44) else none) else (bif Nat.beq t 45 then some (.go i45 Go.Proofs.Tryz.f45) else none))) else (bif Nat.blt t 48 then (bif Nat.blt t 47 then (bif Nat.beq t 46 then some (.go i46 Go.Proofs.Tryz.f46) else none) else (bif Nat.beq t 47 then some (.go i47 Go.Proofs.Tryz.f47) else none)) else (bif Nat.blt t 49 then (bif Nat.beq t 48 then some (.go i48 Go.Proofs.Tryz.f48) else none) else (bif Nat.beq t 49 then some (.go i49 Go.Proofs.Tryz.f49) else none))))) else (bif Nat.blt t 58 then (bif Nat.blt t 54 then (bif Nat.blt t 52 then (bif Nat.blt t 51 then (bif Nat.beq t 50 then some (.go i50 Go.Proofs.Tryz.f50) else none) else (bif Nat.beq t 51 then some (.go i51 Go.Proofs.Tryz.f51) else none)) else (bif Nat.blt t 53 then (bif Nat.beq t 52 then some (.go i52 Go.Proofs.Tryz.f52) else none) else (bif Nat.beq t 53 then some (.go i53 Go.Proofs.Tryz.f53) else none))) else (bif Nat.blt t 56 then (bif Nat.blt t 55 then (bif Nat.beq t 54 then some (.go i54 Go.Proofs.Tryz.f54) else none) else (bif Nat.beq t 55 then some (.go i55 Go.Proofs.Tryz.f55) else none)) else (bif Nat.blt t 57 then (bif Nat.beq t 56 then some (.go i56 Go.Proofs.Tryz.f56) else none) else (bif Nat.beq t 57 then some (.go i57 Go.Proofs.Tryz.f57) else none)))) else (bif Nat.blt t 62 then (bif Nat.blt t 60 then (bif Nat.blt t 59 then (bif Nat.beq t 58 then some (.go i58 Go.Proofs.Tryz.f58) else none) else (bif Nat.beq t 59 then some (.go i59 Go.Proofs.Tryz.f59) else none)) else (bif Nat.blt t 61 then (bif Nat.beq t 60 then some (.go i60 Go.Proofs.Tryz.f60) else none) else (bif Nat.beq t 61 then some (.go i61 Go.Proofs.Tryz.f61) else none))) else (bif Nat.blt t 64 then (bif Nat.blt t 63 then (bif Nat.beq t 62 then some (.go i62 Go.Proofs.Tryz.f62) else none) else (bif Nat.beq t 63 then some (.go i63 Go.Proofs.Tryz.f63) else none)) else (bif Nat.blt t 65 then (bif Nat.beq t 64 then some (.go i64 Go.Proofs.Tryz.f64) else none) else (bif Nat.beq t 65 then some (.go i65 Go.Proofs.Tryz.f65) else none))))))) else (bif Nat.blt t 98 then (bif Nat.blt t 82 then (bif Nat.blt t 74 then (bif Nat.blt t 70 then (bif Nat.blt t 68 then (bif Nat.blt t 67 then (bif Nat.beq t 66 then some (.go i66 Go.Proofs.Tryz.f66) else none) else (bif Nat.beq t 67 then some (.go i67 Go.Proofs.Tryz.f67) else none)) else (bif Nat.blt t 69 then (bif Nat.beq t 68 then some (.go i68 Go.Proofs.Tryz.f68) else none) else (bif Nat.beq t 69 then some (.go i69 Go.Proofs.Tryz.f69) else none))) else (bif Nat.blt t 72 then (bif Nat.blt t 71 then (bif Nat.beq t 70 then some (.go i70 Go.Proofs.Tryz.f70) else none) else (bif Nat.beq t 71 then some (.go i71 Go.Proofs.Tryz.f71) else none)) else (bif Nat.blt t 73 then (bif Nat.beq t 72 then some (.go i72 Go.Proofs.Tryz.f72) else none) else (bif Nat.beq t 73 then some (.go i73 Go.Proofs.Tryz.f73) else none)))) else (bif Nat.blt t 78 then (bif Nat.blt t 76 then (bif Nat.blt t 75 then (bif Nat.beq t 74 then some (.go i74 Go.Proofs.Tryz.f74) else none) else (bif Nat.beq t 75 then some (.go i75 Go.Proofs.Tryz.f75) else none)) else (bif Nat.blt t 77 then (bif Nat.beq t 76 then some (.go i76 Go.Proofs.Tryz.f76) else none) else (bif Nat.beq t 77 then some (.go i77 Go.Proofs.Tryz.f77) else none))) else (bif Nat.blt t 80 then (bif Nat.blt t 79 then (bif Nat.beq t 78 then some (.go i78 Go.Proofs.Tryz.f78) else none) else (bif Nat.beq t 79 then some (.go i79 Go.Proofs.Tryz.f79) else none)) else (bif Nat.blt t 81 then (bif Nat.beq t 80 then some (.go i80 Go.Proofs.Tryz.f80) else none) else (bif Nat.beq t 81 then some (.go i81 Go.Proofs.Tryz.f81) else none))))) else (bif Nat.blt t 90 then (bif Nat.blt t 86 then (bif Nat.blt t 84 then (bif Nat.blt t 83 then (bif Nat.beq t 82 then some (.go i82 Go.Proofs.Tryz.f82) else none) else (bif Nat.beq t 83 then some (.go i83 Go.Proofs.Tryz.f83) else none)) else (bif Nat.blt t 85 then (bif Nat.beq t 84 then some (.go i84 Go.Proofs.Tryz.f84) else none) else (bif Nat.beq t 85 then some (.go i85 Go.Proofs.Tryz.f85) else none))) else (bif Nat.blt t 88 then (bif Nat.blt t 87 then (bif Nat.beq t 86 then some (.go i86 Go.Proofs.Tryz.f86) else none) else (bif Nat.beq t 87 then some (.go i87 Go.Proofs.Tryz.f87) else none)) else (bif Nat.blt t 89 then (bif Nat.beq t 88 then some (.go i88 Go.Proofs.Tryz.f88) else none) else (bif Nat.beq t 89 then some (.go i89 Go.Proofs.Tryz.f89) else none)))) else (bif Nat.blt t 94 then (bif Nat.blt t 92 then (bif Nat.blt t 91 then (bif Nat.beq t 90 then some (.go i90 Go.Proofs.Tryz.f90) else none) else (bif Nat.beq t 91 then some (.go i91 Go.Proofs.Tryz.f91) else none)) else (bif Nat.blt t 93 then (bif Nat.beq t 92 then some (.go i92 Go.Proofs.Tryz.f92) else none) else (bif Nat.beq t 93 then some (.go i93 Go.Proofs.Tryz.f93) else none))) else (bif Nat.blt t 96 then (bif Nat.blt t 95 then (bif Nat.beq t 94 then some (.go i94 Go.Proofs.Tryz.f94) else none) else (bif Nat.beq t 95 then some (.go i95 Go.Proofs.Tryz.f95) else none)) else (bif Nat.blt t 97 then (bif Nat.beq t 96 then some (.go i96 Go.Proofs.Tryz.f96) else none) else (bif Nat.beq t 97 then some (.go i97 Go.Proofs.Tryz.f97) else none)))))) else (bif Nat.blt t 114 then (bif Nat.blt t 106 then (bif Nat.blt t 102 then (bif Nat.blt t 100 then (bif Nat.blt t 99 then (bif Nat.beq t 98 then some (.go i98 Go.Proofs.Tryz.f98) else none) else (bif Nat.beq t 99 then some (.go i99 Go.Proofs.Tryz.f99) else none)) else (bif Nat.blt t 101 then (bif Nat.beq t 100 then some (.go i100 Go.Proofs.Tryz.f100) else none) else (bif Nat.beq t 101 then some (.go i101 Go.Proofs.Tryz.f101) else none))) else (bif Nat.blt t 104 then (bif Nat.blt t 103 then (bif Nat.beq t 102 then some (.go i102 Go.Proofs.Tryz.f102) else none) else (bif Nat.beq t 103 then some (.go i103 Go.Proofs.Tryz.f103) else none)) else (bif Nat.blt t 105 then (bif Nat.beq t 104 then some (.go i104 Go.Proofs.Tryz.f104) else none) else (bif Nat.beq t 105 then some (.go i105 Go.Proofs.Tryz.f105) else none)))) else (bif Nat.blt t 110 then (bif Nat.blt t 108 then (bif Nat.blt t 107 then (bif Nat.beq t 106 then some (.go i106 Go.Proofs.Tryz.f106) else none) else (bif Nat.beq t 107 then some (.go i107 Go.Proofs.Tryz.f107) else none)) else (bif Nat.blt t 109 then (bif Nat.beq t 108 then some (.go i108 Go.Proofs.Tryz.f108) else none) else (bif Nat.beq t 109 then some (.go i109 Go.Proofs.Tryz.f109) else none))) else (bif Nat.blt t 112 then (bif Nat.blt t 111 then (bif Nat.beq t 110 then some (.go i110 Go.Proofs.Tryz.f110) else none) else (bif Nat.beq t 111 then some (.go i111 Go.Proofs.Tryz.f111) else none)) else (bif Nat.blt t 113 then (bif Nat.beq t 112 then some (.go i112 Go.Proofs.Tryz.f112) else none) else (bif Nat.beq t 113 then some (.go i113 Go.Proofs.Tryz.f113) else none))))) else (bif Nat.blt t 122 then (bif Nat.blt t 118 then (bif Nat.blt t 116 then (bif Nat.blt t 115 then (bif Nat.beq t 114 then some (.go i114 Go.Proofs.Tryz.f114) else none) else (bif Nat.beq t 115 then some (.go i115 Go.Proofs.Tryz.f115) else none)) else (bif Nat.blt t 117 then (bif Nat.beq t 116 then some (.go i116 Go.Proofs.Tryz.f116) else none) else (bif Nat.beq t 117 then some (.go i117 Go.Proofs.Tryz.f117) else none))) else (bif Nat.blt t 120 then (bif Nat.blt t 119 then (bif Nat.beq t 118 then some (.go i118 Go.Proofs.Tryz.f118) else none) else (bif Nat.beq t 119 then some (.go i119 Go.Proofs.Tryz.f119) else none)) else (bif Nat.blt t 121 then (bif Nat.beq t 120 then some (.go i120 Go.Proofs.Tryz.f120) else none) else (bif Nat.beq t 121 then some (.go i121 Go.Proofs.Tryz.f121) else none)))) else (bif Nat.blt t 126 then (bif Nat.blt t 124 then (bif Nat.blt t 123 then (bif Nat.beq t 122 then some (.go i122 Go.Proofs.Tryz.f122) else none) else (bif Nat.beq t 123 then some (.go i123 Go.Proofs.Tryz.f123) else none)) else (bif Nat.blt t 125 then (bif Nat.beq t 124 then some (.go i124 Go.Proofs.Tryz.f124) else none) else (bif Nat.beq t 125 then some (.go i125 Go.Proofs.Tryz.f125) else none))) else (bif Nat.blt t 128 then (bif Nat.blt t 127 then (bif Nat.beq t 126 then some (.go i126 Go.Proofs.Tryz.f126) else none) else (bif Nat.beq t 127 then some (.go i127 Go.Proofs.Tryz.f127) else none)) else (bif Nat.blt t 129 then (bif Nat.beq t 128 then some (.go i128 Go.Proofs.Tryz.f128) else none) else (bif Nat.beq t 129 then some (.go i129 Go.Proofs.Tryz.f129) else none)))))))) else (bif Nat.blt t 196 then (bif Nat.blt t 162 then (bif Nat.blt t 146 then (bif Nat.blt t 138 then (bif Nat.blt t 134 then (bif Nat.blt t 132 then (bif Nat.blt t 131 then (bif Nat.beq t 130 then some (.go i130 Go.Proofs.Tryz.f130) else none) else (bif Nat.beq t 131 then some (.go i131 Go.Proofs.Tryz.f131) else none)) else (bif Nat.blt t 133 then (bif Nat.beq t 132 then some (.go i132 Go.Proofs.Tryz.f132) else none) else (bif Nat.beq t 133 then some (.go i133 Go.Proofs.Tryz.f133) else none))) else (bif Nat.blt t 136 then (bif Nat.blt t 135 then (bif Nat.beq t 134 then some (.go i134 Go.Proofs.Tryz.f134) else none) else (bif Nat.beq t 135 then some (.go i135 Go.Proofs.Tryz.f135) else none)) else (bif Nat.blt t 137 then (bif Nat.beq t 136 then some (.go i136 Go.Proofs.Tryz.f136) else none) else (bif Nat.beq t 137 then some (.go i137 Go.Proofs.Tryz.f137) else none)))) else (bif Nat.blt t 142 then (bif Nat.blt t 140 then (bif Nat.blt t 139 then (bif Nat.beq t 138 then some (.go i138 Go.Proofs.Tryz.f138) else none) else (bif Nat.beq t 139 then some (.go i139 Go.Proofs.Tryz.f139) else none)) else (bif Nat.blt t 141 then (bif Nat.beq t 140 then some (.go i140 Go.Proofs.Tryz.f140) else none) else (bif Nat.beq t 141 then some (.go i141 Go.Proofs.Tryz.f141) else none))) else (bif Nat.blt t 144 then (bif Nat.blt t 143 then (bif Nat.beq t 142 then some (.go i142 Go.Proofs.Tryz.f142) else none) else (bif Nat.beq t 143 then some (.go i143 Go.Proofs.Tryz.f143) else none)) else (bif Nat.blt t 145 then (bif Nat.beq t 144 then some (.go i144 Go.Proofs.Tryz.f144) else none) else (bif Nat.beq t 145 then some (.go i145 Go.Proofs.Tryz.f145) else none))))) else (bif Nat.blt t 154 then (bif Nat.blt t 150 then (bif Nat.blt t 148 then (bif Nat.blt t 147 then (bif Nat.beq t 146 then some (.go i146 Go.Proofs.Tryz.f146) else none) else (bif Nat.beq t 147 then some (.go i147 Go.Proofs.Tryz.f147) else none)) else (bif Nat.blt t 149 then (bif Nat.beq t 148 then some (.go i148 Go.Proofs.Tryz.f148) else none) else (bif Nat.beq t 149 then some (.go i149 Go.Proofs.Tryz.f149) else none))) else (bif Nat.blt t 152 then (bif Nat.blt t 151 then (bif Nat.beq t 150 then some (.go i150 Go.Proofs.Tryz.f150) else none) else (bif Nat.beq t 151 then some (.go i151 Go.Proofs.Tryz.f151) else none)) else (bif Nat.blt t 153 then (bif Nat.beq t 152 then some (.go i152 Go.Proofs.Tryz.f152) else none) else (bif Nat.beq t 153 then some (.go i153 Go.Proofs.Tryz.f153) else none)))) else (bif Nat.blt t 158 then (bif Nat.blt t 156 then (bif Nat.blt t 155 then (bif Nat.beq t 154 then some (.go i154 Go.Proofs.Tryz.f154) else none) else (bif Nat.beq t 155 then some (.go i155 Go.Proofs.Tryz.f155) else none)) else (bif Nat.blt t 157 then (bif Nat.beq t 156 then some (.go i156 Go.Proofs.Tryz.f156) else none) else (bif Nat.beq t 157 then some (.go i157 Go.Proofs.Tryz.f157) else none))) else (bif Nat.blt t 160 then (bif Nat.blt t 159 then (bif Nat.beq t 158 then some (.go i158 Go.Proofs.Tryz.f158) else none) else (bif Nat.beq t 159 then some (.go i159 Go.Proofs.Tryz.f159) else none)) else (bif Nat.blt t 161 then (bif Nat.beq t 160 then some (.go i160 Go.Proofs.Tryz.f160) else none) else (bif Nat.beq t 161 then some (.go i161 Go.Proofs.Tryz.f161) else none)))))) else (bif Nat.blt t 180 then (bif Nat.blt t 170 then (bif Nat.blt t 166 then (bif Nat.blt t 164 then (bif Nat.blt t 163 then (bif Nat.beq t 162 then some (.go i162 Go.Proofs.Tryz.f162) else none) else (bif Nat.beq t 163 then some (.go i163 Go.Proofs.Tryz.f163) else none)) else (bif Nat.blt t 165 then (bif Nat.beq t 164 then some (.go i164 Go.Proofs.Tryz.f164) else none) else (bif Nat.beq t 165 then some (.go i165 Go.Proofs.Tryz.f165) else none))) else (bif Nat.blt t 168 then (bif Nat.blt t 167 then (bif Nat.beq t 166 then some (.go i166 Go.Proofs.Tryz.f166) else none) else (bif Nat.beq t 167 then some (.go i167 Go.Proofs.Tryz.f167) else none)) else (bif Nat.blt t 169 then (bif Nat.beq t 168 then some (.go i168 Go.Proofs.Tryz.f168) else none) else (bif Nat.beq t 169 then some (.go i169 Go.Proofs.Tryz.f169) else none)))) else (bif Nat.blt t 174 then (bif Nat.blt t 172 then (bif Nat.blt t 171 then (bif Nat.beq t 170 then some (.go i170 Go.Proofs.Tryz.f170) else none) else (bif Nat.beq t 171 then some (.go i171 Go.Proofs.Tryz.f171) else none)) else (bif Nat.blt t 173 then (bif Nat.beq t 172 then some (.go i172 Go.Proofs.Tryz.f172) else none) else (bif Nat.beq t 173 then some (.go i173 Go.Proofs.Tryz.f173) else none))) else (bif Nat.blt t 176 then (bif Nat.blt t 175 then (bif Nat.beq t 174 then some (.go i174 Go.Proofs.Tryz.f174) else none) else (bif Nat.beq t 175 then some (.go i175 Go.Proofs.Tryz.f175) else none)) else (bif Nat.blt t 177 then (bif Nat.beq t 176 then some (.go i176 Go.Proofs.Tryz.f176) else none) else (bif Nat.beq t 177 then some (.go i177 Go.Proofs.Tryz.f177) else none))))) else (bif Nat.blt t 188 then (bif Nat.blt t 184 then (bif Nat.blt t 182 then (bif Nat.blt t 181 then (bif Nat.beq t 180 then some (.go i180 Go.Proofs.Tryz.f180) else none) else (bif Nat.beq t 181 then some (.go i181 Go.Proofs.Tryz.f181) else none)) else (bif Nat.blt t 183 then (bif Nat.beq t 182 then some (.go i182 Go.Proofs.Tryz.f182) else none) else (bif Nat.beq t 183 then some (.go i183 Go.Proofs.Tryz.f183) else none))) else (bif Nat.blt t 186 then (bif Nat.blt t 185 then (bif Nat.beq t 184 then some (.go i184 Go.Proofs.Tryz.f184) else none) else (bif Nat.beq t 185 then some (.go i185 Go.Proofs.Tryz.f185) else none)) else (bif Nat.blt t 187 then (bif Nat.beq t 186 then some (.go i186 Go.Proofs.Tryz.f186) else none) else (bif Nat.beq t 187 then some (.go i187 Go.Proofs.Tryz.f187) else none)))) else (bif Nat.blt t 192 then (bif Nat.blt t 190 then (bif Nat.blt t 189 then (bif Nat.beq t 188 then some (.go i188 Go.Proofs.Tryz.f188) else none) else (bif Nat.beq t 189 then some (.go i189 Go.Proofs.Tryz.f189) else none)) else (bif Nat.blt t 191 then (bif Nat.beq t 190 then some (.go i190 Go.Proofs.Tryz.f190) else none) else (bif Nat.beq t 191 then some (.go i191 Go.Proofs.Tryz.f191) else none))) else (bif Nat.blt t 194 then (bif Nat.blt t 193 then (bif Nat.beq t 192 then some (.go i192 Go.Proofs.Tryz.f192) else none) else (bif Nat.beq t 193 then some (.go i193 Go.Proofs.Tryz.f193) else none)) else (bif Nat.blt t 195 then (bif Nat.beq t 194 then some (.go i194 Go.Proofs.Tryz.f194) else none) else (bif Nat.beq t 195 then some (.go i195 Go.Proofs.Tryz.f195) else none))))))) else (bif Nat.blt t 228 then (bif Nat.blt t 212 then (bif Nat.blt t 204 then (bif Nat.blt t 200 then (bif Nat.blt t 198 then (bif Nat.blt t 197 then (bif Nat.beq t 196 then some (.go i196 Go.Proofs.Tryz.f196) else none) else (bif Nat.beq t 197 then some (.go i197 Go.Proofs.Tryz.f197) else none)) else (bif Nat.blt t 199 then (bif Nat.beq t 198 then some (.go i198 Go.Proofs.Tryz.f198) else none) else (bif Nat.beq t 199 then some (.go i199 Go.Proofs.Tryz.f199) else none))) else (bif Nat.blt t 202 then (bif Nat.blt t 201 then (bif Nat.beq t 200 then some (.go i200 Go.Proofs.Tryz.f200) else none) else (bif Nat.beq t 201 then some (.go i201 Go.Proofs.Tryz.f201) else none)) else (bif Nat.blt t 203 then (bif Nat.beq t 202 then some (.go i202 Go.Proofs.Tryz.f202) else none) else (bif Nat.beq t 203 then some (.go i203 Go.Proofs.Tryz.f203) else none)))) else (bif Nat.blt t 208 then (bif Nat.blt t 206 then (bif Nat.blt t 205 then (bif Nat.beq t 204 then some (.go i204 Go.Proofs.Tryz.f204) else none) else (bif Nat.beq t 205 then some (.go i205 Go.Proofs.Tryz.f205) else none)) else (bif Nat.blt t 207 then (bif Nat.beq t 206 then some (.go i206 Go.Proofs.Tryz.f206) else none) else (bif Nat.beq t 207 then some (.go i207 Go.Proofs.Tryz.f207) else none))) else (bif Nat.blt t 210 then (bif Nat.blt t 209 then (bif Nat.beq t 208 then some (.go i208 Go.Proofs.Tryz.f208) else none) else (bif Nat.beq t 209 then some (.go i209 Go.Proofs.Tryz.f209) else none)) else (bif Nat.blt t 211 then (bif Nat.beq t 210 then some (.go i210 Go.Proofs.Tryz.f210) else none) else (bif Nat.beq t 211 then some (.go i211 Go.Proofs.Tryz.f211) else none))))) else (bif Nat.blt t 220 then (bif Nat.blt t 216 then (bif Nat.blt t 214 then (bif Nat.blt t 213 then (bif Nat.beq t 212 then some (.go i212 Go.Proofs.Tryz.f212) else none) else (bif Nat.beq t 213 then some (.go i213 Go.Proofs.Tryz.f213) else none)) else (bif Nat.blt t 215 then (bif Nat.beq t 214 then some (.go i214 Go.Proofs.Tryz.f214) else none) else (bif Nat.beq t 215 then some (.go i215 Go.Proofs.Tryz.f215) else none))) else (bif Nat.blt t 218 then (bif Nat.blt t 217 then (bif Nat.beq t 216 then some (.go i216 Go.Proofs.Tryz.f216) else none) else (bif Nat.beq t 217 then some (.go i217 Go.Proofs.Tryz.f217) else none)) else (bif Nat.blt t 219 then (bif Nat.beq t 218 then some (.go i218 Go.Proofs.Tryz.f218) else none) else (bif Nat.beq t 219 then some (.go i219 Go.Proofs.Tryz.f219) else none)))) else (bif Nat.blt t 224 then (bif Nat.blt t 222 then (bif Nat.blt t 221 then (bif Nat.beq t 220 then some (.go i220 Go.Proofs.Tryz.f220) else none) else (bif Nat.beq t 221 then some (.go i221 Go.Proofs.Tryz.f221) else none)) else (bif Nat.blt t 223 then (bif Nat.beq t 222 then some (.go i222 Go.Proofs.Tryz.f222) else none) else (bif Nat.beq t 223 then some (.go i223 Go.Proofs.Tryz.f223) else none))) else (bif Nat.blt t 226 then (bif Nat.blt t 225 then (bif Nat.beq t 224 then some (.go i224 Go.Proofs.Tryz.f224) else none) else (bif Nat.beq t 225 then some (.go i225 Go.Proofs.Tryz.f225) else none)) else (bif Nat.blt t 227 then (bif Nat.beq t 226 then some (.go i226 Go.Proofs.Tryz.f226) else none) else (bif Nat.beq t 227 then some (.go i227 Go.Proofs.Tryz.f227) else none)))))) else (bif Nat.blt t 244 then (bif Nat.blt t 236 then (bif Nat.blt t 232 then (bif Nat.blt t 230 then (bif Nat.blt t 229 then (bif Nat.beq t 228 then some (.go i228 Go.Proofs.Tryz.f228) else none) else (bif Nat.beq t 229 then some (.go i229 Go.Proofs.Tryz.f229) else none)) else (bif Nat.blt t 231 then (bif Nat.beq t 230 then some (.go i230 Go.Proofs.Tryz.f230) else none) else (bif Nat.beq t 231 then some (.go i231 Go.Proofs.Tryz.f231) else none))) else (bif Nat.blt t 234 then (bif Nat.blt t 233 then (bif Nat.beq t 232 then some (.go i232 Go.Proofs.Tryz.f232) else none) else (bif Nat.beq t 233 then some (.go i233 Go.Proofs.Tryz.f233) else none)) else (bif Nat.blt t 235 then (bif Nat.beq t 234 then some (.go i234 Go.Proofs.Tryz.f234) else none) else (bif Nat.beq t 235 then some (.go i235 Go.Proofs.Tryz.f235) else none)))) else (bif Nat.blt t 240 then (bif Nat.blt t 238 then (bif Nat.blt t 237 then (bif Nat.beq t 236 then some (.go i236 Go.Proofs.Tryz.f236) else none) else (bif Nat.beq t 237 then some (.go i237 Go.Proofs.Tryz.f237) else none)) else (bif Nat.blt t 239 then (bif Nat.beq t 238 then some (.go i238 Go.Proofs.Tryz.f238) else none) else (bif Nat.beq t 239 then some (.go i239 Go.Proofs.Tryz.f239) else none))) else (bif Nat.blt t 242 then (bif Nat.blt t 241 then (bif Nat.beq t 240 then some (.go i240 Go.Proofs.Tryz.f240) else none) else (bif Nat.beq t 241 then some (.go i241 Go.Proofs.Tryz.f241) else none)) else (bif Nat.blt t 243 then (bif Nat.beq t 242 then some (.go i242 Go.Proofs.Tryz.f242) else none) else (bif Nat.beq t 243 then some (.go i243 Go.Proofs.Tryz.f243) else none))))) else (bif Nat.blt t 254 then (bif Nat.blt t 249 then (bif Nat.blt t 246 then (bif Nat.blt t 245 then (bif Nat.beq t 244 then some (.go i244 Go.Proofs.Tryz.f244) else none) else (bif Nat.beq t 245 then some (.go i245 Go.Proofs.Tryz.f245) else none)) else (bif Nat.blt t 247 then (bif Nat.beq t 246 then some (.go i246 Go.Proofs.Tryz.f246) else none) else (bif Nat.beq t 247 then some (.go i247 Go.Proofs.Tryz.f247) else none))) else (bif Nat.blt t 252 then (bif Nat.blt t 250 then (bif Nat.beq t 249 then some (.go i249 Go.Proofs.Tryz.f249) else none) else (bif Nat.beq t 250 then some (.go i250 Go.Proofs.Tryz.f250) else none)) else (bif Nat.blt t 253 then (bif Nat.beq t 252 then some (.go i252 Go.Proofs.Tryz.f252) else none) else (bif Nat.beq t 253 then some (.go i253 Go.Proofs.Tryz.f253) else none)))) else (bif Nat.blt t 258 then (bif Nat.blt t 256 then (bif Nat.blt t 255 then (bif Nat.beq t 254 then some (.go i254 Go.Proofs.Tryz.f254) else none) else (bif Nat.beq t 255 then some (.go i255 Go.Proofs.Tryz.f255) else none)) else (bif Nat.blt t 257 then (bif Nat.beq t 256 then some (.go i256 Go.Proofs.Tryz.f256) else none) else (bif Nat.beq t 257 then some (.go i257 Go.Proofs.Tryz.f257) else none))) else (bif Nat.blt t 260 then (bif Nat.blt t 259 then (bif Nat.beq t 258 then some (.go i258 Go.Proofs.Tryz.f258) else none) else (bif Nat.beq t 259 then some (.go i259 Go.Proofs.Tryz.f259) else none)) else (bif Nat.blt t 261 then (bif Nat.beq t 260 then some (.go i260 Go.Proofs.Tryz.f260) else none) else (bif Nat.blt t 292 then (bif Nat.beq t 261 then some (.go i261 Go.Proofs.Tryz.f261) else none) else (bif Nat.beq t 292 then some (.go i292 Go.Proofs.Tryz.f292) else none))))))))))

end AmT

/-  -/
open Go AM
namespace AmT
set_option maxRecDepth 100000
theorem ok2 : fnOkF i2 Go.Proofs.Tryz.f2 = true := by decide +kernel
theorem ok3 : fnOkF i3 Go.Proofs.Tryz.f3 = true := by decide +kernel
theorem ok4 : fnOkF i4 Go.Proofs.Tryz.f4 = true := by decide +kernel
theorem ok5 : fnOkF i5 Go.Proofs.Tryz.f5 = true := by decide +kernel
theorem ok6 : fnOkF i6 Go.Proofs.Tryz.f6 = true := by decide +kernel
theorem ok7 : fnOkF i7 Go.Proofs.Tryz.f7 = true := by decide +kernel
theorem ok8 : fnOkF i8 Go.Proofs.Tryz.f8 = true := by decide +kernel
theorem ok9 : fnOkF i9 Go.Proofs.Tryz.f9 = true := by decide +kernel
theorem ok10 : fnOkF i10 Go.Proofs.Tryz.f10 = true := by decide +kernel
theorem ok11 : fnOkF i11 Go.Proofs.Tryz.f11 = true := by decide +kernel
theorem ok12 : fnOkF i12 Go.Proofs.Tryz.f12 = true := by decide +kernel
theorem ok13 : fnOkF i13 Go.Proofs.Tryz.f13 = true := by decide +kernel
theorem ok14 : fnOkF i14 Go.Proofs.Tryz.f14 = true := by decide +kernel
theorem ok15 : fnOkF i15 Go.Proofs.Tryz.f15 = true := by decide +kernel
theorem ok16 : fnOkF i16 Go.Proofs.Tryz.f16 = true := by decide +kernel
theorem ok17 : fnOkF i17 Go.Proofs.Tryz.f17 = true := by decide +kernel
theorem ok18 : fnOkF i18 Go.Proofs.Tryz.f18 = true := by decide +kernel
theorem ok19 : fnOkF i19 Go.Proofs.Tryz.f19 = true := by decide +kernel
theorem ok20 : fnOkF i20 Go.Proofs.Tryz.f20 = true := by decide +kernel
theorem ok21 : fnOkF i21 Go.Proofs.Tryz.f21 = true := by decide +kernel
theorem ok22 : fnOkF i22 Go.Proofs.Tryz.f22 = true := by decide +kernel
theorem ok23 : fnOkF i23 Go.Proofs.Tryz.f23 = true := by decide +kernel
theorem ok24 : fnOkF i24 Go.Proofs.Tryz.f24 = true := by decide +kernel
theorem ok25 : fnOkF i25 Go.Proofs.Tryz.f25 = true := by decide +kernel
theorem ok26 : fnOkF i26 Go.Proofs.Tryz.f26 = true := by decide +kernel
theorem ok27 : fnOkF i27 Go.Proofs.Tryz.f27 = true := by decide +kernel
theorem ok28 : fnOkF i28 Go.Proofs.Tryz.f28 = true := by decide +kernel
theorem ok29 : fnOkF i29 Go.Proofs.Tryz.f29 = true := by decide +kernel
theorem ok30 : fnOkF i30 Go.Proofs.Tryz.f30 = true := by decide +kernel
theorem ok31 : fnOkF i31 Go.Proofs.Tryz.f31 = true := by decide +kernel
theorem ok32 : fnOkF i32 Go.Proofs.Tryz.f32 = true := by decide +kernel
theorem ok33 : fnOkF i33 Go.Proofs.Tryz.f33 = true := by decide +kernel
theorem ok34 : fnOkF i34 Go.Proofs.Tryz.f34 = true := by decide +kernel
theorem ok35 : fnOkF i35 Go.Proofs.Tryz.f35 = true := by decide +kernel
theorem ok36 : fnOkF i36 Go.Proofs.Tryz.f36 = true := by decide +kernel
theorem ok37 : fnOkF i37 Go.Proofs.Tryz.f37 = true := by decide +kernel
theorem ok38 : fnOkF i38 Go.Proofs.Tryz.f38 = true := by decide +kernel
theorem ok39 : fnOkF i39 Go.Proofs.Tryz.f39 = true := by decide +kernel
theorem ok40 : fnOkF i40 Go.Proofs.Tryz.f40 = true := by decide +kernel
theorem ok41 : fnOkF i41 Go.Proofs.Tryz.f41 = true := by decide +kernel
theorem ok42 : fnOkF i42 Go.Proofs.Tryz.f42 = true := by decide +kernel
theorem ok43 : fnOkF i43 Go.Proofs.Tryz.f43 = true := by decide +kernel
theorem ok44 : fnOkF i44 Go.Proofs.Tryz.f44 = true := by decide +kernel
theorem ok45 : fnOkF i45 Go.Proofs.Tryz.f45 = true := by decide +kernel
theorem ok46 : fnOkF i46 Go.Proofs.Tryz.f46 = true := by decide +kernel
theorem ok47 : fnOkF i47 Go.Proofs.Tryz.f47 = true := by decide +kernel
theorem ok48 : fnOkF i48 Go.Proofs.Tryz.f48 = true := by decide +kernel
theorem ok49 : fnOkF i49 Go.Proofs.Tryz.f49 = true := by decide +kernel
theorem ok50 : fnOkF i50 Go.Proofs.Tryz.f50 = true := by decide +kernel
theorem ok51 : fnOkF i51 Go.Proofs.Tryz.f51 = true := by decide +kernel
theorem ok52 : fnOkF i52 Go.Proofs.Tryz.f52 = true := by decide +kernel
theorem ok53 : fnOkF i53 Go.Proofs.Tryz.f53 = true := by decide +kernel
theorem ok54 : fnOkF i54 Go.Proofs.Tryz.f54 = true := by decide +kernel
theorem ok55 : fnOkF i55 Go.Proofs.Tryz.f55 = true := by decide +kernel
theorem ok56 : fnOkF i56 Go.Proofs.Tryz.f56 = true := by decide +kernel
theorem ok57 : fnOkF i57 Go.Proofs.Tryz.f57 = true := by decide +kernel
theorem ok58 : fnOkF i58 Go.Proofs.Tryz.f58 = true := by decide +kernel
theorem ok59 : fnOkF i59 Go.Proofs.Tryz.f59 = true := by decide +kernel
theorem ok60 : fnOkF i60 Go.Proofs.Tryz.f60 = true := by decide +kernel
theorem ok61 : fnOkF i61 Go.Proofs.Tryz.f61 = true := by decide +kernel
theorem ok62 : fnOkF i62 Go.Proofs.Tryz.f62 = true := by decide +kernel
theorem ok63 : fnOkF i63 Go.Proofs.Tryz.f63 = true := by decide +kernel
theorem ok64 : fnOkF i64 Go.Proofs.Tryz.f64 = true := by decide +kernel
theorem ok65 : fnOkF i65 Go.Proofs.Tryz.f65 = true := by decide +kernel
theorem ok66 : fnOkF i66 Go.Proofs.Tryz.f66 = true := by decide +kernel
theorem ok67 : fnOkF i67 Go.Proofs.Tryz.f67 = true := by decide +kernel
theorem ok68 : fnOkF i68 Go.Proofs.Tryz.f68 = true := by decide +kernel
theorem ok69 : fnOkF i69 Go.Proofs.Tryz.f69 = true := by decide +kernel
theorem ok70 : fnOkF i70 Go.Proofs.Tryz.f70 = true := by decide +kernel
theorem ok71 : fnOkF i71 Go.Proofs.Tryz.f71 = true := by decide +kernel
theorem ok72 : fnOkF i72 Go.Proofs.Tryz.f72 = true := by decide +kernel
theorem ok73 : fnOkF i73 Go.Proofs.Tryz.f73 = true := by decide +kernel
theorem ok74 : fnOkF i74 Go.Proofs.Tryz.f74 = true := by decide +kernel
theorem ok75 : fnOkF i75 Go.Proofs.Tryz.f75 = true := by decide +kernel
theorem ok76 : fnOkF i76 Go.Proofs.Tryz.f76 = true := by decide +kernel
theorem ok77 : fnOkF i77 Go.Proofs.Tryz.f77 = true := by decide +kernel
theorem ok78 : fnOkF i78 Go.Proofs.Tryz.f78 = true := by decide +kernel
theorem ok79 : fnOkF i79 Go.Proofs.Tryz.f79 = true := by decide +kernel
theorem ok80 : fnOkF i80 Go.Proofs.Tryz.f80 = true := by decide +kernel
theorem ok81 : fnOkF i81 Go.Proofs.Tryz.f81 = true := by decide +kernel
theorem ok82 : fnOkF i82 Go.Proofs.Tryz.f82 = true := by decide +kernel
theorem ok83 : fnOkF i83 Go.Proofs.Tryz.f83 = true := by decide +kernel
theorem ok84 : fnOkF i84 Go.Proofs.Tryz.f84 = true := by decide +kernel
theorem ok85 : fnOkF i85 Go.Proofs.Tryz.f85 = true := by decide +kernel
theorem ok86 : fnOkF i86 Go.Proofs.Tryz.f86 = true := by decide +kernel
theorem ok87 : fnOkF i87 Go.Proofs.Tryz.f87 = true := by decide +kernel
theorem ok88 : fnOkF i88 Go.Proofs.Tryz.f88 = true := by decide +kernel
theorem ok89 : fnOkF i89 Go.Proofs.Tryz.f89 = true := by decide +kernel
theorem ok90 : fnOkF i90 Go.Proofs.Tryz.f90 = true := by decide +kernel
theorem ok91 : fnOkF i91 Go.Proofs.Tryz.f91 = true := by decide +kernel
theorem ok92 : fnOkF i92 Go.Proofs.Tryz.f92 = true := by decide +kernel
theorem ok93 : fnOkF i93 Go.Proofs.Tryz.f93 = true := by decide +kernel
theorem ok94 : fnOkF i94 Go.Proofs.Tryz.f94 = true := by decide +kernel
theorem ok95 : fnOkF i95 Go.Proofs.Tryz.f95 = true := by decide +kernel
theorem ok96 : fnOkF i96 Go.Proofs.Tryz.f96 = true := by decide +kernel
theorem ok97 : fnOkF i97 Go.Proofs.Tryz.f97 = true := by decide +kernel
theorem ok98 : fnOkF i98 Go.Proofs.Tryz.f98 = true := by decide +kernel
theorem ok99 : fnOkF i99 Go.Proofs.Tryz.f99 = true := by decide +kernel
theorem ok100 : fnOkF i100 Go.Proofs.Tryz.f100 = true := by decide +kernel
theorem ok101 : fnOkF i101 Go.Proofs.Tryz.f101 = true := by decide +kernel
theorem ok102 : fnOkF i102 Go.Proofs.Tryz.f102 = true := by decide +kernel
theorem ok103 : fnOkF i103 Go.Proofs.Tryz.f103 = true := by decide +kernel
theorem ok104 : fnOkF i104 Go.Proofs.Tryz.f104 = true := by decide +kernel
theorem ok105 : fnOkF i105 Go.Proofs.Tryz.f105 = true := by decide +kernel
theorem ok106 : fnOkF i106 Go.Proofs.Tryz.f106 = true := by decide +kernel
theorem ok107 : fnOkF i107 Go.Proofs.Tryz.f107 = true := by decide +kernel
theorem ok108 : fnOkF i108 Go.Proofs.Tryz.f108 = true := by decide +kernel
theorem ok109 : fnOkF i109 Go.Proofs.Tryz.f109 = true := by decide +kernel
theorem ok110 : fnOkF i110 Go.Proofs.Tryz.f110 = true := by decide +kernel
theorem ok111 : fnOkF i111 Go.Proofs.Tryz.f111 = true := by decide +kernel
theorem ok112 : fnOkF i112 Go.Proofs.Tryz.f112 = true := by decide +kernel
theorem ok113 : fnOkF i113 Go.Proofs.Tryz.f113 = true := by decide +kernel
theorem ok114 : fnOkF i114 Go.Proofs.Tryz.f114 = true := by decide +kernel
theorem ok115 : fnOkF i115 Go.Proofs.Tryz.f115 = true := by decide +kernel
theorem ok116 : fnOkF i116 Go.Proofs.Tryz.f116 = true := by decide +kernel
theorem ok117 : fnOkF i117 Go.Proofs.Tryz.f117 = true := by decide +kernel
theorem ok118 : fnOkF i118 Go.Proofs.Tryz.f118 = true := by decide +kernel
theorem ok119 : fnOkF i119 Go.Proofs.Tryz.f119 = true := by decide +kernel
theorem ok120 : fnOkF i120 Go.Proofs.Tryz.f120 = true := by decide +kernel
theorem ok121 : fnOkF i121 Go.Proofs.Tryz.f121 = true := by decide +kernel
theorem ok122 : fnOkF i122 Go.Proofs.Tryz.f122 = true := by decide +kernel
theorem ok123 : fnOkF i123 Go.Proofs.Tryz.f123 = true := by decide +kernel
theorem ok124 : fnOkF i124 Go.Proofs.Tryz.f124 = true := by decide +kernel
theorem ok125 : fnOkF i125 Go.Proofs.Tryz.f125 = true := by decide +kernel
theorem ok126 : fnOkF i126 Go.Proofs.Tryz.f126 = true := by decide +kernel
theorem ok127 : fnOkF i127 Go.Proofs.Tryz.f127 = true := by decide +kernel
theorem ok128 : fnOkF i128 Go.Proofs.Tryz.f128 = true := by decide +kernel
theorem ok129 : fnOkF i129 Go.Proofs.Tryz.f129 = true := by decide +kernel
theorem ok130 : fnOkF i130 Go.Proofs.Tryz.f130 = true := by decide +kernel
theorem ok131 : fnOkF i131 Go.Proofs.Tryz.f131 = true := by decide +kernel
theorem ok132 : fnOkF i132 Go.Proofs.Tryz.f132 = true := by decide +kernel
theorem ok133 : fnOkF i133 Go.Proofs.Tryz.f133 = true := by decide +kernel
theorem ok134 : fnOkF i134 Go.Proofs.Tryz.f134 = true := by decide +kernel
theorem ok135 : fnOkF i135 Go.Proofs.Tryz.f135 = true := by decide +kernel
theorem ok136 : fnOkF i136 Go.Proofs.Tryz.f136 = true := by decide +kernel
theorem ok137 : fnOkF i137 Go.Proofs.Tryz.f137 = true := by decide +kernel
theorem ok138 : fnOkF i138 Go.Proofs.Tryz.f138 = true := by decide +kernel
theorem ok139 : fnOkF i139 Go.Proofs.Tryz.f139 = true := by decide +kernel
theorem ok140 : fnOkF i140 Go.Proofs.Tryz.f140 = true := by decide +kernel
theorem ok141 : fnOkF i141 Go.Proofs.Tryz.f141 = true := by decide +kernel
theorem ok142 : fnOkF i142 Go.Proofs.Tryz.f142 = true := by decide +kernel
theorem ok143 : fnOkF i143 Go.Proofs.Tryz.f143 = true := by decide +kernel
theorem ok144 : fnOkF i144 Go.Proofs.Tryz.f144 = true := by decide +kernel
theorem ok145 : fnOkF i145 Go.Proofs.Tryz.f145 = true := by decide +kernel
theorem ok146 : fnOkF i146 Go.Proofs.Tryz.f146 = true := by decide +kernel
theorem ok147 : fnOkF i147 Go.Proofs.Tryz.f147 = true := by decide +kernel
theorem ok148 : fnOkF i148 Go.Proofs.Tryz.f148 = true := by decide +kernel
theorem ok149 : fnOkF i149 Go.Proofs.Tryz.f149 = true := by decide +kernel
theorem ok150 : fnOkF i150 Go.Proofs.Tryz.f150 = true := by decide +kernel
theorem ok151 : fnOkF i151 Go.Proofs.Tryz.f151 = true := by decide +kernel
theorem ok152 : fnOkF i152 Go.Proofs.Tryz.f152 = true := by decide +kernel
theorem ok153 : fnOkF i153 Go.Proofs.Tryz.f153 = true := by decide +kernel
theorem ok154 : fnOkF i154 Go.Proofs.Tryz.f154 = true := by decide +kernel
theorem ok155 : fnOkF i155 Go.Proofs.Tryz.f155 = true := by decide +kernel
theorem ok156 : fnOkF i156 Go.Proofs.Tryz.f156 = true := by decide +kernel
theorem ok157 : fnOkF i157 Go.Proofs.Tryz.f157 = true := by decide +kernel
theorem ok158 : fnOkF i158 Go.Proofs.Tryz.f158 = true := by decide +kernel
theorem ok159 : fnOkF i159 Go.Proofs.Tryz.f159 = true := by decide +kernel
theorem ok160 : fnOkF i160 Go.Proofs.Tryz.f160 = true := by decide +kernel
theorem ok161 : fnOkF i161 Go.Proofs.Tryz.f161 = true := by decide +kernel
theorem ok162 : fnOkF i162 Go.Proofs.Tryz.f162 = true := by decide +kernel
theorem ok163 : fnOkF i163 Go.Proofs.Tryz.f163 = true := by decide +kernel
theorem ok164 : fnOkF i164 Go.Proofs.Tryz.f164 = true := by decide +kernel
theorem ok165 : fnOkF i165 Go.Proofs.Tryz.f165 = true := by decide +kernel
theorem ok166 : fnOkF i166 Go.Proofs.Tryz.f166 = true := by decide +kernel
theorem ok167 : fnOkF i167 Go.Proofs.Tryz.f167 = true := by decide +kernel
theorem ok168 : fnOkF i168 Go.Proofs.Tryz.f168 = true := by decide +kernel
theorem ok169 : fnOkF i169 Go.Proofs.Tryz.f169 = true := by decide +kernel
theorem ok170 : fnOkF i170 Go.Proofs.Tryz.f170 = true := by decide +kernel
theorem ok171 : fnOkF i171 Go.Proofs.Tryz.f171 = true := by decide +kernel
theorem ok172 : fnOkF i172 Go.Proofs.Tryz.f172 = true := by decide +kernel
theorem ok173 : fnOkF i173 Go.Proofs.Tryz.f173 = true := by decide +kernel
theorem ok174 : fnOkF i174 Go.Proofs.Tryz.f174 = true := by decide +kernel
theorem ok175 : fnOkF i175 Go.Proofs.Tryz.f175 = true := by decide +kernel
theorem ok176 : fnOkF i176 Go.Proofs.Tryz.f176 = true := by decide +kernel
theorem ok177 : fnOkF i177 Go.Proofs.Tryz.f177 = true := by decide +kernel
theorem ok180 : fnOkF i180 Go.Proofs.Tryz.f180 = true := by decide +kernel
theorem ok181 : fnOkF i181 Go.Proofs.Tryz.f181 = true := by decide +kernel
theorem ok182 : fnOkF i182 Go.Proofs.Tryz.f182 = true := by decide +kernel
theorem ok183 : fnOkF i183 Go.Proofs.Tryz.f183 = true := by decide +kernel
theorem ok184 : fnOkF i184 Go.Proofs.Tryz.f184 = true := by decide +kernel
theorem ok185 : fnOkF i185 Go.Proofs.Tryz.f185 = true := by decide +kernel
theorem ok186 : fnOkF i186 Go.Proofs.Tryz.f186 = true := by decide +kernel
theorem ok187 : fnOkF i187 Go.Proofs.Tryz.f187 = true := by decide +kernel
theorem ok188 : fnOkF i188 Go.Proofs.Tryz.f188 = true := by decide +kernel
theorem ok189 : fnOkF i189 Go.Proofs.Tryz.f189 = true := by decide +kernel
theorem ok190 : fnOkF i190 Go.Proofs.Tryz.f190 = true := by decide +kernel
theorem ok191 : fnOkF i191 Go.Proofs.Tryz.f191 = true := by decide +kernel
theorem ok192 : fnOkF i192 Go.Proofs.Tryz.f192 = true := by decide +kernel
theorem ok193 : fnOkF i193 Go.Proofs.Tryz.f193 = true := by decide +kernel
theorem ok194 : fnOkF i194 Go.Proofs.Tryz.f194 = true := by decide +kernel
theorem ok195 : fnOkF i195 Go.Proofs.Tryz.f195 = true := by decide +kernel
theorem ok196 : fnOkF i196 Go.Proofs.Tryz.f196 = true := by decide +kernel
theorem ok197 : fnOkF i197 Go.Proofs.Tryz.f197 = true := by decide +kernel
theorem ok198 : fnOkF i198 Go.Proofs.Tryz.f198 = true := by decide +kernel
theorem ok199 : fnOkF i199 Go.Proofs.Tryz.f199 = true := by decide +kernel
theorem ok200 : fnOkF i200 Go.Proofs.Tryz.f200 = true := by decide +kernel
theorem ok201 : fnOkF i201 Go.Proofs.Tryz.f201 = true := by decide +kernel
theorem ok202 : fnOkF i202 Go.Proofs.Tryz.f202 = true := by decide +kernel
theorem ok203 : fnOkF i203 Go.Proofs.Tryz.f203 = true := by decide +kernel
theorem ok204 : fnOkF i204 Go.Proofs.Tryz.f204 = true := by decide +kernel
theorem ok205 : fnOkF i205 Go.Proofs.Tryz.f205 = true := by decide +kernel
theorem ok206 : fnOkF i206 Go.Proofs.Tryz.f206 = true := by decide +kernel
theorem ok207 : fnOkF i207 Go.Proofs.Tryz.f207 = true := by decide +kernel
theorem ok208 : fnOkF i208 Go.Proofs.Tryz.f208 = true := by decide +kernel
theorem ok209 : fnOkF i209 Go.Proofs.Tryz.f209 = true := by decide +kernel
theorem ok210 : fnOkF i210 Go.Proofs.Tryz.f210 = true := by decide +kernel
theorem ok211 : fnOkF i211 Go.Proofs.Tryz.f211 = true := by decide +kernel
theorem ok212 : fnOkF i212 Go.Proofs.Tryz.f212 = true := by decide +kernel
theorem ok213 : fnOkF i213 Go.Proofs.Tryz.f213 = true := by decide +kernel
theorem ok214 : fnOkF i214 Go.Proofs.Tryz.f214 = true := by decide +kernel
theorem ok215 : fnOkF i215 Go.Proofs.Tryz.f215 = true := by decide +kernel
theorem ok216 : fnOkF i216 Go.Proofs.Tryz.f216 = true := by decide +kernel
theorem ok217 : fnOkF i217 Go.Proofs.Tryz.f217 = true := by decide +kernel
theorem ok218 : fnOkF i218 Go.Proofs.Tryz.f218 = true := by decide +kernel
theorem ok219 : fnOkF i219 Go.Proofs.Tryz.f219 = true := by decide +kernel
theorem ok220 : fnOkF i220 Go.Proofs.Tryz.f220 = true := by decide +kernel
theorem ok221 : fnOkF i221 Go.Proofs.Tryz.f221 = true := by decide +kernel
theorem ok222 : fnOkF i222 Go.Proofs.Tryz.f222 = true := by decide +kernel
theorem ok223 : fnOkF i223 Go.Proofs.Tryz.f223 = true := by decide +kernel
theorem ok224 : fnOkF i224 Go.Proofs.Tryz.f224 = true := by decide +kernel
theorem ok225 : fnOkF i225 Go.Proofs.Tryz.f225 = true := by decide +kernel
theorem ok226 : fnOkF i226 Go.Proofs.Tryz.f226 = true := by decide +kernel
theorem ok227 : fnOkF i227 Go.Proofs.Tryz.f227 = true := by decide +kernel
theorem ok228 : fnOkF i228 Go.Proofs.Tryz.f228 = true := by decide +kernel
theorem ok229 : fnOkF i229 Go.Proofs.Tryz.f229 = true := by decide +kernel
theorem ok230 : fnOkF i230 Go.Proofs.Tryz.f230 = true := by decide +kernel
theorem ok231 : fnOkF i231 Go.Proofs.Tryz.f231 = true := by decide +kernel
theorem ok232 : fnOkF i232 Go.Proofs.Tryz.f232 = true := by decide +kernel
theorem ok233 : fnOkF i233 Go.Proofs.Tryz.f233 = true := by decide +kernel
theorem ok234 : fnOkF i234 Go.Proofs.Tryz.f234 = true := by decide +kernel
theorem ok235 : fnOkF i235 Go.Proofs.Tryz.f235 = true := by decide +kernel
theorem ok236 : fnOkF i236 Go.Proofs.Tryz.f236 = true := by decide +kernel
theorem ok237 : fnOkF i237 Go.Proofs.Tryz.f237 = true := by decide +kernel
theorem ok238 : fnOkF i238 Go.Proofs.Tryz.f238 = true := by decide +kernel
theorem ok239 : fnOkF i239 Go.Proofs.Tryz.f239 = true := by decide +kernel
theorem ok240 : fnOkF i240 Go.Proofs.Tryz.f240 = true := by decide +kernel
theorem ok241 : fnOkF i241 Go.Proofs.Tryz.f241 = true := by decide +kernel
theorem ok242 : fnOkF i242 Go.Proofs.Tryz.f242 = true := by decide +kernel
theorem ok243 : fnOkF i243 Go.Proofs.Tryz.f243 = true := by decide +kernel
theorem ok244 : fnOkF i244 Go.Proofs.Tryz.f244 = true := by decide +kernel
theorem ok245 : fnOkF i245 Go.Proofs.Tryz.f245 = true := by decide +kernel
theorem ok246 : fnOkF i246 Go.Proofs.Tryz.f246 = true := by decide +kernel
theorem ok247 : fnOkF i247 Go.Proofs.Tryz.f247 = true := by decide +kernel
theorem ok249 : fnOkF i249 Go.Proofs.Tryz.f249 = true := by decide +kernel
theorem ok250 : fnOkF i250 Go.Proofs.Tryz.f250 = true := by decide +kernel
theorem ok252 : fnOkF i252 Go.Proofs.Tryz.f252 = true := by decide +kernel
theorem ok253 : fnOkF i253 Go.Proofs.Tryz.f253 = true := by decide +kernel
theorem ok254 : fnOkF i254 Go.Proofs.Tryz.f254 = true := by decide +kernel
theorem ok255 : fnOkF i255 Go.Proofs.Tryz.f255 = true := by decide +kernel
theorem ok256 : fnOkF i256 Go.Proofs.Tryz.f256 = true := by decide +kernel
theorem ok257 : fnOkF i257 Go.Proofs.Tryz.f257 = true := by decide +kernel
theorem ok258 : fnOkF i258 Go.Proofs.Tryz.f258 = true := by decide +kernel
theorem ok259 : fnOkF i259 Go.Proofs.Tryz.f259 = true := by decide +kernel
theorem ok260 : fnOkF i260 Go.Proofs.Tryz.f260 = true := by decide +kernel
theorem ok261 : fnOkF i261 Go.Proofs.Tryz.f261 = true := by decide +kernel
theorem ok292 : fnOkF i292 Go.Proofs.Tryz.f292 = true := by decide +kernel
theorem td0 : tdAll Go.Proofs.Tryz.prog tdE 0 14 = true := by decide +kernel
theorem td14 : tdAll Go.Proofs.Tryz.prog tdE 14 14 = true := by decide +kernel
theorem td28 : tdAll Go.Proofs.Tryz.prog tdE 28 14 = true := by decide +kernel
theorem td42 : tdAll Go.Proofs.Tryz.prog tdE 42 14 = true := by decide +kernel
theorem td56 : tdAll Go.Proofs.Tryz.prog tdE 56 14 = true := by decide +kernel
theorem td70 : tdAll Go.Proofs.Tryz.prog tdE 70 14 = true := by decide +kernel
theorem td84 : tdAll Go.Proofs.Tryz.prog tdE 84 14 = true := by decide +kernel
theorem td98 : tdAll Go.Proofs.Tryz.prog tdE 98 14 = true := by decide +kernel
theorem td112 : tdAll Go.Proofs.Tryz.prog tdE 112 14 = true := by decide +kernel
theorem td126 : tdAll Go.Proofs.Tryz.prog tdE 126 14 = true := by decide +kernel
theorem td140 : tdAll Go.Proofs.Tryz.prog tdE 140 14 = true := by decide +kernel
theorem td154 : tdAll Go.Proofs.Tryz.prog tdE 154 14 = true := by decide +kernel
theorem td168 : tdAll Go.Proofs.Tryz.prog tdE 168 14 = true := by decide +kernel
theorem td182 : tdAll Go.Proofs.Tryz.prog tdE 182 14 = true := by decide +kernel
theorem td196 : tdAll Go.Proofs.Tryz.prog tdE 196 14 = true := by decide +kernel
theorem td210 : tdAll Go.Proofs.Tryz.prog tdE 210 14 = true := by decide +kernel
theorem td224 : tdAll Go.Proofs.Tryz.prog tdE 224 14 = true := by decide +kernel
theorem td238 : tdAll Go.Proofs.Tryz.prog tdE 238 14 = true := by decide +kernel
theorem td252 : tdAll Go.Proofs.Tryz.prog tdE 252 14 = true := by decide +kernel
theorem td266 : tdAll Go.Proofs.Tryz.prog tdE 266 14 = true := by decide +kernel
theorem td280 : tdAll Go.Proofs.Tryz.prog tdE 280 14 = true := by decide +kernel
theorem td294 : tdAll Go.Proofs.Tryz.prog tdE 294 14 = true := by decide +kernel
theorem td308 : tdAll Go.Proofs.Tryz.prog tdE 308 14 = true := by decide +kernel
theorem td322 : tdAll Go.Proofs.Tryz.prog tdE 322 14 = true := by decide +kernel
theorem td336 : tdAll Go.Proofs.Tryz.prog tdE 336 14 = true := by decide +kernel
theorem td350 : tdAll Go.Proofs.Tryz.prog tdE 350 14 = true := by decide +kernel
theorem td364 : tdAll Go.Proofs.Tryz.prog tdE 364 14 = true := by decide +kernel
theorem tdR : ∀ t d, upTo 378 tdE t = some d → TDR Go.Proofs.Tryz.prog t d := by
  intro t d h
  obtain ⟨h1, h2⟩ := upTo_some h
  by_cases c0 : t < 14
  · exact tdAll_spec 14 0 td0 t d (by omega) (by omega) h2
  by_cases c14 : t < 28
  · exact tdAll_spec 14 14 td14 t d (by omega) (by omega) h2
  by_cases c28 : t < 42
  · exact tdAll_spec 14 28 td28 t d (by omega) (by omega) h2
  by_cases c42 : t < 56
  · exact tdAll_spec 14 42 td42 t d (by omega) (by omega) h2
  by_cases c56 : t < 70
  · exact tdAll_spec 14 56 td56 t d (by omega) (by omega) h2
  by_cases c70 : t < 84
  · exact tdAll_spec 14 70 td70 t d (by omega) (by omega) h2
  by_cases c84 : t < 98
  · exact tdAll_spec 14 84 td84 t d (by omega) (by omega) h2
  by_cases c98 : t < 112
  · exact tdAll_spec 14 98 td98 t d (by omega) (by omega) h2
  by_cases c112 : t < 126
  · exact tdAll_spec 14 112 td112 t d (by omega) (by omega) h2
  by_cases c126 : t < 140
  · exact tdAll_spec 14 126 td126 t d (by omega) (by omega) h2
  by_cases c140 : t < 154
  · exact tdAll_spec 14 140 td140 t d (by omega) (by omega) h2
  by_cases c154 : t < 168
  · exact tdAll_spec 14 154 td154 t d (by omega) (by omega) h2
  by_cases c168 : t < 182
  · exact tdAll_spec 14 168 td168 t d (by omega) (by omega) h2
  by_cases c182 : t < 196
  · exact tdAll_spec 14 182 td182 t d (by omega) (by omega) h2
  by_cases c196 : t < 210
  · exact tdAll_spec 14 196 td196 t d (by omega) (by omega) h2
  by_cases c210 : t < 224
  · exact tdAll_spec 14 210 td210 t d (by omega) (by omega) h2
  by_cases c224 : t < 238
  · exact tdAll_spec 14 224 td224 t d (by omega) (by omega) h2
  by_cases c238 : t < 252
  · exact tdAll_spec 14 238 td238 t d (by omega) (by omega) h2
  by_cases c252 : t < 266
  · exact tdAll_spec 14 252 td252 t d (by omega) (by omega) h2
  by_cases c266 : t < 280
  · exact tdAll_spec 14 266 td266 t d (by omega) (by omega) h2
  by_cases c280 : t < 294
  · exact tdAll_spec 14 280 td280 t d (by omega) (by omega) h2
  by_cases c294 : t < 308
  · exact tdAll_spec 14 294 td294 t d (by omega) (by omega) h2
  by_cases c308 : t < 322
  · exact tdAll_spec 14 308 td308 t d (by omega) (by omega) h2
  by_cases c322 : t < 336
  · exact tdAll_spec 14 322 td322 t d (by omega) (by omega) h2
  by_cases c336 : t < 350
  · exact tdAll_spec 14 336 td336 t d (by omega) (by omega) h2
  by_cases c350 : t < 364
  · exact tdAll_spec 14 350 td350 t d (by omega) (by omega) h2
  by_cases c364 : t < 378
  · exact tdAll_spec 14 364 td364 t d (by omega) (by omega) h2
  omega
theorem fnR (g : Nat) : ∀ e, fnE g = some e → FnGood Go.Proofs.Tryz.prog g e :=
  (good_cond (good_cond (good_cond (good_cond (good_cond (good_cond (good_cond (good_cond (good_leaf ⟨Go.Proofs.Tryz.func2, ok2⟩ good_none) (good_leaf ⟨Go.Proofs.Tryz.func3, ok3⟩ good_none)) (good_cond (good_leaf ⟨Go.Proofs.Tryz.func4, ok4⟩ good_none) (good_leaf ⟨Go.Proofs.Tryz.func5, ok5⟩ good_none))) (good_cond (good_cond (good_leaf ⟨Go.Proofs.Tryz.func6, ok6⟩ good_none) (good_leaf ⟨Go.Proofs.Tryz.func7, ok7⟩ good_none)) (good_cond (good_leaf ⟨Go.Proofs.Tryz.func8, ok8⟩ good_none) (good_leaf ⟨Go.Proofs.Tryz.func9, ok9⟩ good_none)))) (good_cond (good_cond (good_cond (good_leaf ⟨Go.Proofs.Tryz.func10, ok10⟩ good_none) (good_leaf ⟨Go.Proofs.Tryz.func11, ok11⟩ good_none)) (good_cond (good_leaf ⟨Go.Proofs.Tryz.func12, ok12⟩ good_none) (good_leaf ⟨Go.Proofs.Tryz.func13, ok13⟩ good_none))) (good_cond (good_cond (good_leaf ⟨Go.Proofs.Tryz.func14, ok14⟩ good_none) (good_leaf ⟨Go.Proofs.Tryz.func15, ok15⟩ good_none)) (good_cond (good_leaf ⟨Go.Proofs.Tryz.func16, ok16⟩ good_none) (good_leaf ⟨Go.Proofs.Tryz.func17, ok17⟩ good_none))))) (good_cond (good_cond (good_cond (good_cond (good_leaf ⟨Go.Proofs.Tryz.func18, ok18⟩ good_none) (good_leaf ⟨Go.Proofs.Tryz.func19, ok19⟩ good_none)) (good_cond (good_leaf ⟨Go.Proofs.Tryz.func20, ok20⟩ good_none) (good_leaf ⟨Go.Proofs.Tryz.func21, ok21⟩ good_none))) (good_cond (good_cond (good_leaf ⟨Go.Proofs.Tryz.func22, ok22⟩ good_none) (good_leaf ⟨Go.Proofs.Tryz.func23, ok23⟩ good_none)) (good_cond (good_leaf ⟨Go.Proofs.Tryz.func24, ok24⟩ good_none) (good_leaf ⟨Go.Proofs.Tryz.func25, ok25⟩ good_none)))) (good_cond (good_cond (good_cond (good_leaf ⟨Go.Proofs.Tryz.func26, ok26⟩ good_none) (good_leaf ⟨Go.Proofs.Tryz.func27, ok27⟩ good_none)) (good_cond (good_leaf ⟨Go.Proofs.Tryz.func28, ok28⟩ good_none) (good_leaf ⟨Go.Proofs.Tryz.func29, ok29⟩ good_none))) (good_cond (good_cond (good_leaf ⟨Go.Proofs.Tryz.func30, ok30⟩ good_none) (good_leaf ⟨Go.Proofs.Tryz.func31, ok31⟩ good_none)) (good_cond (good_leaf ⟨Go.Proofs.Tryz.func32, ok32⟩ good_none) (good_leaf ⟨Go.Proofs.Tryz.func33, ok33⟩ good_none)))))) (good_cond (good_cond (good_cond (good_cond (good_cond (good_leaf ⟨Go.Proofs.Tryz.func34, ok34⟩ good_none) (good_leaf ⟨Go.Proofs.Tryz.func35, ok35⟩ good_none)) (good_cond (good_leaf ⟨Go.Proofs.Tryz.func36, ok36⟩ good_none) (good_leaf ⟨Go.Proofs.Tryz.func37, ok37⟩ good_none))) (good_cond (good_cond (good_leaf ⟨Go.Proofs.Tryz.func38, ok38⟩ good_none) (good_leaf ⟨Go.Proofs.Tryz.func39, ok39⟩ good_none)) (good_cond (good_leaf ⟨Go.Proofs.Tryz.func40, ok40⟩ good_none) (good_leaf ⟨Go.Proofs.Tryz.func41, ok41⟩ good_none)))) (good_cond (good_cond (good_cond (good_leaf ⟨Go.Proofs.Tryz.func42, ok42⟩ good_none) (good_leaf ⟨Go.Proofs.Tryz.func43, ok43⟩ good_none)) (good_cond (good_leaf ⟨Go.Proofs.Tryz.func44, ok44⟩ good_none) (good_leaf ⟨Go.Proofs.Tryz.func45, ok45⟩ good_none))) (good_cond (good_cond (good_leaf ⟨Go.Proofs.Tryz.func46, ok46⟩ good_none) (good_leaf ⟨Go.Proofs.Tryz.func47, ok47⟩ good_none)) (good_cond (good_leaf ⟨Go.Proofs.Tryz.func48, ok48⟩ good_none) (good_leaf ⟨Go.Proofs.Tryz.func49, ok49⟩ good_none))))) (good_cond (good_cond (good_cond (good_cond (good_leaf ⟨Go.Proofs.Tryz.func50, ok50⟩ good_none) (good_leaf ⟨Go.Proofs.Tryz.func51, ok51⟩ good_none)) (good_cond (good_leaf ⟨Go.Proofs.Tryz.func52, ok52⟩ good_none) (good_leaf ⟨Go.Proofs.Tryz.func53, ok53⟩ good_none))) (good_cond (good_cond (good_leaf ⟨Go.Proofs.Tryz.func54, ok54⟩ good_none) (good_leaf ⟨Go.Proofs.Tryz.func55, ok55⟩ good_none)) (good_cond (good_leaf ⟨Go.Proofs.Tryz.func56, ok56⟩ good_none) (good_leaf ⟨Go.Proofs.Tryz.func57, ok57⟩ good_none)))) (good_cond (good_cond (good_cond (good_leaf ⟨Go.Proofs.Tryz.func58, ok58⟩ good_none) (good_leaf ⟨Go.Proofs.Tryz.func59, ok59⟩ good_none)) (good_cond (good_leaf ⟨Go.Proofs.Tryz.func60, ok60⟩ good_none) (good_leaf ⟨Go.Proofs.Tryz.func61, ok61⟩ good_none))) (good_cond (good_cond (good_leaf ⟨Go.Proofs.Tryz.func62, ok62⟩ good_none) (good_leaf ⟨Go.Proofs.Tryz.func63, ok63⟩ good_none)) (good_cond (good_leaf ⟨Go.Proofs.Tryz.func64, ok64⟩ good_none) (good_leaf ⟨Go.Proofs.Tryz.func65, ok65⟩ good_none))))))) (good_cond (good_cond (good_cond (good_cond (good_cond (good_cond (good_leaf ⟨Go.Proofs.Tryz.func66, ok66⟩ good_none) (good_leaf ⟨Go.Proofs.Tryz.func67, ok67⟩ good_none)) (good_cond (good_leaf ⟨Go.Proofs.Tryz.func68, ok68⟩ good_none) (good_leaf ⟨Go.Proofs.Tryz.func69, ok69⟩ good_none))) (good_cond (good_cond (good_leaf ⟨Go.Proofs.Tryz.func70, ok70⟩ good_none) (good_leaf ⟨Go.Proofs.Tryz.func71, ok71⟩ good_none)) (good_cond (good_leaf ⟨Go.Proofs.Tryz.func72, ok72⟩ good_none) (good_leaf ⟨Go.Proofs.Tryz.func73, ok73⟩ good_none)))) (good_cond (good_cond (good_cond (good_leaf ⟨Go.Proofs.Tryz.func74, ok74⟩ good_none) (good_leaf ⟨Go.Proofs.Tryz.func75, ok75⟩ good_none)) (good_cond (good_leaf ⟨Go.Proofs.Tryz.func76, ok76⟩ good_none) (good_leaf ⟨Go.Proofs.Tryz.func77, ok77⟩ good_none))) (good_cond (good_cond (good_leaf ⟨Go.Proofs.Tryz.func78, ok78⟩ good_none) (good_leaf ⟨Go.Proofs.Tryz.func79, ok79⟩ good_none)) (good_cond (good_leaf ⟨Go.Proofs.Tryz.func80, ok80⟩ good_none) (good_leaf ⟨Go.Proofs.Tryz.func81, ok81⟩ good_none))))) (good_cond (good_cond (good_cond (good_cond (good_leaf ⟨Go.Proofs.Tryz.func82, ok82⟩ good_none) (good_leaf ⟨Go.Proofs.Tryz.func83, ok83⟩ good_none)) (good_cond (good_leaf ⟨Go.Proofs.Tryz.func84, ok84⟩ good_none) (good_leaf ⟨Go.Proofs.Tryz.func85, ok85⟩ good_none))) (good_cond (good_cond (good_leaf ⟨Go.Proofs.Tryz.func86, ok86⟩ good_none) (good_leaf ⟨Go.Proofs.Tryz.func87, ok87⟩ good_none)) (good_cond (good_leaf ⟨Go.Proofs.Tryz.func88, ok88⟩ good_none) (good_leaf ⟨Go.Proofs.Tryz.func89, ok89⟩ good_none)))) (good_cond (good_cond (good_cond (good_leaf ⟨Go.Proofs.Tryz.func90, ok90⟩ good_none) (good_leaf ⟨Go.Proofs.Tryz.func91, ok91⟩ good_none)) (good_cond (good_leaf ⟨Go.Proofs.Tryz.func92, ok92⟩ good_none) (good_leaf ⟨Go.Proofs.Tryz.func93, ok93⟩ good_none))) (good_cond (good_cond (good_leaf ⟨Go.Proofs.Tryz.func94, ok94⟩ good_none) (good_leaf ⟨Go.Proofs.Tryz.func95, ok95⟩ good_none)) (good_cond (good_leaf ⟨Go.Proofs.Tryz.func96, ok96⟩ good_none) (good_leaf ⟨Go.Proofs.Tryz.func97, ok97⟩ good_none)))))) (good_cond (good_cond (good_cond (good_cond (good_cond (good_leaf ⟨Go.Proofs.Tryz.func98, ok98⟩ good_none) (good_leaf ⟨Go.Proofs.Tryz.func99, ok99⟩ good_none)) (good_cond (good_leaf ⟨Go.Proofs.Tryz.func100, ok100⟩ good_none) (good_leaf ⟨Go.Proofs.Tryz.func101, ok101⟩ good_none))) (good_cond (good_cond (good_leaf ⟨Go.Proofs.Tryz.func102, ok102⟩ good_none) (good_leaf ⟨Go.Proofs.Tryz.func103, ok103⟩ good_none)) (good_cond (good_leaf ⟨Go.Proofs.Tryz.func104, ok104⟩ good_none) (good_leaf ⟨Go.Proofs.Tryz.func105, ok105⟩ good_none)))) (good_cond (good_cond (good_cond (good_leaf ⟨Go.Proofs.Tryz.func106, ok106⟩ good_none) (good_leaf ⟨Go.Proofs.Tryz.func107, ok107⟩ good_none)) (good_cond (good_leaf ⟨Go.Proofs.Tryz.func108, ok108⟩ good_none) (good_leaf ⟨Go.Proofs.Tryz.func109, ok109⟩ good_none))) (good_cond (good_cond (good_leaf ⟨Go.Proofs.Tryz.func110, ok110⟩ good_none) (good_leaf ⟨Go.Proofs.Tryz.func111, ok111⟩ good_none)) (good_cond (good_leaf ⟨Go.Proofs.Tryz.func112, ok112⟩ good_none) (good_leaf ⟨Go.Proofs.Tryz.func113, ok113⟩ good_none))))) (good_cond (good_cond (good_cond (good_cond (good_leaf ⟨Go.Proofs.Tryz.func114, ok114⟩ good_none) (good_leaf ⟨Go.Proofs.Tryz.func115, ok115⟩ good_none)) (good_cond (good_leaf ⟨Go.Proofs.Tryz.func116, ok116⟩ good_none) (good_leaf ⟨Go.Proofs.Tryz.func117, ok117⟩ good_none))) (good_cond (good_cond (good_leaf ⟨Go.Proofs.Tryz.func118, ok118⟩ good_none) (good_leaf ⟨Go.Proofs.Tryz.func119, ok119⟩ good_none)) (good_cond (good_leaf ⟨Go.Proofs.Tryz.func120, ok120⟩ good_none) (good_leaf ⟨Go.Proofs.Tryz.func121, ok121⟩ good_none)))) (good_cond (good_cond (good_cond (good_leaf ⟨Go.Proofs.Tryz.func122, ok122⟩ good_none) (good_leaf ⟨Go.Proofs.Tryz.func123, ok123⟩ good_none)) (good_cond (good_leaf ⟨Go.Proofs.Tryz.func124, ok124⟩ good_none) (good_leaf ⟨Go.Proofs.Tryz.func125, ok125⟩ good_none))) (good_cond (good_cond (good_leaf ⟨Go.Proofs.Tryz.func126, ok126⟩ good_none) (good_leaf ⟨Go.Proofs.Tryz.func127, ok127⟩ good_none)) (good_cond (good_leaf ⟨Go.Proofs.Tryz.func128, ok128⟩ good_none) (good_leaf ⟨Go.Proofs.Tryz.func129, ok129⟩ good_none)))))))) (good_cond (good_cond (good_cond (good_cond (good_cond (good_cond (good_cond (good_leaf ⟨Go.Proofs.Tryz.func130, ok130⟩ good_none) (good_leaf ⟨Go.Proofs.Tryz.func131, ok131⟩ good_none)) (good_cond (good_leaf ⟨Go.Proofs.Tryz.func132, ok132⟩ good_none) (good_leaf ⟨Go.Proofs.Tryz.func133, ok133⟩ good_none))) (good_cond (good_cond (good_leaf ⟨Go.Proofs.Tryz.func134, ok134⟩ good_none) (good_leaf ⟨Go.Proofs.Tryz.func135, ok135⟩ good_none)) (good_cond (good_leaf ⟨Go.Proofs.Tryz.func136, ok136⟩ good_none) (good_leaf ⟨Go.Proofs.Tryz.func137, ok137⟩ good_none)))) (good_cond (good_cond (good_cond (good_leaf ⟨Go.Proofs.Tryz.func138, ok138⟩ good_none) (good_leaf ⟨Go.Proofs.Tryz.func139, ok139⟩ good_none)) (good_cond (good_leaf ⟨Go.Proofs.Tryz.func140, ok140⟩ good_none) (good_leaf ⟨Go.Proofs.Tryz.func141, ok141⟩ good_none))) (good_cond (good_cond (good_leaf ⟨Go.Proofs.Tryz.func142, ok142⟩ good_none) (good_leaf ⟨Go.Proofs.Tryz.func143, ok143⟩ good_none)) (good_cond (good_leaf ⟨Go.Proofs.Tryz.func144, ok144⟩ good_none) (good_leaf ⟨Go.Proofs.Tryz.func145, ok145⟩ good_none))))) (good_cond (good_cond (good_cond (good_cond (good_leaf ⟨Go.Proofs.Tryz.func146, ok146⟩ good_none) (good_leaf ⟨Go.Proofs.Tryz.func147, ok147⟩ good_none)) (good_cond (good_leaf ⟨Go.Proofs.Tryz.func148, ok148⟩ good_none) (good_leaf ⟨Go.Proofs.Tryz.func149, ok149⟩ good_none))) (good_cond (good_cond (good_leaf ⟨Go.Proofs.Tryz.func150, ok150⟩ good_none) (good_leaf ⟨Go.Proofs.Tryz.func151, ok151⟩ good_none)) (good_cond (good_leaf ⟨Go.Proofs.Tryz.func152, ok152⟩ good_none) (good_leaf ⟨Go.Proofs.Tryz.func153, ok153⟩ good_none)))) (good_cond (good_cond (good_cond (good_leaf ⟨Go.Proofs.Tryz.func154, ok154⟩ good_none) (good_leaf ⟨Go.Proofs.Tryz.func155, ok155⟩ good_none)) (good_cond (good_leaf ⟨Go.Proofs.Tryz.func156, ok156⟩ good_none) (good_leaf ⟨Go.Proofs.Tryz.func157, ok157⟩ good_none))) (good_cond (good_cond (good_leaf ⟨Go.Proofs.Tryz.func158, ok158⟩ good_none) (good_leaf ⟨Go.Proofs.Tryz.func159, ok159⟩ good_none)) (good_cond (good_leaf ⟨Go.Proofs.Tryz.func160, ok160⟩ good_none) (good_leaf ⟨Go.Proofs.Tryz.func161, ok161⟩ good_none)))))) (good_cond (good_cond (good_cond (good_cond (good_cond (good_leaf ⟨Go.Proofs.Tryz.func162, ok162⟩ good_none) (good_leaf ⟨Go.Proofs.Tryz.func163, ok163⟩ good_none)) (good_cond (good_leaf ⟨Go.Proofs.Tryz.func164, ok164⟩ good_none) (good_leaf ⟨Go.Proofs.Tryz.func165, ok165⟩ good_none))) (good_cond (good_cond (good_leaf ⟨Go.Proofs.Tryz.func166, ok166⟩ good_none) (good_leaf ⟨Go.Proofs.Tryz.func167, ok167⟩ good_none)) (good_cond (good_leaf ⟨Go.Proofs.Tryz.func168, ok168⟩ good_none) (good_leaf ⟨Go.Proofs.Tryz.func169, ok169⟩ good_none)))) (good_cond (good_cond (good_cond (good_leaf ⟨Go.Proofs.Tryz.func170, ok170⟩ good_none) (good_leaf ⟨Go.Proofs.Tryz.func171, ok171⟩ good_none)) (good_cond (good_leaf ⟨Go.Proofs.Tryz.func172, ok172⟩ good_none) (good_leaf ⟨Go.Proofs.Tryz.func173, ok173⟩ good_none))) (good_cond (good_cond (good_leaf ⟨Go.Proofs.Tryz.func174, ok174⟩ good_none) (good_leaf ⟨Go.Proofs.Tryz.func175, ok175⟩ good_none)) (good_cond (good_leaf ⟨Go.Proofs.Tryz.func176, ok176⟩ good_none) (good_leaf ⟨Go.Proofs.Tryz.func177, ok177⟩ good_none))))) (good_cond (good_cond (good_cond (good_cond (good_leaf ⟨Go.Proofs.Tryz.func180, ok180⟩ good_none) (good_leaf ⟨Go.Proofs.Tryz.func181, ok181⟩ good_none)) (good_cond (good_leaf ⟨Go.Proofs.Tryz.func182, ok182⟩ good_none) (good_leaf ⟨Go.Proofs.Tryz.func183, ok183⟩ good_none))) (good_cond (good_cond (good_leaf ⟨Go.Proofs.Tryz.func184, ok184⟩ good_none) (good_leaf ⟨Go.Proofs.Tryz.func185, ok185⟩ good_none)) (good_cond (good_leaf ⟨Go.Proofs.Tryz.func186, ok186⟩ good_none) (good_leaf ⟨Go.Proofs.Tryz.func187, ok187⟩ good_none)))) (good_cond (good_cond (good_cond (good_leaf ⟨Go.Proofs.Tryz.func188, ok188⟩ good_none) (good_leaf ⟨Go.Proofs.Tryz.func189, ok189⟩ good_none)) (good_cond (good_leaf ⟨Go.Proofs.Tryz.func190, ok190⟩ good_none) (good_leaf ⟨Go.Proofs.Tryz.func191, ok191⟩ good_none))) (good_cond (good_cond (good_leaf ⟨Go.Proofs.Tryz.func192, ok192⟩ good_none) (good_leaf ⟨Go.Proofs.Tryz.func193, ok193⟩ good_none)) (good_cond (good_leaf ⟨Go.Proofs.Tryz.func194, ok194⟩ good_none) (good_leaf ⟨Go.Proofs.Tryz.func195, ok195⟩ good_none))))))) (good_cond (good_cond (good_cond (good_cond (good_cond (good_cond (good_leaf ⟨Go.Proofs.Tryz.func196, ok196⟩ good_none) (good_leaf ⟨Go.Proofs.Tryz.func197, ok197⟩ good_none)) (good_cond (good_leaf ⟨Go.Proofs.Tryz.func198, ok198⟩ good_none) (good_leaf ⟨Go.Proofs.Tryz.func199, ok199⟩ good_none))) (good_cond (good_cond (good_leaf ⟨Go.Proofs.Tryz.func200, ok200⟩ good_none) (good_leaf ⟨Go.Proofs.Tryz.func201, ok201⟩ good_none)) (good_cond (good_leaf ⟨Go.Proofs.Tryz.func202, ok202⟩ good_none) (good_leaf ⟨Go.Proofs.Tryz.func203, ok203⟩ good_none)))) (good_cond (good_cond (good_cond (good_leaf ⟨Go.Proofs.Tryz.func204, ok204⟩ good_none) (good_leaf ⟨Go.Proofs.Tryz.func205, ok205⟩ good_none)) (good_cond (good_leaf ⟨Go.Proofs.Tryz.func206, ok206⟩ good_none) (good_leaf ⟨Go.Proofs.Tryz.func207, ok207⟩ good_none))) (good_cond (good_cond (good_leaf ⟨Go.Proofs.Tryz.func208, ok208⟩ good_none) (good_leaf ⟨Go.Proofs.Tryz.func209, ok209⟩ good_none)) (good_cond (good_leaf ⟨Go.Proofs.Tryz.func210, ok210⟩ good_none) (good_leaf ⟨Go.Proofs.Tryz.func211, ok211⟩ good_none))))) (good_cond (good_cond (good_cond (good_cond (good_leaf ⟨Go.Proofs.Tryz.func212, ok212⟩ good_none) (good_leaf ⟨Go.Proofs.Tryz.func213, ok213⟩ good_none)) (good_cond (good_leaf ⟨Go.Proofs.Tryz.func214, ok214⟩ good_none) (good_leaf ⟨Go.Proofs.Tryz.func215, ok215⟩ good_none))) (good_cond (good_cond (good_leaf ⟨Go.Proofs.Tryz.func216, ok216⟩ good_none) (good_leaf ⟨Go.Proofs.Tryz.func217, ok217⟩ good_none)) (good_cond (good_leaf ⟨Go.Proofs.Tryz.func218, ok218⟩ good_none) (good_leaf ⟨Go.Proofs.Tryz.func219, ok219⟩ good_none)))) (good_cond (good_cond (good_cond (good_leaf ⟨Go.Proofs.Tryz.func220, ok220⟩ good_none) (good_leaf ⟨Go.Proofs.Tryz.func221, ok221⟩ good_none)) (good_cond (good_leaf ⟨Go.Proofs.Tryz.func222, ok222⟩ good_none) (good_leaf ⟨Go.Proofs.Tryz.func223, ok223⟩ good_none))) (good_cond (good_cond (good_leaf ⟨Go.Proofs.Tryz.func224, ok224⟩ good_none) (good_leaf ⟨Go.Proofs.Tryz.func225, ok225⟩ good_none)) (good_cond (good_leaf ⟨Go.Proofs.Tryz.func226, ok226⟩ good_none) (good_leaf ⟨Go.Proofs.Tryz.func227, ok227⟩ good_none)))))) (good_cond (good_cond (good_cond (good_cond (good_cond (good_leaf ⟨Go.Proofs.Tryz.func228, ok228⟩ good_none) (good_leaf ⟨Go.Proofs.Tryz.func229, ok229⟩ good_none)) (good_cond (good_leaf ⟨Go.Proofs.Tryz.func230, ok230⟩ good_none) (good_leaf ⟨Go.Proofs.Tryz.func231, ok231⟩ good_none))) (good_cond (good_cond (good_leaf ⟨Go.Proofs.Tryz.func232, ok232⟩ good_none) (good_leaf ⟨Go.Proofs.Tryz.func233, ok233⟩ good_none)) (good_cond (good_leaf ⟨Go.Proofs.Tryz.func234, ok234⟩ good_none) (good_leaf ⟨Go.Proofs.Tryz.func235, ok235⟩ good_none)))) (good_cond (good_cond (good_cond (good_leaf ⟨Go.Proofs.Tryz.func236, ok236⟩ good_none) (good_leaf ⟨Go.Proofs.Tryz.func237, ok237⟩ good_none)) (good_cond (good_leaf ⟨Go.Proofs.Tryz.func238, ok238⟩ good_none) (good_leaf ⟨Go.Proofs.Tryz.func239, ok239⟩ good_none))) (good_cond (good_cond (good_leaf ⟨Go.Proofs.Tryz.func240, ok240⟩ good_none) (good_leaf ⟨Go.Proofs.Tryz.func241, ok241⟩ good_none)) (good_cond (good_leaf ⟨Go.Proofs.Tryz.func242, ok242⟩ good_none) (good_leaf ⟨Go.Proofs.Tryz.func243, ok243⟩ good_none))))) (good_cond (good_cond (good_cond (good_cond (good_leaf ⟨Go.Proofs.Tryz.func244, ok244⟩ good_none) (good_leaf ⟨Go.Proofs.Tryz.func245, ok245⟩ good_none)) (good_cond (good_leaf ⟨Go.Proofs.Tryz.func246, ok246⟩ good_none) (good_leaf ⟨Go.Proofs.Tryz.func247, ok247⟩ good_none))) (good_cond (good_cond (good_leaf ⟨Go.Proofs.Tryz.func249, ok249⟩ good_none) (good_leaf ⟨Go.Proofs.Tryz.func250, ok250⟩ good_none)) (good_cond (good_leaf ⟨Go.Proofs.Tryz.func252, ok252⟩ good_none) (good_leaf ⟨Go.Proofs.Tryz.func253, ok253⟩ good_none)))) (good_cond (good_cond (good_cond (good_leaf ⟨Go.Proofs.Tryz.func254, ok254⟩ good_none) (good_leaf ⟨Go.Proofs.Tryz.func255, ok255⟩ good_none)) (good_cond (good_leaf ⟨Go.Proofs.Tryz.func256, ok256⟩ good_none) (good_leaf ⟨Go.Proofs.Tryz.func257, ok257⟩ good_none))) (good_cond (good_cond (good_leaf ⟨Go.Proofs.Tryz.func258, ok258⟩ good_none) (good_leaf ⟨Go.Proofs.Tryz.func259, ok259⟩ good_none)) (good_cond (good_leaf ⟨Go.Proofs.Tryz.func260, ok260⟩ good_none) (good_cond (good_leaf ⟨Go.Proofs.Tryz.func261, ok261⟩ good_none) (good_leaf ⟨Go.Proofs.Tryz.func292, ok292⟩ good_none))))))))))
theorem mixed : Go.Proofs.Tryz.prog.follows .mixedOrders = true := by decide +kernel
/-- the machine of this program, without loops over functions -/
noncomputable def env00 : Env := { ar := Ar.std, td := upTo 378 tdE, fn := fnE, iter := fun _ _ _ => none, post := fun _ _ _ _ => none, fin := fun _ _ _ => false }
theorem envR00 : EnvR Go.Proofs.Tryz.prog env00 := ⟨rfl, tdR⟩
theorem fnT00 : FnT Go.Proofs.Tryz.prog env00 := .of mixed (fun g e h => fnR g e h) (fun _ _ _ _ h => by cases h)
theorem simT00 : CallR Go.Proofs.Tryz.prog (callL env00) := sim envR00 fnT00
end AmT
