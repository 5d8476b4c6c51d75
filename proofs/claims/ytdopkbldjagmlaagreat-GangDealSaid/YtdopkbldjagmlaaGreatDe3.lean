/- Helper lemmas of this claim, part 3. -/
import Derived.Test.YtdopkbldjagmlaaGreatChecked
import Derived.ChangeSame
import Derived.JoinedOf
import Derived.ProofKit
import Derived.Handed
import Derived.Test.YtdopkbldjagmlaaGreatDe2
section
namespace Go.Proofs.YtdopkbldjagmlaaGreat
open Go.V
theorem wtAll : ((((((((boolT Tryz.prog 4 = true ∧ ifcT Tryz.prog 20 = true ∧ ifcT Tryz.prog 135 = true) ∧ ifcT Tryz.prog 205 = true ∧ zT Tryz.prog 1 = false ∧ szT Tryz.prog 1 = some (1, false)) ∧ (arT Tryz.prog 1 = none ∧ Program.concrete Tryz.prog 1 = true ∧
zT Tryz.prog 2 = false) ∧ (szT Tryz.prog 2 = some (1, false) ∧ arT Tryz.prog 2 = none) ∧ Program.concrete Tryz.prog 2 = true ∧ (Program.underlying Tryz.prog 2).isSome = true) ∧ ((intT Tryz.prog 2 = some .i64 ∧ elT Tryz.prog 2 = none ∧ azT Tryz.prog 2 = some (1, 1, [.int .i64 0])) ∧
zeroT Tryz.prog 2 = some [.int .i64 0] ∧ zT Tryz.prog 3 = false ∧ szT Tryz.prog 3 = some (1, false)) ∧ (arT Tryz.prog 3 = none ∧ Program.concrete Tryz.prog 3 = true ∧ (Program.underlying Tryz.prog 3).isSome = true) ∧ (intT Tryz.prog 3 = some .i64 ∧
elT Tryz.prog 3 = none) ∧ azT Tryz.prog 3 = some (1, 1, [.int .i64 0]) ∧ zeroT Tryz.prog 3 = some [.int .i64 0]) ∧ (((zT Tryz.prog 4 = false ∧ szT Tryz.prog 4 = some (1, false) ∧ arT Tryz.prog 4 = none) ∧ Program.concrete Tryz.prog 4 = true ∧ (Program.underlying Tryz.prog 4).isSome = true ∧
elT Tryz.prog 4 = none) ∧ (azT Tryz.prog 4 = some (1, 1, [.bool false]) ∧ zeroT Tryz.prog 4 = some [.bool false] ∧ zT Tryz.prog 5 = false) ∧ (szT Tryz.prog 5 = some (1, false) ∧ arT Tryz.prog 5 = none) ∧ Program.concrete Tryz.prog 5 = true ∧ (Program.underlying Tryz.prog 5).isSome = true) ∧
((intT Tryz.prog 5 = some .u8 ∧ elT Tryz.prog 5 = none ∧ azT Tryz.prog 5 = some (1, 1, [.int .u8 0])) ∧ zeroT Tryz.prog 5 = some [.int .u8 0] ∧ Program.concrete Tryz.prog 12 = true ∧ (Program.underlying Tryz.prog 12).isSome = true) ∧ (Program.concrete Tryz.prog 13 = true ∧
(Program.underlying Tryz.prog 13).isSome = true ∧ zT Tryz.prog 20 = false) ∧ (szT Tryz.prog 20 = some (1, false) ∧ arT Tryz.prog 20 = none) ∧ Program.concrete Tryz.prog 21 = true ∧ (Program.underlying Tryz.prog 21).isSome = true) ∧ ((((zT Tryz.prog 22 = false ∧
szT Tryz.prog 22 = some (1, false) ∧ arT Tryz.prog 22 = none) ∧ Program.concrete Tryz.prog 22 = true ∧ (Program.underlying Tryz.prog 22).isSome = true ∧ elT Tryz.prog 22 = some (4, true)) ∧ (elB Tryz.prog 22 = some (4, 32) ∧ bsT Tryz.prog 22 = some 4 ∧
mkT Tryz.prog 22 = some (4, 32, [.int .i64 0, .int .i64 0, .int .i64 0, .int .i64 0])) ∧ (azT Tryz.prog 22 = some (1, 1, [.slice none 0 0]) ∧ zeroT Tryz.prog 22 = some [.slice none 0 0]) ∧ zT Tryz.prog 23 = false ∧ szT Tryz.prog 23 = some (1, false)) ∧
((arT Tryz.prog 23 = none ∧ Program.concrete Tryz.prog 23 = true ∧ (Program.underlying Tryz.prog 23).isSome = true) ∧ elT Tryz.prog 23 = some (3, true) ∧ elB Tryz.prog 23 = some (3, 24) ∧ bsT Tryz.prog 23 = some 3) ∧ (mkT Tryz.prog 23 = some (3, 24, [.int .i64 0, .int .i64 0, .int .i64 0]) ∧
azT Tryz.prog 23 = some (1, 1, [.slice none 0 0]) ∧ zeroT Tryz.prog 23 = some [.slice none 0 0]) ∧ (zT Tryz.prog 24 = false ∧ szT Tryz.prog 24 = some (1, false)) ∧ arT Tryz.prog 24 = none ∧ Program.concrete Tryz.prog 24 = true) ∧ ((((Program.underlying Tryz.prog 24).isSome = true ∧
elT Tryz.prog 24 = some (1, false) ∧ elB Tryz.prog 24 = some (1, 8)) ∧ bsT Tryz.prog 24 = some 1 ∧ mkT Tryz.prog 24 = some (1, 8, [.int .i64 0]) ∧ azT Tryz.prog 24 = some (1, 1, [.slice none 0 0])) ∧ (zeroT Tryz.prog 24 = some [.slice none 0 0] ∧
zT Tryz.prog 25 = false ∧ szT Tryz.prog 25 = some (1, false)) ∧ (arT Tryz.prog 25 = none ∧ Program.concrete Tryz.prog 25 = true) ∧ (Program.underlying Tryz.prog 25).isSome = true ∧ elT Tryz.prog 25 = some (3, true)) ∧ ((elB Tryz.prog 25 = some (3, 24) ∧
bsT Tryz.prog 25 = some 3 ∧ mkT Tryz.prog 25 = some (3, 24, [.int .i64 0, .int .i64 0, .int .i64 0])) ∧ (azT Tryz.prog 25 = some (1, 1, [.slice none 0 0]) ∧ zeroT Tryz.prog 25 = some [.slice none 0 0]) ∧ Program.concrete Tryz.prog 26 = true ∧ (Program.underlying Tryz.prog 26).isSome = true) ∧
(zT Tryz.prog 27 = false ∧ szT Tryz.prog 27 = some (5, true) ∧ arT Tryz.prog 27 = none) ∧ (Program.concrete Tryz.prog 27 = true ∧ (Program.underlying Tryz.prog 27).isSome = true) ∧ elT Tryz.prog 27 = none ∧ azT Tryz.prog 27 = some (5, 1, [.int .i64 0, .int .i64 0, .int .i64 0, .slice none 0 0, .slice none 0 0])) ∧
(((((zeroT Tryz.prog 27 = some [.int .i64 0, .int .i64 0, .int .i64 0, .slice none 0 0, .slice none 0 0] ∧ bT Tryz.prog 27 = true ∧ fldT Tryz.prog 27 0 = some (0, 1, false)) ∧ fldT Tryz.prog 27 1 = some (1, 1, false) ∧ fldT Tryz.prog 27 2 = some (2, 1, false) ∧
fldT Tryz.prog 27 3 = some (3, 1, false)) ∧ (fldT Tryz.prog 27 4 = some (4, 1, false) ∧ Program.concrete Tryz.prog 28 = true ∧ (Program.underlying Tryz.prog 28).isSome = true) ∧ (zT Tryz.prog 29 = false ∧ szT Tryz.prog 29 = some (7, true)) ∧ arT Tryz.prog 29 = none ∧
Program.concrete Tryz.prog 29 = true) ∧ (((Program.underlying Tryz.prog 29).isSome = true ∧ elT Tryz.prog 29 = none ∧ azT Tryz.prog 29 = some (7, 1, [.slice none 0 0, .slice none 0 0, .int .i64 0, .int .i64 0, .int .i64 0, .slice none 0 0, .slice none 0 0])) ∧
zeroT Tryz.prog 29 = some [.slice none 0 0, .slice none 0 0, .int .i64 0, .int .i64 0, .int .i64 0, .slice none 0 0, .slice none 0 0] ∧ bT Tryz.prog 29 = true ∧ fldT Tryz.prog 29 0 = some (0, 1, false)) ∧ (fldT Tryz.prog 29 1 = some (1, 1, false) ∧
fldT Tryz.prog 29 2 = some (2, 5, true) ∧ zT Tryz.prog 30 = false) ∧ (szT Tryz.prog 30 = some (1, false) ∧ arT Tryz.prog 30 = none) ∧ Program.concrete Tryz.prog 30 = true ∧ Program.concrete Tryz.prog 31 = true) ∧ (((zT Tryz.prog 32 = false ∧ szT Tryz.prog 32 = some (1, false) ∧
arT Tryz.prog 32 = none) ∧ Program.concrete Tryz.prog 32 = true ∧ (Program.underlying Tryz.prog 32).isSome = true ∧ intT Tryz.prog 32 = some .i64) ∧ (elT Tryz.prog 32 = none ∧ azT Tryz.prog 32 = some (1, 1, [.int .i64 0]) ∧ zeroT Tryz.prog 32 = some [.int .i64 0]) ∧
(Program.concrete Tryz.prog 34 = true ∧ zT Tryz.prog 35 = false) ∧ szT Tryz.prog 35 = some (1, false) ∧ arT Tryz.prog 35 = none) ∧ ((Program.concrete Tryz.prog 35 = true ∧ (Program.underlying Tryz.prog 35).isSome = true ∧ elT Tryz.prog 35 = some (2, true)) ∧
(elB Tryz.prog 35 = some (2, 16) ∧ bsT Tryz.prog 35 = some 2) ∧ mkT Tryz.prog 35 = some (2, 16, [.int .i64 0, .int .i64 0]) ∧ azT Tryz.prog 35 = some (1, 1, [.slice none 0 0])) ∧ (zeroT Tryz.prog 35 = some [.slice none 0 0] ∧ Program.concrete Tryz.prog 37 = true ∧
Program.concrete Tryz.prog 38 = true) ∧ (Program.concrete Tryz.prog 39 = true ∧ zT Tryz.prog 40 = false) ∧ szT Tryz.prog 40 = some (1, false) ∧ arT Tryz.prog 40 = none) ∧ ((((Program.concrete Tryz.prog 40 = true ∧ Program.concrete Tryz.prog 42 = true ∧
Program.concrete Tryz.prog 43 = true) ∧ Program.concrete Tryz.prog 44 = true ∧ zT Tryz.prog 45 = false ∧ szT Tryz.prog 45 = some (1, false)) ∧ (arT Tryz.prog 45 = none ∧ Program.concrete Tryz.prog 45 = true ∧ Program.concrete Tryz.prog 47 = true) ∧
(Program.concrete Tryz.prog 48 = true ∧ zT Tryz.prog 49 = false) ∧ szT Tryz.prog 49 = some (1, false) ∧ arT Tryz.prog 49 = none) ∧ ((Program.concrete Tryz.prog 49 = true ∧ zT Tryz.prog 50 = false ∧ szT Tryz.prog 50 = some (1, false)) ∧ arT Tryz.prog 50 = none ∧
Program.concrete Tryz.prog 50 = true ∧ (Program.underlying Tryz.prog 50).isSome = true) ∧ (elT Tryz.prog 50 = some (1, false) ∧ elB Tryz.prog 50 = some (1, 1) ∧ bsT Tryz.prog 50 = some 1) ∧ (mkT Tryz.prog 50 = some (1, 1, [.int .u8 0]) ∧ azT Tryz.prog 50 = some (1, 1, [.slice none 0 0])) ∧
zeroT Tryz.prog 50 = some [.slice none 0 0] ∧ Program.concrete Tryz.prog 51 = true) ∧ (((zT Tryz.prog 52 = false ∧ szT Tryz.prog 52 = some (1, false) ∧ arT Tryz.prog 52 = none) ∧ Program.concrete Tryz.prog 52 = true ∧ Program.concrete Tryz.prog 53 = true ∧
zT Tryz.prog 54 = false) ∧ (szT Tryz.prog 54 = some (1, false) ∧ arT Tryz.prog 54 = none ∧ Program.concrete Tryz.prog 54 = true) ∧ (zT Tryz.prog 55 = false ∧ szT Tryz.prog 55 = some (1, false)) ∧ arT Tryz.prog 55 = none ∧ Program.concrete Tryz.prog 55 = true) ∧
((Program.concrete Tryz.prog 56 = true ∧ zT Tryz.prog 57 = false ∧ szT Tryz.prog 57 = some (1, false)) ∧ (arT Tryz.prog 57 = none ∧ Program.concrete Tryz.prog 57 = true) ∧ Program.concrete Tryz.prog 58 = true ∧ (Program.underlying Tryz.prog 58).isSome = true) ∧
(zT Tryz.prog 59 = false ∧ szT Tryz.prog 59 = some (2, true) ∧ arT Tryz.prog 59 = none) ∧ (Program.concrete Tryz.prog 59 = true ∧ (Program.underlying Tryz.prog 59).isSome = true) ∧ elT Tryz.prog 59 = none ∧ azT Tryz.prog 59 = some (2, 1, [.int .i64 0, .int .i64 0])) ∧
((((((zeroT Tryz.prog 59 = some [.int .i64 0, .int .i64 0] ∧ bT Tryz.prog 59 = true ∧ fldT Tryz.prog 59 0 = some (0, 1, false)) ∧ fldT Tryz.prog 59 1 = some (1, 1, false) ∧ Program.concrete Tryz.prog 60 = true ∧ Program.concrete Tryz.prog 61 = true) ∧
(zT Tryz.prog 62 = false ∧ szT Tryz.prog 62 = some (1, false) ∧ azT Tryz.prog 62 = some (1, 1, [.pointer none])) ∧ (arT Tryz.prog 62 = none ∧ Program.concrete Tryz.prog 62 = true) ∧ Program.concrete Tryz.prog 63 = true ∧ (Program.underlying Tryz.prog 63).isSome = true) ∧
((zT Tryz.prog 64 = false ∧ szT Tryz.prog 64 = some (8, true) ∧ arT Tryz.prog 64 = none) ∧ Program.concrete Tryz.prog 64 = true ∧ (Program.underlying Tryz.prog 64).isSome = true ∧ elT Tryz.prog 64 = none) ∧ (azT Tryz.prog 64 = some (8, 1, [.slice none 0 0, .slice none 0 0, .int .i64 0, .int .i64 0, .int .i64 0, .slice none 0 0, .slice none 0 0, .slice none 0 0]) ∧
zeroT Tryz.prog 64 = some [.slice none 0 0, .slice none 0 0, .int .i64 0, .int .i64 0, .int .i64 0, .slice none 0 0, .slice none 0 0, .slice none 0 0] ∧ bT Tryz.prog 64 = true) ∧ (fldT Tryz.prog 64 0 = some (0, 7, true) ∧ fldT Tryz.prog 64 1 = some (7, 1, false)) ∧
zT Tryz.prog 65 = false ∧ szT Tryz.prog 65 = some (1, false)) ∧ (((azT Tryz.prog 65 = some (1, 1, [.pointer none]) ∧ arT Tryz.prog 65 = none ∧ Program.concrete Tryz.prog 65 = true) ∧ Program.concrete Tryz.prog 66 = true ∧ zT Tryz.prog 67 = false ∧
szT Tryz.prog 67 = some (1, false)) ∧ (arT Tryz.prog 67 = none ∧ Program.concrete Tryz.prog 67 = true ∧ zT Tryz.prog 68 = false) ∧ (szT Tryz.prog 68 = some (1, false) ∧ arT Tryz.prog 68 = none) ∧ Program.concrete Tryz.prog 68 = true ∧ Program.concrete Tryz.prog 69 = true) ∧
((zT Tryz.prog 70 = false ∧ szT Tryz.prog 70 = some (1, false) ∧ arT Tryz.prog 70 = none) ∧ Program.concrete Tryz.prog 70 = true ∧ zT Tryz.prog 71 = false ∧ szT Tryz.prog 71 = some (1, false)) ∧ (arT Tryz.prog 71 = none ∧ Program.concrete Tryz.prog 71 = true ∧
zT Tryz.prog 72 = false) ∧ (szT Tryz.prog 72 = some (1, false) ∧ arT Tryz.prog 72 = none) ∧ Program.concrete Tryz.prog 72 = true ∧ Program.concrete Tryz.prog 73 = true) ∧ ((((zT Tryz.prog 74 = false ∧ szT Tryz.prog 74 = some (1, false) ∧ arT Tryz.prog 74 = none) ∧
Program.concrete Tryz.prog 74 = true ∧ zT Tryz.prog 75 = false ∧ szT Tryz.prog 75 = some (1, false)) ∧ (arT Tryz.prog 75 = none ∧ Program.concrete Tryz.prog 75 = true ∧ Program.concrete Tryz.prog 76 = true) ∧ (Program.concrete Tryz.prog 77 = true ∧
(Program.underlying Tryz.prog 77).isSome = true) ∧ zT Tryz.prog 78 = true ∧ szT Tryz.prog 78 = some (0, true)) ∧ ((arT Tryz.prog 78 = none ∧ Program.concrete Tryz.prog 78 = true ∧ (Program.underlying Tryz.prog 78).isSome = true) ∧ elT Tryz.prog 78 = none ∧
azT Tryz.prog 78 = some (0, 1, []) ∧ zeroT Tryz.prog 78 = some []) ∧ (bT Tryz.prog 78 = true ∧ zT Tryz.prog 79 = false ∧ szT Tryz.prog 79 = some (1, false)) ∧ (arT Tryz.prog 79 = none ∧ Program.concrete Tryz.prog 79 = true) ∧ (Program.underlying Tryz.prog 79).isSome = true ∧
intT Tryz.prog 79 = some .u64) ∧ (((elT Tryz.prog 79 = none ∧ azT Tryz.prog 79 = some (1, 1, [.int .u64 0]) ∧ zeroT Tryz.prog 79 = some [.int .u64 0]) ∧ zT Tryz.prog 80 = false ∧ szT Tryz.prog 80 = some (1, false) ∧ arT Tryz.prog 80 = none) ∧ (Program.concrete Tryz.prog 80 = true ∧
(Program.underlying Tryz.prog 80).isSome = true ∧ intT Tryz.prog 80 = some .u64) ∧ (elT Tryz.prog 80 = none ∧ azT Tryz.prog 80 = some (1, 1, [.int .u64 0])) ∧ zeroT Tryz.prog 80 = some [.int .u64 0] ∧ Program.concrete Tryz.prog 81 = true) ∧ (((Program.underlying Tryz.prog 81).isSome = true ∧
zT Tryz.prog 82 = false ∧ szT Tryz.prog 82 = some (2, true)) ∧ (arT Tryz.prog 82 = none ∧ Program.concrete Tryz.prog 82 = true) ∧ (Program.underlying Tryz.prog 82).isSome = true ∧ elT Tryz.prog 82 = none) ∧ (azT Tryz.prog 82 = some (2, 1, [.int .u64 0, .int .i64 0]) ∧
zeroT Tryz.prog 82 = some [.int .u64 0, .int .i64 0] ∧ bT Tryz.prog 82 = true) ∧ (fldT Tryz.prog 82 0 = some (0, 1, false) ∧ fldT Tryz.prog 82 1 = some (1, 1, false)) ∧ zT Tryz.prog 83 = true ∧ szT Tryz.prog 83 = some (0, true)) ∧ (((((arT Tryz.prog 83 = none ∧
Program.concrete Tryz.prog 83 = true ∧ (Program.underlying Tryz.prog 83).isSome = true) ∧ elT Tryz.prog 83 = none ∧ azT Tryz.prog 83 = some (0, 1, []) ∧ zeroT Tryz.prog 83 = some []) ∧ (bT Tryz.prog 83 = true ∧ zT Tryz.prog 84 = false ∧ szT Tryz.prog 84 = some (1, false)) ∧
(arT Tryz.prog 84 = none ∧ Program.concrete Tryz.prog 84 = true) ∧ zT Tryz.prog 85 = false ∧ szT Tryz.prog 85 = some (1, false)) ∧ ((arT Tryz.prog 85 = none ∧ Program.concrete Tryz.prog 85 = true ∧ Program.concrete Tryz.prog 86 = true) ∧ (Program.underlying Tryz.prog 86).isSome = true ∧
zT Tryz.prog 87 = false ∧ szT Tryz.prog 87 = some (3, true)) ∧ (arT Tryz.prog 87 = none ∧ Program.concrete Tryz.prog 87 = true ∧ (Program.underlying Tryz.prog 87).isSome = true) ∧ (elT Tryz.prog 87 = none ∧ azT Tryz.prog 87 = some (3, 1, [.int .i64 0, .int .i64 0, .int .i64 0])) ∧
zeroT Tryz.prog 87 = some [.int .i64 0, .int .i64 0, .int .i64 0] ∧ bT Tryz.prog 87 = true) ∧ (((fldT Tryz.prog 87 0 = some (0, 2, true) ∧ fldT Tryz.prog 87 1 = some (2, 1, false) ∧ Program.concrete Tryz.prog 88 = true) ∧ (Program.underlying Tryz.prog 88).isSome = true ∧
zT Tryz.prog 89 = false ∧ szT Tryz.prog 89 = some (4, true)) ∧ (arT Tryz.prog 89 = none ∧ Program.concrete Tryz.prog 89 = true ∧ (Program.underlying Tryz.prog 89).isSome = true) ∧ (elT Tryz.prog 89 = none ∧ azT Tryz.prog 89 = some (4, 1, [.int .i64 0, .int .i64 0, .int .i64 0, .int .i64 0])) ∧
zeroT Tryz.prog 89 = some [.int .i64 0, .int .i64 0, .int .i64 0, .int .i64 0] ∧ bT Tryz.prog 89 = true) ∧ ((fldT Tryz.prog 89 0 = some (0, 1, false) ∧ fldT Tryz.prog 89 1 = some (1, 1, false) ∧ fldT Tryz.prog 89 2 = some (2, 1, false)) ∧ (fldT Tryz.prog 89 3 = some (3, 1, false) ∧
zT Tryz.prog 90 = false) ∧ szT Tryz.prog 90 = some (1, false) ∧ arT Tryz.prog 90 = none) ∧ (Program.concrete Tryz.prog 90 = true ∧ Program.concrete Tryz.prog 91 = true ∧ zT Tryz.prog 92 = false) ∧ (szT Tryz.prog 92 = some (1, false) ∧ arT Tryz.prog 92 = none) ∧
Program.concrete Tryz.prog 92 = true ∧ zT Tryz.prog 93 = false) ∧ ((((szT Tryz.prog 93 = some (1, false) ∧ arT Tryz.prog 93 = none ∧ Program.concrete Tryz.prog 93 = true) ∧ Program.concrete Tryz.prog 94 = true ∧ zT Tryz.prog 95 = false ∧ szT Tryz.prog 95 = some (1, false)) ∧
(arT Tryz.prog 95 = none ∧ Program.concrete Tryz.prog 95 = true ∧ (Program.underlying Tryz.prog 95).isSome = true) ∧ (elT Tryz.prog 95 = some (1, false) ∧ elB Tryz.prog 95 = some (1, 24)) ∧ bsT Tryz.prog 95 = some 1 ∧ mkT Tryz.prog 95 = some (1, 24, [.slice none 0 0])) ∧
((azT Tryz.prog 95 = some (1, 1, [.slice none 0 0]) ∧ zeroT Tryz.prog 95 = some [.slice none 0 0] ∧ zT Tryz.prog 96 = false) ∧ szT Tryz.prog 96 = some (1, false) ∧ arT Tryz.prog 96 = none ∧ Program.concrete Tryz.prog 96 = true) ∧ (Program.concrete Tryz.prog 97 = true ∧
(Program.underlying Tryz.prog 97).isSome = true ∧ zT Tryz.prog 98 = false) ∧ (szT Tryz.prog 98 = some (32, true) ∧ Program.concrete Tryz.prog 98 = true) ∧ (Program.underlying Tryz.prog 98).isSome = true ∧ elT Tryz.prog 98 = none) ∧ (((arT Tryz.prog 98 = some (32, 1, false) ∧
azT Tryz.prog 98 = some (1, 32, [.int .i64 0]) ∧ zT Tryz.prog 99 = false) ∧ szT Tryz.prog 99 = some (1, false) ∧ arT Tryz.prog 99 = none ∧ Program.concrete Tryz.prog 99 = true) ∧ (zT Tryz.prog 100 = false ∧ szT Tryz.prog 100 = some (1, false) ∧
arT Tryz.prog 100 = none) ∧ (Program.concrete Tryz.prog 100 = true ∧ zT Tryz.prog 101 = false) ∧ szT Tryz.prog 101 = some (1, false) ∧ arT Tryz.prog 101 = none) ∧ ((Program.concrete Tryz.prog 101 = true ∧ Program.concrete Tryz.prog 102 = true ∧
Program.concrete Tryz.prog 103 = true) ∧ (zT Tryz.prog 104 = false ∧ szT Tryz.prog 104 = some (1, false)) ∧ arT Tryz.prog 104 = none ∧ Program.concrete Tryz.prog 104 = true) ∧ ((Program.underlying Tryz.prog 104).isSome = true ∧ elT Tryz.prog 104 = some (32, true) ∧
elB Tryz.prog 104 = some (32, 256)) ∧ (bsT Tryz.prog 104 = some 32 ∧ azT Tryz.prog 104 = some (1, 1, [.slice none 0 0])) ∧ zeroT Tryz.prog 104 = some [.slice none 0 0] ∧ Program.concrete Tryz.prog 105 = true) ∧ (((((((Program.concrete Tryz.prog 106 = true ∧
(Program.underlying Tryz.prog 106).isSome = true ∧ zT Tryz.prog 107 = false) ∧ szT Tryz.prog 107 = some (3, true) ∧ Program.concrete Tryz.prog 107 = true ∧ (Program.underlying Tryz.prog 107).isSome = true) ∧ (elT Tryz.prog 107 = none ∧ arT Tryz.prog 107 = some (3, 1, false) ∧
azT Tryz.prog 107 = some (1, 3, [.int .u64 0])) ∧ (zeroT Tryz.prog 107 = some [.int .u64 0, .int .u64 0, .int .u64 0] ∧ zT Tryz.prog 109 = false) ∧ szT Tryz.prog 109 = some (1, false) ∧ arT Tryz.prog 109 = none) ∧ ((Program.concrete Tryz.prog 109 = true ∧
zT Tryz.prog 110 = false ∧ szT Tryz.prog 110 = some (1, false)) ∧ arT Tryz.prog 110 = none ∧ Program.concrete Tryz.prog 110 = true ∧ Program.concrete Tryz.prog 112 = true) ∧ (zT Tryz.prog 113 = false ∧ szT Tryz.prog 113 = some (1, false) ∧ arT Tryz.prog 113 = none) ∧
(Program.concrete Tryz.prog 113 = true ∧ Program.concrete Tryz.prog 114 = true) ∧ Program.concrete Tryz.prog 115 = true ∧ zT Tryz.prog 116 = false) ∧ (((szT Tryz.prog 116 = some (1, false) ∧ arT Tryz.prog 116 = none ∧ Program.concrete Tryz.prog 116 = true) ∧
zT Tryz.prog 117 = false ∧ szT Tryz.prog 117 = some (1, false) ∧ arT Tryz.prog 117 = none) ∧ (Program.concrete Tryz.prog 117 = true ∧ zT Tryz.prog 118 = false ∧ szT Tryz.prog 118 = some (1, false)) ∧ (arT Tryz.prog 118 = none ∧ Program.concrete Tryz.prog 118 = true) ∧
Program.concrete Tryz.prog 119 = true ∧ (Program.underlying Tryz.prog 119).isSome = true) ∧ ((zT Tryz.prog 120 = false ∧ szT Tryz.prog 120 = some (3, true) ∧ arT Tryz.prog 120 = none) ∧ Program.concrete Tryz.prog 120 = true ∧ (Program.underlying Tryz.prog 120).isSome = true ∧
elT Tryz.prog 120 = none) ∧ (azT Tryz.prog 120 = some (3, 1, [.int .i64 0, .int .i64 0, .int .i64 0]) ∧ zeroT Tryz.prog 120 = some [.int .i64 0, .int .i64 0, .int .i64 0] ∧ bT Tryz.prog 120 = true) ∧ (fldT Tryz.prog 120 0 = some (0, 1, false) ∧
fldT Tryz.prog 120 1 = some (1, 1, false)) ∧ fldT Tryz.prog 120 2 = some (2, 1, false) ∧ zT Tryz.prog 121 = false) ∧ ((((szT Tryz.prog 121 = some (1, false) ∧ arT Tryz.prog 121 = none ∧ Program.concrete Tryz.prog 121 = true) ∧ (Program.underlying Tryz.prog 121).isSome = true ∧
intT Tryz.prog 121 = some .i64 ∧ elT Tryz.prog 121 = none) ∧ (azT Tryz.prog 121 = some (1, 1, [.int .i64 0]) ∧ zeroT Tryz.prog 121 = some [.int .i64 0] ∧ Program.concrete Tryz.prog 123 = true) ∧ (zT Tryz.prog 124 = false ∧ szT Tryz.prog 124 = some (1, false)) ∧
arT Tryz.prog 124 = none ∧ Program.concrete Tryz.prog 124 = true) ∧ (((Program.underlying Tryz.prog 124).isSome = true ∧ elT Tryz.prog 124 = some (2, true) ∧ elB Tryz.prog 124 = some (2, 16)) ∧ bsT Tryz.prog 124 = some 2 ∧ mkT Tryz.prog 124 = some (2, 16, [.int .i64 0, .int .i64 0]) ∧
azT Tryz.prog 124 = some (1, 1, [.slice none 0 0])) ∧ (zeroT Tryz.prog 124 = some [.slice none 0 0] ∧ Program.concrete Tryz.prog 126 = true ∧ Program.concrete Tryz.prog 128 = true) ∧ (Program.concrete Tryz.prog 129 = true ∧ (Program.underlying Tryz.prog 129).isSome = true) ∧
zT Tryz.prog 130 = false ∧ szT Tryz.prog 130 = some (2, true)) ∧ (((arT Tryz.prog 130 = none ∧ Program.concrete Tryz.prog 130 = true ∧ (Program.underlying Tryz.prog 130).isSome = true) ∧ elT Tryz.prog 130 = none ∧ azT Tryz.prog 130 = some (2, 1, [.int .i64 0, .int .i64 0]) ∧
zeroT Tryz.prog 130 = some [.int .i64 0, .int .i64 0]) ∧ (bT Tryz.prog 130 = true ∧ fldT Tryz.prog 130 0 = some (0, 1, false) ∧ fldT Tryz.prog 130 1 = some (1, 1, false)) ∧ (Program.concrete Tryz.prog 131 = true ∧ zT Tryz.prog 132 = false) ∧ szT Tryz.prog 132 = some (1, false) ∧
arT Tryz.prog 132 = none) ∧ ((Program.concrete Tryz.prog 132 = true ∧ Program.concrete Tryz.prog 133 = true ∧ zT Tryz.prog 135 = false) ∧ (szT Tryz.prog 135 = some (1, false) ∧ arT Tryz.prog 135 = none) ∧ Program.concrete Tryz.prog 136 = true ∧
zT Tryz.prog 137 = false) ∧ (szT Tryz.prog 137 = some (1, false) ∧ arT Tryz.prog 137 = none ∧ Program.concrete Tryz.prog 137 = true) ∧ (Program.concrete Tryz.prog 138 = true ∧ Program.concrete Tryz.prog 139 = true) ∧ zT Tryz.prog 140 = false ∧
szT Tryz.prog 140 = some (1, false)) ∧ (((((arT Tryz.prog 140 = none ∧ Program.concrete Tryz.prog 140 = true ∧ zT Tryz.prog 141 = false) ∧ szT Tryz.prog 141 = some (1, false) ∧ arT Tryz.prog 141 = none ∧ Program.concrete Tryz.prog 141 = true) ∧
(zT Tryz.prog 142 = false ∧ szT Tryz.prog 142 = some (1, false) ∧ arT Tryz.prog 142 = none) ∧ (Program.concrete Tryz.prog 142 = true ∧ zT Tryz.prog 143 = false) ∧ szT Tryz.prog 143 = some (1, false) ∧ arT Tryz.prog 143 = none) ∧ ((Program.concrete Tryz.prog 143 = true ∧
Program.concrete Tryz.prog 145 = true ∧ (Program.underlying Tryz.prog 145).isSome = true) ∧ zT Tryz.prog 146 = false ∧ szT Tryz.prog 146 = some (4, true) ∧ arT Tryz.prog 146 = none) ∧ (Program.concrete Tryz.prog 146 = true ∧ (Program.underlying Tryz.prog 146).isSome = true ∧
elT Tryz.prog 146 = none) ∧ (azT Tryz.prog 146 = some (4, 1, [.int .i64 0, .int .u64 0, .int .u64 0, .int .u64 0]) ∧ zeroT Tryz.prog 146 = some [.int .i64 0, .int .u64 0, .int .u64 0, .int .u64 0]) ∧ bT Tryz.prog 146 = true ∧ fldT Tryz.prog 146 0 = some (0, 1, false)) ∧
(((fldT Tryz.prog 146 1 = some (1, 3, true) ∧ Program.concrete Tryz.prog 147 = true ∧ Program.concrete Tryz.prog 148 = true) ∧ (Program.underlying Tryz.prog 148).isSome = true ∧ zT Tryz.prog 149 = false ∧ szT Tryz.prog 149 = some (1, true)) ∧ (arT Tryz.prog 149 = none ∧
Program.concrete Tryz.prog 149 = true ∧ (Program.underlying Tryz.prog 149).isSome = true) ∧ (elT Tryz.prog 149 = none ∧ azT Tryz.prog 149 = some (1, 1, [.nilFunc])) ∧ zeroT Tryz.prog 149 = some [.nilFunc] ∧ bT Tryz.prog 149 = true) ∧ ((fldT Tryz.prog 149 0 = some (0, 1, false) ∧
Program.concrete Tryz.prog 150 = true ∧ zT Tryz.prog 151 = false) ∧ (szT Tryz.prog 151 = some (1, false) ∧ arT Tryz.prog 151 = none) ∧ Program.concrete Tryz.prog 151 = true ∧ zT Tryz.prog 152 = false) ∧ (szT Tryz.prog 152 = some (1, false) ∧ azT Tryz.prog 152 = some (1, 1, [.pointer none]) ∧
arT Tryz.prog 152 = none) ∧ (Program.concrete Tryz.prog 152 = true ∧ Program.concrete Tryz.prog 153 = true) ∧ zT Tryz.prog 154 = false ∧ szT Tryz.prog 154 = some (1, false)) ∧ ((((arT Tryz.prog 154 = none ∧ Program.concrete Tryz.prog 154 = true ∧
Program.concrete Tryz.prog 155 = true) ∧ zT Tryz.prog 156 = false ∧ szT Tryz.prog 156 = some (1, false) ∧ arT Tryz.prog 156 = none) ∧ (Program.concrete Tryz.prog 156 = true ∧ (Program.underlying Tryz.prog 156).isSome = true ∧ intT Tryz.prog 156 = some .u64) ∧
(elT Tryz.prog 156 = none ∧ azT Tryz.prog 156 = some (1, 1, [.int .u64 0])) ∧ zeroT Tryz.prog 156 = some [.int .u64 0] ∧ Program.concrete Tryz.prog 157 = true) ∧ (((Program.underlying Tryz.prog 157).isSome = true ∧ zT Tryz.prog 158 = false ∧ szT Tryz.prog 158 = some (7, true)) ∧
arT Tryz.prog 158 = none ∧ Program.concrete Tryz.prog 158 = true ∧ (Program.underlying Tryz.prog 158).isSome = true) ∧ (elT Tryz.prog 158 = none ∧ azT Tryz.prog 158 = some (7, 1, [.int .i64 0, .int .i64 0, .int .i64 0, .slice none 0 0, .slice none 0 0, .int .u64 0, .int .u64 0]) ∧
zeroT Tryz.prog 158 = some [.int .i64 0, .int .i64 0, .int .i64 0, .slice none 0 0, .slice none 0 0, .int .u64 0, .int .u64 0]) ∧ (bT Tryz.prog 158 = true ∧ fldT Tryz.prog 158 0 = some (0, 5, true)) ∧ fldT Tryz.prog 158 1 = some (5, 1, false) ∧
fldT Tryz.prog 158 2 = some (6, 1, false)) ∧ (((zT Tryz.prog 159 = false ∧ szT Tryz.prog 159 = some (1, false) ∧ arT Tryz.prog 159 = none) ∧ Program.concrete Tryz.prog 159 = true ∧ zT Tryz.prog 160 = false ∧ szT Tryz.prog 160 = some (1, false)) ∧
(arT Tryz.prog 160 = none ∧ Program.concrete Tryz.prog 160 = true ∧ Program.concrete Tryz.prog 161 = true) ∧ (zT Tryz.prog 162 = false ∧ szT Tryz.prog 162 = some (1, false)) ∧ arT Tryz.prog 162 = none ∧ Program.concrete Tryz.prog 162 = true) ∧
((Program.concrete Tryz.prog 163 = true ∧ (Program.underlying Tryz.prog 163).isSome = true ∧ zT Tryz.prog 164 = false) ∧ (szT Tryz.prog 164 = some (3, true) ∧ arT Tryz.prog 164 = none) ∧ Program.concrete Tryz.prog 164 = true ∧ (Program.underlying Tryz.prog 164).isSome = true) ∧
(elT Tryz.prog 164 = none ∧ azT Tryz.prog 164 = some (3, 1, [.int .i64 0, .nilFunc, .nilFunc]) ∧ zeroT Tryz.prog 164 = some [.int .i64 0, .nilFunc, .nilFunc]) ∧ (bT Tryz.prog 164 = true ∧ fldT Tryz.prog 164 0 = some (0, 1, false)) ∧ fldT Tryz.prog 164 1 = some (1, 1, false) ∧
fldT Tryz.prog 164 2 = some (2, 1, false)) ∧ ((((((Program.concrete Tryz.prog 165 = true ∧ (Program.underlying Tryz.prog 165).isSome = true ∧ zT Tryz.prog 166 = false) ∧ szT Tryz.prog 166 = some (3, true) ∧ Program.concrete Tryz.prog 166 = true ∧
(Program.underlying Tryz.prog 166).isSome = true) ∧ (elT Tryz.prog 166 = none ∧ arT Tryz.prog 166 = some (3, 1, false) ∧ azT Tryz.prog 166 = some (1, 3, [.int .u64 0])) ∧ (zeroT Tryz.prog 166 = some [.int .u64 0, .int .u64 0, .int .u64 0] ∧ Program.concrete Tryz.prog 167 = true) ∧
(Program.underlying Tryz.prog 167).isSome = true ∧ zT Tryz.prog 168 = false) ∧ ((szT Tryz.prog 168 = some (4, true) ∧ arT Tryz.prog 168 = none ∧ Program.concrete Tryz.prog 168 = true) ∧ (Program.underlying Tryz.prog 168).isSome = true ∧ elT Tryz.prog 168 = none ∧
azT Tryz.prog 168 = some (4, 1, [.int .i64 0, .int .u64 0, .int .u64 0, .int .u64 0])) ∧ (zeroT Tryz.prog 168 = some [.int .i64 0, .int .u64 0, .int .u64 0, .int .u64 0] ∧ bT Tryz.prog 168 = true ∧ fldT Tryz.prog 168 0 = some (0, 1, false)) ∧ (fldT Tryz.prog 168 1 = some (1, 3, true) ∧
zT Tryz.prog 169 = false) ∧ szT Tryz.prog 169 = some (8, true) ∧ Program.concrete Tryz.prog 169 = true) ∧ ((((Program.underlying Tryz.prog 169).isSome = true ∧ elT Tryz.prog 169 = none ∧ arT Tryz.prog 169 = some (4, 2, true)) ∧ azT Tryz.prog 169 = some (2, 4, [.int .i64 0, .int .i64 0]) ∧
zeroT Tryz.prog 169 = some [.int .i64 0, .int .i64 0, .int .i64 0, .int .i64 0, .int .i64 0, .int .i64 0, .int .i64 0, .int .i64 0] ∧ zT Tryz.prog 170 = false) ∧ (szT Tryz.prog 170 = some (1, false) ∧ arT Tryz.prog 170 = none ∧ Program.concrete Tryz.prog 170 = true) ∧
(zT Tryz.prog 171 = false ∧ szT Tryz.prog 171 = some (1, false)) ∧ arT Tryz.prog 171 = none ∧ Program.concrete Tryz.prog 171 = true) ∧ ((Program.concrete Tryz.prog 172 = true ∧ zT Tryz.prog 173 = false ∧ szT Tryz.prog 173 = some (1, false)) ∧ (arT Tryz.prog 173 = none ∧
Program.concrete Tryz.prog 173 = true) ∧ (Program.underlying Tryz.prog 173).isSome = true ∧ elT Tryz.prog 173 = some (1, false)) ∧ (elB Tryz.prog 173 = some (1, 24) ∧ bsT Tryz.prog 173 = some 1 ∧ mkT Tryz.prog 173 = some (1, 24, [.slice none 0 0])) ∧
(azT Tryz.prog 173 = some (1, 1, [.slice none 0 0]) ∧ zeroT Tryz.prog 173 = some [.slice none 0 0]) ∧ zT Tryz.prog 175 = false ∧ szT Tryz.prog 175 = some (1, false)) ∧ ((((arT Tryz.prog 175 = none ∧ Program.concrete Tryz.prog 175 = true ∧ zT Tryz.prog 176 = false) ∧
szT Tryz.prog 176 = some (1, false) ∧ arT Tryz.prog 176 = none ∧ Program.concrete Tryz.prog 176 = true) ∧ (zT Tryz.prog 177 = false ∧ szT Tryz.prog 177 = some (1, false) ∧ arT Tryz.prog 177 = none) ∧ (Program.concrete Tryz.prog 177 = true ∧ Program.concrete Tryz.prog 178 = true) ∧
zT Tryz.prog 179 = false ∧ szT Tryz.prog 179 = some (1, false)) ∧ ((arT Tryz.prog 179 = none ∧ Program.concrete Tryz.prog 179 = true ∧ (Program.underlying Tryz.prog 179).isSome = true) ∧ intT Tryz.prog 179 = some .i64 ∧ elT Tryz.prog 179 = none ∧
azT Tryz.prog 179 = some (1, 1, [.int .i64 0])) ∧ (zeroT Tryz.prog 179 = some [.int .i64 0] ∧ Program.concrete Tryz.prog 181 = true ∧ zT Tryz.prog 182 = false) ∧ (szT Tryz.prog 182 = some (1, false) ∧ arT Tryz.prog 182 = none) ∧ Program.concrete Tryz.prog 182 = true ∧
Program.concrete Tryz.prog 183 = true) ∧ (((zT Tryz.prog 184 = false ∧ szT Tryz.prog 184 = some (1, false) ∧ arT Tryz.prog 184 = none) ∧ Program.concrete Tryz.prog 184 = true ∧ Program.concrete Tryz.prog 185 = true ∧ (Program.underlying Tryz.prog 185).isSome = true) ∧
(zT Tryz.prog 186 = false ∧ szT Tryz.prog 186 = some (2, true) ∧ arT Tryz.prog 186 = none) ∧ (Program.concrete Tryz.prog 186 = true ∧ (Program.underlying Tryz.prog 186).isSome = true) ∧ elT Tryz.prog 186 = none ∧ azT Tryz.prog 186 = some (2, 1, [.int .i64 0, .bool false])) ∧
((zeroT Tryz.prog 186 = some [.int .i64 0, .bool false] ∧ bT Tryz.prog 186 = true ∧ fldT Tryz.prog 186 0 = some (0, 1, false)) ∧ (fldT Tryz.prog 186 1 = some (1, 1, false) ∧ zT Tryz.prog 188 = false) ∧ szT Tryz.prog 188 = some (1, false) ∧ arT Tryz.prog 188 = none) ∧
(Program.concrete Tryz.prog 188 = true ∧ zT Tryz.prog 189 = false ∧ szT Tryz.prog 189 = some (1, false)) ∧ (arT Tryz.prog 189 = none ∧ Program.concrete Tryz.prog 189 = true) ∧ Program.concrete Tryz.prog 190 = true ∧ zT Tryz.prog 191 = false) ∧
(((((szT Tryz.prog 191 = some (1, false) ∧ arT Tryz.prog 191 = none ∧ Program.concrete Tryz.prog 191 = true) ∧ zT Tryz.prog 192 = false ∧ szT Tryz.prog 192 = some (1, false) ∧ arT Tryz.prog 192 = none) ∧ (Program.concrete Tryz.prog 192 = true ∧
Program.concrete Tryz.prog 193 = true ∧ zT Tryz.prog 194 = false) ∧ (szT Tryz.prog 194 = some (1, false) ∧ arT Tryz.prog 194 = none) ∧ Program.concrete Tryz.prog 194 = true ∧ (Program.underlying Tryz.prog 194).isSome = true) ∧ ((intT Tryz.prog 194 = some .u32 ∧
elT Tryz.prog 194 = none ∧ azT Tryz.prog 194 = some (1, 1, [.int .u32 0])) ∧ zeroT Tryz.prog 194 = some [.int .u32 0] ∧ Program.concrete Tryz.prog 195 = true ∧ zT Tryz.prog 196 = false) ∧ (szT Tryz.prog 196 = some (1, false) ∧ arT Tryz.prog 196 = none ∧
Program.concrete Tryz.prog 196 = true) ∧ ((Program.underlying Tryz.prog 196).isSome = true ∧ intT Tryz.prog 196 = some .u64) ∧ elT Tryz.prog 196 = none ∧ azT Tryz.prog 196 = some (1, 1, [.int .u64 0])) ∧ (((zeroT Tryz.prog 196 = some [.int .u64 0] ∧
zT Tryz.prog 197 = false ∧ szT Tryz.prog 197 = some (1, false)) ∧ arT Tryz.prog 197 = none ∧ Program.concrete Tryz.prog 197 = true ∧ (Program.underlying Tryz.prog 197).isSome = true) ∧ (elT Tryz.prog 197 = some (1, false) ∧ elB Tryz.prog 197 = some (1, 8) ∧
bsT Tryz.prog 197 = some 1) ∧ (mkT Tryz.prog 197 = some (1, 8, [.int .u64 0]) ∧ azT Tryz.prog 197 = some (1, 1, [.slice none 0 0])) ∧ zeroT Tryz.prog 197 = some [.slice none 0 0] ∧ Program.concrete Tryz.prog 198 = true) ∧ ((zT Tryz.prog 199 = true ∧
szT Tryz.prog 199 = some (0, true) ∧ arT Tryz.prog 199 = none) ∧ (Program.concrete Tryz.prog 199 = true ∧ (Program.underlying Tryz.prog 199).isSome = true) ∧ elT Tryz.prog 199 = none ∧ azT Tryz.prog 199 = some (0, 1, [])) ∧ (zeroT Tryz.prog 199 = some [] ∧
bT Tryz.prog 199 = true ∧ zT Tryz.prog 200 = true) ∧ (szT Tryz.prog 200 = some (0, true) ∧ arT Tryz.prog 200 = none) ∧ Program.concrete Tryz.prog 200 = true ∧ (Program.underlying Tryz.prog 200).isSome = true) ∧ ((((elT Tryz.prog 200 = none ∧ azT Tryz.prog 200 = some (0, 1, []) ∧
zeroT Tryz.prog 200 = some []) ∧ bT Tryz.prog 200 = true ∧ zT Tryz.prog 201 = true ∧ szT Tryz.prog 201 = some (0, true)) ∧ (arT Tryz.prog 201 = none ∧ Program.concrete Tryz.prog 201 = true ∧ (Program.underlying Tryz.prog 201).isSome = true) ∧ (elT Tryz.prog 201 = none ∧
azT Tryz.prog 201 = some (0, 1, [])) ∧ zeroT Tryz.prog 201 = some [] ∧ bT Tryz.prog 201 = true) ∧ ((zT Tryz.prog 202 = false ∧ szT Tryz.prog 202 = some (1, false) ∧ arT Tryz.prog 202 = none) ∧ Program.concrete Tryz.prog 202 = true ∧ zT Tryz.prog 203 = false ∧
szT Tryz.prog 203 = some (1, false)) ∧ (arT Tryz.prog 203 = none ∧ Program.concrete Tryz.prog 203 = true ∧ (Program.underlying Tryz.prog 203).isSome = true) ∧ (elT Tryz.prog 203 = some (1, false) ∧ elB Tryz.prog 203 = some (1, 16)) ∧ bsT Tryz.prog 203 = some 1 ∧
mkT Tryz.prog 203 = some (1, 16, [.nilIface])) ∧ (((azT Tryz.prog 203 = some (1, 1, [.slice none 0 0]) ∧ zeroT Tryz.prog 203 = some [.slice none 0 0] ∧ zT Tryz.prog 205 = false) ∧ szT Tryz.prog 205 = some (1, false) ∧ arT Tryz.prog 205 = none ∧
Program.concrete Tryz.prog 206 = true) ∧ (zT Tryz.prog 207 = false ∧ szT Tryz.prog 207 = some (1, false) ∧ arT Tryz.prog 207 = none) ∧ (Program.concrete Tryz.prog 207 = true ∧ zT Tryz.prog 208 = false) ∧ szT Tryz.prog 208 = some (1, false) ∧ arT Tryz.prog 208 = none) ∧
((Program.concrete Tryz.prog 208 = true ∧ zT Tryz.prog 209 = false ∧ szT Tryz.prog 209 = some (1, false)) ∧ (arT Tryz.prog 209 = none ∧ Program.concrete Tryz.prog 209 = true) ∧ zT Tryz.prog 210 = false ∧ szT Tryz.prog 210 = some (1, false)) ∧ (arT Tryz.prog 210 = none ∧
Program.concrete Tryz.prog 210 = true ∧ Program.concrete Tryz.prog 211 = true) ∧ (Program.concrete Tryz.prog 219 = true ∧ Program.concrete Tryz.prog 220 = true) ∧ Program.concrete Tryz.prog 225 = true ∧ (Program.underlying Tryz.prog 225).isSome = true := by
 and_intros <;> kernel_rfl

end Go.Proofs.YtdopkbldjagmlaaGreat
end
section
set_option linter.unusedVariables false
set_option linter.unusedSimpArgs false
namespace Go.V
set_option linter.unusedSectionVars false
variable [Inhabited GivT]
theorem mapM_move {α β : Type} {f g : α → Option β} {Q : β → Prop} : ∀ (l : List α) (ys : List β), (∀ x ∈ l, ∀ y, f x = some y → Q y → g x = some y) → l.mapM f = some ys → (∀ y ∈ ys, Q y) → l.mapM g = some ys
 | [], ys, _, h, _ => by simpa using h
 | x :: l, ys, hfg, h, hq => by
   rw [List.mapM_cons] at h ⊢
   simp only [Option.bind_eq_bind, Option.bind_eq_some_iff, Option.pure_def, Option.some.injEq] at h ⊢
   obtain ⟨y, hy, zs, hz, rfl⟩ := h
   exact ⟨y, hfg x (by simp) y hy (hq y (by simp)), zs, mapM_move l zs (fun a ha => hfg a (by simp [ha])) hz (fun a ha => hq a (by simp [ha])), rfl⟩

theorem mapM_get {α β : Type} {f : α → Option β} : ∀ (l : List α) (ys : List β), l.mapM f = some ys → ys.length = l.length ∧ ∀ (i : Nat) (x : α), l[i]? = some x → ∃ y, ys[i]? = some y ∧ f x = some y
 | [], ys, h => by
   simp at h; subst h; simp
 | x :: l, ys, h => by
   rw [List.mapM_cons] at h
   simp only [Option.bind_eq_bind, Option.bind_eq_some_iff, Option.pure_def, Option.some.injEq] at h
   obtain ⟨y, hy, zs, hz, rfl⟩ := h
   obtain ⟨h1, h2⟩ := mapM_get l zs hz
   refine ⟨by simp [h1], fun i a ha => ?_⟩
   cases i with
   | zero => simp at ha; subst ha; exact ⟨y, by simp, hy⟩
   | succ i => simpa using h2 i a (by simpa using ha)

/-- Types of numbers, truths, structs and slices of such. -/
def goodT (P : Program) : Nat → TypeId → Bool
 | 0, _ => false
 | d + 1, t => match P.underlying t with
   | some .bool => true
   | some (.int _) => true
   | some (.struct fs) => fs.toList.all fun f => goodT P d f.type
   | some (.slice e) => decide (0 < P.cellsOf e) && goodT P d e
   | _ => false

theorem cell_move {W W' : World} (hh : ∀ b, b < W.heap.size → W'.heap[b]? = W.heap[b]?) {a : Addr} {v : Value} (h : W.cell? a = some v) : W'.cell? a = some v := by
 unfold World.cell? at h ⊢
 split at h
 ·rename_i c e fz hb
  rw [hh _ (Array.getElem?_eq_some_iff.1 hb).1, hb]
  exact h
 ·cases h

theorem cells_move {W W' : World} (hh : ∀ b, b < W.heap.size → W'.heap[b]? = W.heap[b]?) {base : Nat} {a : Addr} {n : Nat} {vs : List Value} (h : W.cells? base a n = some vs) : W'.cells? base a n = some vs := by
 unfold World.cells? at h ⊢
 split at h
 ·rename_i hb
  rw [if_pos hb]
  exact mapM_move (Q := fun _ => True) _ _ (fun i _ y hy _ => cell_move hh hy) h (fun _ _ => trivial)
 ·cases h

theorem trod_move {H : Type} {enc : TypeId × Value → H} {P : Program} {W W' : World} {held : Bool} (hh : ∀ b, b < W.heap.size → W'.heap[b]? = W.heap[b]?) {sp : Nat → Bool} :
  ∀ (d fuel : Nat) (t : TypeId) (cs : List Value) (x : DataW H × List MemPlace), goodT P d t = true → DataW.trod enc P W 0 (fun _ => true) held fuel t cs = some x → (∀ p ∈ x.2, sp p.block = true) →
    DataW.trod enc P W' 0 sp held fuel t cs = some x := by
 intro d
 induction d with
 | zero => intro fuel t cs x hg; cases hg
 | succ d ih =>
   intro fuel t cs x hg h hs
   cases fuel with
   | zero => cases h
   | succ fuel =>
     unfold goodT at hg
     unfold DataW.trod at h ⊢
     cases hu : P.underlying t with
     | none => rw [hu] at hg; cases hg
     | some td =>
       rw [hu] at hg h
       cases td <;> simp only at hg <;> try (exact absurd hg Bool.false_ne_true)
       case bool =>
        split at h <;> simp_all
       case int k =>
        split at h <;> simp_all
       case struct fs =>
        split at h <;> try (simp_all; done)
        case _ fs' heq =>
         simp only [Option.some.injEq, TypeDesc.struct.injEq] at heq
         subst heq
         split at h
         case isTrue hl =>
          rw [if_pos hl]
          rw [Option.map_eq_some_iff] at h ⊢
          obtain ⟨ys, hy, rfl⟩ := h
          refine ⟨ys, ?_, rfl⟩
          refine mapM_move (Q := fun y => ∀ p ∈ y.2, sp p.block = true) _ _ (fun f hf y hy hq => ?_) hy (fun y hy p hp => hs p (List.mem_flatMap.2 ⟨y, hy, hp⟩))
          exact ih fuel f.type _ y (List.all_eq_true.1 hg f hf) hy hq
         case isFalse hl => cases h
       case slice e =>
        simp only [Bool.and_eq_true, decide_eq_true_eq] at hg
        obtain ⟨hpos, hg⟩ := hg
        split at h <;> try (simp_all; done)
        case _ e' a len cap heq =>
         simp only [Option.some.injEq, TypeDesc.slice.injEq] at heq
         subst heq
         have hel : ∀ i y, (W.cells? 0 (a.add (i * P.cellsOf e)) (P.cellsOf e)).bind (DataW.trod enc P W 0 (fun _ => true) held fuel e) = some y → (∀ p ∈ y.2, sp p.block = true) →
           (W'.cells? 0 (a.add (i * P.cellsOf e)) (P.cellsOf e)).bind (DataW.trod enc P W' 0 sp held fuel e) = some y := by
          intro i y hy hq
          rw [Option.bind_eq_some_iff] at hy ⊢
          obtain ⟨c, h1, h2⟩ := hy
          exact ⟨c, cells_move hh h1, ih fuel e c y hg h2 hq⟩
         simp only at h ⊢
         split at h
         case isFalse hl => cases h
         case isTrue hl =>
          rw [if_pos hl]
          rw [Option.bind_eq_some_iff] at h ⊢
          obtain ⟨es, he, h⟩ := h
          rw [if_pos trivial, Option.map_eq_some_iff] at h
          obtain ⟨rs, hr, rfl⟩ := h
          have hs2 : ∀ y ∈ es ++ rs, ∀ p ∈ y.2, sp p.block = true := fun y hy p hp => hs p (List.mem_append.2 (.inr (List.mem_flatMap.2 ⟨y, hy, hp⟩)))
          refine ⟨es, mapM_move (Q := fun y => ∀ p ∈ y.2, sp p.block = true) _ _ (fun i _ y hy hq => hel i y hy hq) he (fun y hy => hs2 y (by simp [hy])), ?_⟩
          rw [Option.map_eq_some_iff]
          refine ⟨rs, ?_, rfl⟩
          have hrl := (mapM_get _ _ hr).1
          by_cases hz : es.length + rs.length = 0
          ·have : rs = [] := List.eq_nil_of_length_eq_zero (by omega)
           subst this
           have hc : cap - len = 0 := by simpa using hrl.symm
           split
           ·rw [hc]; rfl
           ·rfl
          ·have hsp : sp a.block = true := by
            refine hs (.cell a.block (a.off + 0)) (List.mem_append.2 (.inl ?_))
            unfold MemPlace.row
            refine List.mem_map.2 ⟨0, List.mem_range.2 ?_, rfl⟩
            exact Nat.mul_pos (by omega) hpos
           rw [if_pos hsp]
           exact mapM_move (Q := fun y => ∀ p ∈ y.2, sp p.block = true) _ _ (fun j _ y hy hq => hel _ y hy hq) hr (fun y hy => hs2 y (by simp [hy]))

theorem trodAll_move {H : Type} {enc : TypeId × Value → H} {P : Program} {W W' : World} {held : Bool} (hh : ∀ b, b < W.heap.size → W'.heap[b]? = W.heap[b]?) {sp : Nat → Bool} (d : Nat) :
  ∀ (ts : List TypeId) (vs : List Value) (ds : List (DataW H)) (ps : List MemPlace), (∀ t ∈ ts, goodT P d t = true) → DataW.TrodAll enc P W 0 (fun _ => true) held ts vs ds ps → (∀ p ∈ ps, sp p.block = true) →
    DataW.TrodAll enc P W' 0 sp held ts vs ds ps
 | [], [], [], ps, _, h, _ => h
 | t :: ts, v :: vs, x :: ds, ps, hg, h, hs => by
   obtain ⟨p, q, ⟨fuel, h1⟩, h2, rfl⟩ := h
   exact ⟨p, q, ⟨fuel, trod_move hh d fuel t _ (x, p) (hg t (by simp)) h1 (fun z hz => hs z (by simp [hz]))⟩, trodAll_move hh d ts vs ds q (fun u hu => hg u (by simp [hu])) h2 (fun z hz => hs z (by simp [hz])), rfl⟩
 | [], _ :: _, _, _, _, h, _ => h.elim
 | [], [], _ :: _, _, _, h, _ => h.elim
 | _ :: _, [], _, _, _, h, _ => h.elim
 | _ :: _, _ :: _, [], _, _, h, _ => h.elim

/-- The state in which a call begins: all memory that is there is never written. -/
def st0 (W : World) : St := { w := W, imm := fun b => b < W.heap.size, loc := fun _ _ => .unk, next := 0 }
def H0 : Hp := fun _ => none
theorem st0_rel (W : World) (hg : ∀ p ∈ (default : GivT).l, VRel (st0 W) p.1 p.2) : HRel (st0 W) H0 := ⟨fun i _ => ⟨rfl, fun _ => rfl⟩, fun b h => h, fun i o h => (by cases h), fun i j o o' b h => (by cases h), hg⟩

inductive LitK where
 | int (k : IntKind)
 | bool
 deriving DecidableEq

def LitK.ok : LitK → Value → Prop
 | .int k, v => ∃ n, v = .int k n ∧ (Lit.int k n).wf = true
 | .bool, v => ∃ b, v = .bool b

/-- A type whose values are so many numbers and truths. -/
def litsT (P : Program) : Nat → TypeId → Option (List LitK)
 | 0, _ => none
 | d + 1, t => match P.underlying t with
   | some .bool => some [.bool]
   | some (.int k) => some [.int k]
   | some (.struct fs) => match fs.toList.foldl (fun acc f => match acc with
     | some ks => match litsT P d f.type with
       | some l => if f.offset = ks.length ∧ P.cellsOf f.type = l.length then some (ks ++ l) else none
       | none => none
     | none => none) (some []) with
     | some ks => if P.cellsOf t = ks.length then some ks else none
     | none => none
   | _ => none

def LitsOk (ks : List LitK) (cs : List Value) : Prop := cs.length = ks.length ∧ ∀ (i : Nat) (k : LitK) (v : Value), ks[i]? = some k → cs[i]? = some v → k.ok v

theorem LitsOk.append {ks ls : List LitK} {cs ds : List Value} (h : LitsOk ks cs) (h' : LitsOk ls ds) : LitsOk (ks ++ ls) (cs ++ ds) := by
 refine ⟨by simp [h.1, h'.1], fun i k v hk hv => ?_⟩
 by_cases hi : i < ks.length
 ·rw [List.getElem?_append_left hi] at hk
  rw [List.getElem?_append_left (by rw [h.1]; exact hi)] at hv
  exact h.2 i k v hk hv
 ·rw [List.getElem?_append_right (by omega)] at hk
  rw [List.getElem?_append_right (by rw [h.1]; omega), h.1] at hv
  exact h'.2 _ k v hk hv

theorem trod_lits {H : Type} {enc : TypeId × Value → H} {P : Program} {W : World} {held : Bool} {sp : Nat → Bool} :
  ∀ (d fuel : Nat) (t : TypeId) (cs : List Value) (x : DataW H × List MemPlace) (ks : List LitK), litsT P d t = some ks → DataW.trod enc P W 0 sp held fuel t cs = some x → LitsOk ks cs := by
 intro d
 induction d with
 | zero => intro fuel t cs x ks hg; cases hg
 | succ d ih =>
   intro fuel t cs x ks hg h
   cases fuel with
   | zero => cases h
   | succ fuel =>
     unfold litsT at hg
     unfold DataW.trod at h
     cases hu : P.underlying t with
     | none => rw [hu] at hg; cases hg
     | some td =>
       rw [hu] at hg h
       cases td <;> simp only at hg <;> try (cases hg; done)
       case bool =>
        cases hg
        split at h <;> simp_all
        rename_i b
        exact ⟨rfl, fun i k v hk hv => by cases i <;> simp at hk hv; subst hk hv; exact ⟨_, rfl⟩⟩
       case int k =>
        cases hg
        split at h <;> simp_all
        rename_i n hh
        exact ⟨rfl, fun i k v hk hv => by cases i <;> simp at hk hv; subst hk hv; exact ⟨_, rfl, h.1.2⟩⟩
       case struct fs =>
        split at h <;> try (simp_all; done)
        case _ fs' heq =>
         simp only [Option.some.injEq, TypeDesc.struct.injEq] at heq
         subst heq
         split at h
         case isFalse hl => cases h
         case isTrue hl =>
          rw [Option.map_eq_some_iff] at h
          obtain ⟨ys, hy, rfl⟩ := h
          have key : ∀ (c : List Value) (l : List Field) (acc ks : List LitK), (∀ f ∈ l, ∃ y, DataW.trod enc P W 0 sp held fuel f.type ((c.drop f.offset).take (P.cellsOf f.type)) = some y) → LitsOk acc (c.take acc.length) →
            l.foldl (fun acc f => match acc with
             | some ks => match litsT P d f.type with
               | some l => if f.offset = ks.length ∧ P.cellsOf f.type = l.length then some (ks ++ l) else none
               | none => none
             | none => none) (some acc) = some ks → LitsOk ks (c.take ks.length) := by
           intro c l
           induction l with
           | nil => intro acc ks _ ha he; simp at he; subst he; exact ha
           | cons f l ih2 =>
             intro acc ks hf ha he
             simp only [List.foldl_cons] at he
             have hnone : ∀ l : List Field, l.foldl (fun acc f => match acc with
              | some ks => match litsT P d f.type with
                | some l => if f.offset = ks.length ∧ P.cellsOf f.type = l.length then some (ks ++ l) else none
                | none => none
              | none => none) none = (none : Option (List LitK)) := by
              intro l; induction l with
              | nil => rfl
              | cons a l ih => simpa using ih
             cases hl2 : litsT P d f.type with
             | none => rw [hl2] at he; simp only at he; rw [hnone] at he; cases he
             | some lk =>
               rw [hl2] at he
               simp only at he
               by_cases hc : f.offset = acc.length ∧ P.cellsOf f.type = lk.length
               ·rw [if_pos hc] at he
                obtain ⟨y, hy⟩ := hf f (by simp)
                have := ih fuel f.type _ y lk hl2 hy
                rw [hc.1, hc.2] at this
                have hap := ha.append this
                refine ih2 (acc ++ lk) ks (fun g hg => hf g (by simp [hg])) ?_ he
                rw [List.length_append, List.take_add]
                exact hap
               ·rw [if_neg hc, hnone] at he; cases he
          split at hg
          case h_2 => cases hg
          case h_1 ks' he =>
           split at hg
           case isFalse => cases hg
           case isTrue hc =>
            cases hg
            have := key _ fs.toList [] ks (fun f hf => by
             obtain ⟨i, hi⟩ := List.getElem?_of_mem hf
             obtain ⟨y, _, h2⟩ := (mapM_get _ _ hy).2 i f hi
             exact ⟨y, h2⟩) ⟨by simp, fun i k v hk => by simp at hk⟩ he
            rw [List.take_of_length_le (by rw [hl, hc]; exact Nat.le_refl _)] at this
            exact this

end Go.V
end
section
set_option linter.unusedVariables false
set_option linter.unusedSimpArgs false
namespace Go.V
set_option linter.unusedSectionVars false
variable [Inhabited GivT]
theorem trod_slice_rel {H : Type} {enc : TypeId × Value → H} {P : Program} {W : World} {held : Bool} {sp : Nat → Bool} {d fuel : Nat} {t e : TypeId} {v : Value} {x : DataW H × List MemPlace} {ks : List LitK}
  (ht : P.underlying t = some (.slice e)) (hk : litsT P d e = some ks) (hsz : P.cellsOf e = ks.length) (hpos : 0 < ks.length) (h : DataW.trod enc P W 0 sp held fuel t [v] = some x) :
  ∃ (n : Nat) (g : Nat → List Value), n ≤ maxLen ∧ (∀ i, i < n → LitsOk ks (g i)) ∧ VRel (st0 W) (.rsl n ks.length (fun i => (g i).map AV.lit)) v := by
 cases fuel with
 | zero => cases h
 | succ fuel =>
   unfold DataW.trod at h
   rw [ht] at h
   split at h <;> try (simp_all; done)
   ·rename_i heq heq2
    simp only [List.cons.injEq, and_true] at heq2
    subst heq2
    exact ⟨0, fun _ => [], Nat.zero_le _, fun i hi => by omega, .rsl0⟩
   ·rename_i e' a len cap heq heq2
    simp only [Option.some.injEq, TypeDesc.slice.injEq] at heq
    simp only [List.cons.injEq, and_true] at heq2
    subst heq heq2
    simp only at h
    split at h
    case isFalse hl => cases h
    case isTrue hl =>
     rw [Option.bind_eq_some_iff] at h
     obtain ⟨es, he, -⟩ := h
     let g : Nat → List Value := fun i => match W.cells? 0 (a.add (i * P.cellsOf e)) (P.cellsOf e) with
      | some c => c
      | none => []
     have hel : ∀ i, i < len → W.cells? 0 (a.add (i * P.cellsOf e)) (P.cellsOf e) = some (g i) ∧ LitsOk ks (g i) := by
      intro i hi
      obtain ⟨y, _, hy⟩ := (mapM_get _ _ he).2 i i (by simp [hi])
      rw [Option.bind_eq_some_iff] at hy
      obtain ⟨c, h1, h2⟩ := hy
      have : g i = c := by simp only [g, h1]
      rw [this]
      exact ⟨h1, trod_lits d fuel _ c y ks hk h2⟩
     refine ⟨len, g, Nat.le_trans hl.2.1 hl.2.2, fun i hi => (hel i hi).2, ?_⟩
     by_cases h0 : len = 0
     ·subst h0; exact .rsl0
     have hcell : ∀ i j, i < len → j < ks.length → ∃ u, (g i)[j]? = some u ∧ W.cell? ((a.add (i * P.cellsOf e)).add j) = some u := by
      intro i j hi hj
      have h1 := (hel i hi).1
      unfold World.cells? at h1
      rw [if_pos (Nat.zero_le _)] at h1
      exact (mapM_get _ _ h1).2 j j (by simp [hsz, hj])
     obtain ⟨b, off, spot⟩ := a
     obtain ⟨u0, _, hc0⟩ := hcell 0 0 (by omega) hpos
     rw [show ((⟨b, off, spot⟩ : Addr).add (0 * P.cellsOf e)).add 0 = ⟨b, off, spot⟩ from by simp [Addr.add]] at hc0
     unfold World.cell? at hc0
     split at hc0
     case h_2 => cases hc0
     case h_1 c ct fz hb =>
      have hspot : spot = none := by
       cases spot with
       | none => rfl
       | some s => simp at hc0
      subst hspot
      have hadd : ∀ i j, (((⟨b, off, none⟩ : Addr).add (i * P.cellsOf e)).add j) = ⟨b, off + i * P.cellsOf e + j, none⟩ := fun i j => by rw [addr_add, addr_add]
      have hall : ∀ i j, i < len → j < ks.length → ∃ u, (g i)[j]? = some u ∧ c[off + i * ks.length + j]? = some u := by
       intro i j hi hj
       obtain ⟨u, h1, h2⟩ := hcell i j hi hj
       rw [hadd] at h2
       unfold World.cell? at h2
       simp only at hb
       rw [show W.heap[(⟨b, off + i * P.cellsOf e + j, none⟩ : Addr).block]? = some (.cells c ct fz) from hb] at h2
       simp only [Option.isSome_none, Bool.false_eq_true, if_false, hsz] at h2
       exact ⟨u, h1, h2⟩
      refine .rsl (c := c) (e := ct) (fz := fz) ?_ hb ?_ (fun i hi => by simpa using (hel i hi).2.1) (fun i j hi hj => ?_) hl.2.1
      ·exact (Array.getElem?_eq_some_iff.1 hb).1
      ·obtain ⟨u, _, h2⟩ := hall (len - 1) (ks.length - 1) (by omega) (by omega)
       have := (Array.getElem?_eq_some_iff.1 h2).1
       have e1 : len * ks.length = (len - 1) * ks.length + ks.length := by
        obtain ⟨q, rfl⟩ : ∃ q, len = q + 1 := ⟨len - 1, by omega⟩
        rw [Nat.add_sub_cancel, Nat.succ_mul]
       omega
      ·obtain ⟨u, h1, h2⟩ := hall i j hi hj
       rw [List.getD_eq_getElem?_getD, List.getElem?_map, h1, Array.getD_eq_getD_getElem?, h2]
       exact .lit _

end Go.V
end
section
set_option linter.unusedVariables false
set_option linter.unusedSimpArgs false
namespace Go.V
set_option linter.unusedSectionVars false
variable [Inhabited GivT]
open Go.ChangeShapes Go.WideShapes
theorem law_post {H : Type} {enc : TypeId × Value → H} {P : Program} {f : Func} {s : ChangeSpec} {apart fresh handsOn again : Bool} {W W' : World} {args : Array Value} {ds gs : List (DataW H)} {before : List MemPlace} {tb : TypeId} {d : Nat}
  (hv0 : s.vars = []) (hrt : f.resultTypes = #[tb]) (hb : P.underlying tb = some .bool) (hgood : ∀ t ∈ f.params.toList, goodT P d t = true)
  (hW : DataW.Whole enc P f.params.toList s.vars apart W args.toList ds gs before)
  (hfn : s.fn H (ds ++ gs) = { results := [.lit (.bool true)], args := ds })
  (hh : ∀ b, b < W.heap.size → W'.heap[b]? = W.heap[b]?) (hos : W'.os = W.os) (hout : W'.output = W.output) : s.post enc P f apart fresh handsOn again W args (.bool true) W' := by
 have hW' := hW
 obtain ⟨p, q, hA, hV, rfl, hz, hn⟩ := hW
 rw [hv0] at hV
 have hgq : gs = [] ∧ q = [] := by
  cases gs with
  | nil => exact ⟨rfl, hV⟩
  | cons _ _ => exact hV.elim
 obtain ⟨rfl, rfl⟩ := hgq
 have hlt : ∀ z ∈ p ++ [], z.block < W.heap.size := fun z hz => hW'.lt z hz
 have hold : ∀ z ∈ p, (fun b => decide (b < W.heap.size)) z.block = true := fun z hz => by simpa using hlt z (by simpa using hz)
 have hres : ∀ (b : Nat) (sp : Nat → Bool) (hd : Bool), DataW.TrodAll enc P W' b sp hd f.resultTypes.toList ((Value.bool true).resultList f.resultTypes.size) (s.fn H (ds ++ [])).results [] := by
  intro b sp hd
  rw [hfn, hrt]
  exact ⟨[], [], ⟨1, by simp [DataW.trod, hb, Value.cells]⟩, rfl, rfl⟩
 have hargs : ∀ sp : Nat → Bool, (∀ z ∈ p, sp z.block = true) → DataW.TrodAll enc P W' 0 sp true f.params.toList args.toList (s.fn H (ds ++ [])).args p := by
  intro sp hs
  rw [hfn]
  exact trodAll_move hh d _ _ _ _ hgood hA hs
 refine ⟨ds, [], p ++ [], [], p, [], hW', hres _ _ _, hargs _ hold, ?_, ⟨hos, hout, fun i hi => ?_⟩, fun _ => ?_⟩
 ·rw [hv0, hfn]; exact rfl
 ·rw [hh i hi]
  cases W.heap[i]? with
  | none => rfl
  | some o => cases o <;> first | exact ⟨rfl, rfl, rfl, fun _ _ => rfl⟩ | exact .inr ⟨rfl, rfl⟩ | rfl
 ·refine ⟨fun j t r h1 h2 => ?_, _, [], ([] ++ p) ++ [], ⟨[] ++ p, [], trodAll_append (hargs _ (fun _ _ => rfl)) (hres _ _ _), ?_, rfl, ?_, ?_⟩, ?_⟩
  ·rw [hrt] at h1 h2
   have hj : j = 0 := by
    have := (Array.getElem?_eq_some_iff.1 h1).1
    simp at this; omega
   subst hj
   simp [Value.resultList] at h1 h2
   subst h1 h2
   simp [Value.okWide, hb, Cell.okWide, Cell.ok]
  ·rw [hv0]; exact rfl
  ·intro b off hm
   have hm' : MemPlace.cell b off ∈ p ++ [] := by simpa using hm
   have := hz b off hm'
   have hb' : b < W.heap.size := hlt _ hm'
   unfold World.frozen? at this ⊢
   simp only [hh b hb']
   exact this
  ·intro ha
   have := hn ha
   simpa using this
  ·intro z hz _
   simpa using hz

end Go.V
end
section
set_option linter.unusedVariables false
set_option linter.unusedSimpArgs false
namespace Go.V
set_option linter.unusedSectionVars false
variable [Inhabited GivT]
theorem law_calls {P : Program} {f : FuncId} {fn : Func} {c : Code} {W : World} {args : Array Value} {avs : List AV} (hf : P.funcs[f]? = some fn) (hname : (fn.name == "runtime.NumGoroutine") = false) (hb : fn.body = some c)
  (hT : Tri P (.func (.func f) [] []) avs H0 fun r _ => r = .ret (.lit (.bool true))) (hg : ∀ p ∈ (default : GivT).l, VRel (st0 W) p.1 p.2) (ha : VRels (st0 W) avs args.toList) :
  Calls P f args W fun e W' => e = .returned (.bool true) ∧ (∀ b, b < W.heap.size → W'.heap[b]? = W.heap[b]?) ∧ W'.os = W.os ∧ W'.output = W.output := by
 obtain ⟨nx, h1, h2⟩ := hT (st0 W) (.func (.func f) #[] #[]) args.toList (st0_rel W hg) (.func rfl rfl (fun k hk => absurd hk (by simp)) (fun k hk => absurd hk (by simp))) ha
 have hcf : (callFunc f args).run P W = .ok (.enter f args) W := by
  simp only [callFunc, Sem.run_bind, run_program, Result.andThen_ok, hf, hname, hb]
  simp
 simp only [Deferred.ofValue, Sem.run_bind, Sem.run_pure, Result.andThen_ok, invoke] at h1
 have e : (#[] : Array Value) ++ args.toList.toArray ++ #[] = args := by simp
 rw [e] at h1
 have h1' : (callFunc f args).run P W = .ok nx W := h1
 rw [hcf] at h1'
 injection h1' with h1' _
 subst h1'
 refine Calls.mono h2 ?_
 rintro e w ⟨S', r, H', rfl, hle, hH', hrr, hr⟩
 subst hr
 refine ⟨?_, fun b hb => hle.keep b hb, hle.os, hle.output⟩
 cases e with
 | returned v => rw [VRel.lit_inv hrr]
 | panicked ch => exact hrr.elim
 | outgrown => exact hrr.elim

end Go.V
end
section
set_option linter.unusedVariables false
set_option linter.unusedSimpArgs false
namespace Go.V
set_option linter.unusedSectionVars false
variable [Inhabited GivT]
open Go.ChangeShapes
def st2 (P : Program) (t a oa b ob : Nat) : Bool := match P.underlying t with
 | some (.struct fs) => (match fs.toList with
   | [f0, f1] => f0.type == a && f0.offset == oa && f1.type == b && f1.offset == ob
   | _ => false)
 | _ => false
end Go.V
end
section
set_option linter.unusedVariables false
namespace Go.V
set_option linter.unusedSectionVars false
variable [Inhabited GivT]
theorem frz_step {S : St} {H : Hp} {id st n : Nat} {f : Nat → List AV} (hH : HRel S H) (ho : H id = some (.row st n f)) :
  ∃ S2, S2.w = S.w ∧ Le S S2 ∧ HRel S2 (H.del id) ∧ ∀ v, VRel S (.sl id st n) v → VRel S2 (.rsl n st f) v := by
 obtain ⟨hg, hcase⟩ := hH.obj id _ ho
 rcases hcase with ⟨rfl, hnil⟩ | ⟨b, c, e, hl, hb, hni, hc⟩
 ·refine ⟨S, rfl, Le.refl S, hH.sub ?_, ?_⟩
  ·intro j o' hj
   by_cases ej : j = id
   ·simp [Hp.del, ej] at hj
   ·exact ⟨o', by rw [Hp.del_ne _ ej] at hj; exact hj, .refl _⟩
  ·intro v this
   cases this with
   | sl hl => rw [hnil] at hl; cases hl
   | slnil _ => exact .rsl0
 ·have hle := S.frz_le b
  refine ⟨S.frz b, rfl, hle, ?_, ?_⟩
  ·refine ⟨fun i hi => ⟨?_, (hH.fresh i hi).2⟩, ?_, ?_, ?_, fun p hp => (hH.giv p hp).mono hle⟩
   ·simp only [Hp.del]; split
    ·rfl
    ·exact (hH.fresh i hi).1
   ·rintro x (hx | rfl)
    ·exact hH.immlt x hx
    ·exact (Array.getElem?_eq_some_iff.1 hb).1
   ·intro i o hi
    have ne : i ≠ id := by intro e; simp [Hp.del, e] at hi
    rw [Hp.del_ne _ ne] at hi
    have old := hH.obj i o hi
    have hne : ∀ x, S.loc i o.gen = .blk x → x ≠ b := fun x hx e => ne (hH.inj i id o _ x hi ho hx (by subst e; exact hl))
    cases o with
    | box st' n' f' =>
      obtain ⟨b', c', e', h1, h2, h3, h4⟩ := old
      exact ⟨b', c', e', h1, h2, fun hx => hx.elim h3 (hne b' h1), h4.1, h4.2.1, fun i j hi hj => (h4.2.2 i j hi hj).mono hle⟩
    | row st' n' f' =>
      obtain ⟨g1, old⟩ := old
      refine ⟨g1, old.imp (fun x => x) ?_⟩
      rintro ⟨b', c', e', h1, h2, h3, h4⟩
      exact ⟨b', c', e', h1, h2, fun hx => hx.elim h3 (hne b' h1), h4.1, h4.2.1, fun i j hi hj => (h4.2.2 i j hi hj).mono hle⟩
    | memo F =>
      obtain ⟨b', es, k, h1, h2, h3, h4⟩ := old
      exact ⟨b', es, k, h1, h2, fun hx => hx.elim h3 (hne b' h1), h4⟩
    | raw o =>
      obtain ⟨b', h1, h2, h3, h4⟩ := old
      exact ⟨b', h1, h2, h3, fun hx => hx.elim h4 (hne b' h1)⟩
    | loop l n s ps assign body st pend did =>
      obtain ⟨h1, h2, fn, tmps, D, h3, h4, h5, h6⟩ := old
      exact ⟨h1, fun hx => hx.elim h2 (hne l h1), fn, tmps, D, h3, h4, h5.mono hle, h6⟩
   ·intro i j o o' x hi hj
    have ne : i ≠ id := by intro e; simp [Hp.del, e] at hi
    have ne' : j ≠ id := by intro e; simp [Hp.del, e] at hj
    rw [Hp.del_ne _ ne] at hi
    rw [Hp.del_ne _ ne'] at hj
    exact hH.inj i j o o' x hi hj
  ·intro v this
   cases this with
   | sl hl' hb' _ hlen' =>
     rw [hl] at hl'; cases hl'
     exact .rsl (off := 0) (.inr rfl) hb (by rw [Nat.zero_add]; exact hc.1) hc.2.1 (fun i j hi hj => by rw [Nat.zero_add]; exact (hc.2.2 i j hi hj).mono hle) hlen'
   | slnil hl' => rw [hl] at hl'; cases hl'

/-- What is frozen: the row's slices become its data. -/
def Frz (id st n : Nat) (f : Nat → List AV) (x y : AV) : Prop := y = x ∨ (x = .sl id st n ∧ y = .rsl n st f)
theorem Frz.rfl {id st n : Nat} {f : Nat → List AV} {x : AV} : Frz id st n f x x := .inl (Eq.refl x)
theorem Frz.hit {id st n : Nat} {f : Nat → List AV} : Frz id st n f (.sl id st n) (.rsl n st f) := .inr ⟨Eq.refl _, Eq.refl _⟩

/-- A row that is written no more, of which a box tells. -/
theorem Ent.freezeBox {s s' : Fr} {ds : List AD} {H : Hp} {K : Fr → List AD → Hp → Prop} {id st n j st' n' : Nat} {f g g' : Nat → List AV} (ho : H id = some (.row st n f)) (hj : H j = some (.box st' n' g))
  (hs : ∀ t, Frz id st n f (s t) (s' t)) (hl : ∀ k, k < n' → (g' k).length = st') (hg : ∀ k c, k < n' → c < st' → Frz id st n f ((g k).getD c .any) ((g' k).getD c .any))
  (h : K s' ds ((H.del id).set j (.box st' n' g'))) : Ent s ds H K := by
 intro S a hH hF hD
 obtain ⟨S2, hw, hle, h2, hc⟩ := frz_step hH ho
 have hne : j ≠ id := fun e => by rw [e, ho] at hj; cases hj
 have conv : ∀ x y v, Frz id st n f x y → VRel S x v → VRel S2 y v := fun x y v hxy hv => by
  rcases hxy with rfl | ⟨rfl, rfl⟩
  ·exact hv.mono hle
  ·exact hc v hv
 have hj2 : (H.del id) j = some (.box st' n' g) := by rw [Hp.del_ne _ hne]; exact hj
 refine ⟨S2, s', ds, _, hw, hle, ?_, fun t => conv _ _ _ (hs t) (hF t), hD.mono hle, h⟩
 obtain ⟨b, c, e, a1, a2, a3, a4⟩ := hH.obj j _ hj
 obtain ⟨b2, c2, e2, q1, q2, q3, q4⟩ := h2.obj j _ hj2
 have eb : b2 = b := by
  have := hle.locBlk a1
  rw [this] at q1
  cases q1; rfl
 subst eb
 rw [hw, a2] at q2
 cases q2
 refine ⟨fun i hi => ⟨?_, (h2.fresh i hi).2⟩, h2.immlt, ?_, ?_, h2.giv⟩
 ·have hi' := (h2.fresh i hi).1
  by_cases ei : i = j
  ·subst ei; rw [hj2] at hi'; cases hi'
  ·rw [Hp.set_ne _ _ ei]; exact hi'
 ·intro i o hi
  by_cases ei : i = j
  ·subst ei
   rw [Hp.set_same] at hi
   cases hi
   exact ⟨b2, c, e, q1, by rw [hw]; exact a2, q3, a4.1, hl, fun k d hk hd => conv _ _ _ (hg k d hk hd) (a4.2.2 k d hk hd)⟩
  ·rw [Hp.set_ne _ _ ei] at hi
   exact h2.obj i o hi
 ·intro i i' o o' x hi hi' hx hx'
  have back : ∀ k o, ((H.del id).set j (.box st' n' g')) k = some o → ∃ p, (H.del id) k = some p ∧ p.gen = o.gen := fun k o hk => by
   by_cases ek : k = j
   ·subst ek
    rw [Hp.set_same] at hk
    cases hk
    exact ⟨_, hj2, Eq.refl _⟩
   ·rw [Hp.set_ne _ _ ek] at hk
    exact ⟨o, hk, Eq.refl _⟩
  obtain ⟨p, p1, p2⟩ := back i o hi
  obtain ⟨p', p1', p2'⟩ := back i' o' hi'
  exact h2.inj i i' p p' x p1 p1' (by rw [p2]; exact hx) (by rw [p2']; exact hx')

end Go.V
end
section
set_option linter.unusedVariables false
namespace Go.V
set_option linter.unusedSectionVars false
variable [Inhabited GivT]
theorem HRel.boxUpd {S : St} {H : Hp} {j st n : Nat} {g g' : Nat → List AV} (hH : HRel S H) (hj : H j = some (.box st n g)) (hl : ∀ k, k < n → (g' k).length = st)
  (hg : ∀ k d v, k < n → d < st → VRel S ((g k).getD d .any) v → VRel S ((g' k).getD d .any) v) : HRel S (H.set j (.box st n g')) := by
 obtain ⟨b, c, e, q1, q2, q3, q4⟩ := hH.obj j _ hj
 refine ⟨fun i hi => ⟨?_, (hH.fresh i hi).2⟩, hH.immlt, ?_, ?_, hH.giv⟩
 ·have hi' := (hH.fresh i hi).1
  by_cases ei : i = j
  ·subst ei; rw [hj] at hi'; cases hi'
  ·rw [Hp.set_ne _ _ ei]; exact hi'
 ·intro i o hi
  by_cases ei : i = j
  ·subst ei
   rw [Hp.set_same] at hi
   cases hi
   exact ⟨b, c, e, q1, q2, q3, q4.1, hl, fun k d hk hd => hg k d _ hk hd (q4.2.2 k d hk hd)⟩
  ·rw [Hp.set_ne _ _ ei] at hi
   exact hH.obj i o hi
 ·intro i i' o o' x hi hi' hx hx'
  have back : ∀ k o, (H.set j (.box st n g')) k = some o → ∃ p, H k = some p ∧ p.gen = o.gen := fun k o hk => by
   by_cases ek : k = j
   ·subst ek
    rw [Hp.set_same] at hk
    cases hk
    exact ⟨_, hj, Eq.refl _⟩
   ·rw [Hp.set_ne _ _ ek] at hk
    exact ⟨o, hk, Eq.refl _⟩
  obtain ⟨p, p1, p2⟩ := back i o hi
  obtain ⟨p', p1', p2'⟩ := back i' o' hi'
  exact hH.inj i i' p p' x p1 p1' (by rw [p2]; exact hx) (by rw [p2']; exact hx')

/-- Nil becomes a row of none. -/
def Nld (id st : Nat) (x y : AV) : Prop := y = x ∨ (x = .lit (.slice none 0 0) ∧ y = .sl id st 0)
theorem Nld.rfl {id st : Nat} {x : AV} : Nld id st x x := .inl (Eq.refl x)
theorem Nld.hit {id st : Nat} : Nld id st (.lit (.slice none 0 0)) (.sl id st 0) := .inr ⟨Eq.refl _, Eq.refl _⟩

theorem Ent.nilBox {s : Fr} {ds : List AD} {H : Hp} {K : Fr → List AD → Hp → Prop} {j st' n' : Nat} {g : Nat → List AV} (st : Nat) (f : Nat → List AV) (g' : Nat → Nat → List AV) (hj : H j = some (.box st' n' g))
  (hl : ∀ id k, k < n' → (g' id k).length = st') (hg : ∀ id k c, k < n' → c < st' → Nld id st ((g k).getD c .any) ((g' id k).getD c .any))
  (h : ∀ id, H id = none → K s ds ((H.set id (.row st 0 f)).set j (.box st' n' (g' id)))) : Ent s ds H K := by
 intro S a hH hF hD
 have hnone := St.next_none hH
 have hle := S.layNil_le hH
 have hne : j ≠ S.next := fun e => by rw [← e, hj] at hnone; cases hnone
 have h2 := hH.layNil st f
 have hj2 : (H.set S.next (.row st 0 f)) j = some (.box st' n' g) := by rw [Hp.set_ne _ _ hne]; exact hj
 refine ⟨S.layNil, s, ds, _, rfl, hle, h2.boxUpd hj2 (hl S.next) (fun k d v hk hd hv => ?_), fun t => (hF t).mono hle, hD.mono hle, h S.next hnone⟩
 rcases hg S.next k d hk hd with e | ⟨e1, e2⟩
 ·rw [e]; exact hv
 ·rw [e2]
  rw [e1] at hv
  have := hv.lit_inv
  subst this
  exact .slnil (by simp [St.layNil])

end Go.V
end
section
set_option linter.unusedVariables false
namespace Go.V
set_option linter.unusedSectionVars false
variable [Inhabited GivT]
/-- A value in which a row is now data. -/
inductive FrzD (id st n : Nat) (f : Nat → List AV) : AV → AV → Prop
 | same (x : AV) : FrzD id st n f x x
 | hit {g : Nat → List AV} (h : ∀ i, i < n → f i = g i) : FrzD id st n f (.sl id st n) (.rsl n st g)
 | agg {cs cs' : List AV} (hl : cs'.length = cs.length) (h : ∀ k, k < cs.length → FrzD id st n f (cs.getD k .any) (cs'.getD k .any)) : FrzD id st n f (.agg cs) (.agg cs')
 | tuple {cs cs' : List AV} (hl : cs'.length = cs.length) (h : ∀ k, k < cs.length → FrzD id st n f (cs.getD k .any) (cs'.getD k .any)) : FrzD id st n f (.tuple cs) (.tuple cs')

theorem FrzD.conv {S S2 : St} {id st n : Nat} {f : Nat → List AV} (hle : Le S S2) (hc : ∀ v, VRel S (.sl id st n) v → VRel S2 (.rsl n st f) v) {x y : AV} (hxy : FrzD id st n f x y) : ∀ v, VRel S x v → VRel S2 y v := by
 induction hxy with
 | same x => intro v hv; exact hv.mono hle
 | hit h => intro v hv; exact AV.Le.rsl h _ _ (hc v hv)
 | agg hl h ih =>
   intro v hv
   cases hv with
   | agg hn hv => exact .agg (hn.trans hl.symm) fun k hk => ih k (by omega) _ (hv k (by omega))
 | tuple hl h ih =>
   intro v hv
   cases hv with
   | tuple hn hv => exact .tuple (hn.trans hl.symm) fun k hk => ih k (by omega) _ (hv k (by omega))

/-- A row that is handed back inside a value, to be written no more. -/
theorem Tri.thawD {P : Program} {fv : AV} {args : List AV} {H : Hp} {R1 R : Res → Hp → Prop} (h : Tri P fv args H R1)
  (hR : ∀ r H', R1 r H' → R r H' ∨ ∃ v v' id st n f, r = .ret v ∧ H' id = some (.row st n f) ∧ FrzD id st n f v v' ∧ R (.ret v') (H'.del id)) : Tri P fv args H R := by
 intro S vf vs hH hvf ha
 obtain ⟨nx, h1, h2⟩ := h S vf vs hH hvf ha
 have ho : ∀ e w, Out S R1 e w → Out S R e w := by
  rintro e w ⟨S', r, H', hw, hle, hH', hres, hr⟩
  rcases hR r H' hr with hr | ⟨v, v', id, st, n, f, rfl, hob, hf, hr⟩
  ·exact ⟨S', r, H', hw, hle, hH', hres, hr⟩
  ·cases e with
   | returned cv =>
     obtain ⟨S2, hw2, hle2, hH2, hc⟩ := frz_step hH' hob
     exact ⟨S2, .ret v', _, hw2.trans hw, hle.trans hle2, hH2, hf.conv hle2 hc cv hres, hr⟩
   | _ => exact hres.elim
 refine ⟨nx, h1, ?_⟩
 cases nx <;> simp only [NextOk] at h2 ⊢
 ·exact Calls.mono h2 ho
 ·exact h2.mono ho

theorem tri_freezeD {P : Program} {fv : AV} {args args' : List AV} {H : Hp} {R : Res → Hp → Prop} {id st n : Nat} {f : Nat → List AV} (ho : H id = some (.row st n f)) (hl : args'.length = args.length)
  (hs : ∀ k, k < args.length → FrzD id st n f (args.getD k .any) (args'.getD k .any)) (h : Tri P fv args' (H.del id) R) : Tri P fv args H R := by
 intro S vf vs hH hvf ha
 obtain ⟨S2, hw, hle, h2, hc⟩ := frz_step hH ho
 have conv : ∀ x y, FrzD id st n f x y → ∀ v, VRel S x v → VRel S2 y v := fun x y hxy => hxy.conv hle hc
 obtain ⟨nx, h1, h3⟩ := h S2 vf vs h2 (hvf.mono hle) ⟨by rw [hl]; exact ha.1, fun k hk => conv _ _ (hs k (by omega)) _ (ha.2 k (by omega))⟩
 rw [hw] at h1
 have hout : ∀ e w, Out S2 R e w → Out S R e w := fun e w ⟨S3, r, H2, a, b, c, d, e'⟩ => ⟨S3, r, H2, a, hle.trans b, c, d, e'⟩
 refine ⟨nx, h1, ?_⟩
 cases nx <;> simp only [NextOk] at h3 ⊢
 ·rw [hw] at h3; exact Calls.mono h3 hout
 ·rw [hw] at h3; exact h3.mono hout

end Go.V
end
section
set_option linter.unusedVariables false
namespace Go.V
set_option linter.unusedSectionVars false
variable [Inhabited GivT]
section
variable {r : Option Nat} {P : Program} {m : Option Tmp → Bool} {n : Nat} {k : List It} {s : Fr} {ds : List AD} {H : Hp} {Q : Post}
theorem vs_entL {c : Code} (h : Ent s ds H fun s ds H => VS r P m n (.code (.loop c) :: k) s ds H Q) : VS r P m n (.code (.loop c) :: k) s ds H Q :=
 (wps_ent h : WPS r P n (.loop c) s ds H (TK r P m n k Q))
end
theorem Hp.del_get (H : Hp) (i j : Nat) : (H.del i) j = if j = i then none else H j := rfl
end Go.V
end
section
set_option linter.unusedVariables false
set_option linter.unusedSimpArgs false
namespace Go.V
set_option linter.unusedSectionVars false
variable [Inhabited GivT]
abbrev i64 (n : Int) : AV := .lit (.int .i64 n)
abbrev u64 (n : Int) : AV := .lit (.int .u64 n)
abbrev u8 (n : Int) : AV := .lit (.int .u8 n)
abbrev u16 (n : Int) : AV := .lit (.int .u16 n)
abbrev boo (b : Bool) : AV := .lit (.bool b)
abbrev bx (n : Int) : AV := .rptr 1 1 (fun _ => [i64 n]) 0 0

theorem getD_snoc {α : Type} (l : List α) (x d : α) (k : Nat) : (l ++ [x]).getD k d = if k = l.length then x else l.getD k d := by
 by_cases h : k = l.length
 ·subst h; simp
 ·rw [if_neg h]
  by_cases h2 : k < l.length
  ·rw [List.getD_eq_getElem?_getD, List.getD_eq_getElem?_getD, List.getElem?_append_left h2]
  ·rw [List.getD_eq_getElem?_getD, List.getD_eq_getElem?_getD, List.getElem?_eq_none (by simp; omega), List.getElem?_eq_none (by omega)]
theorem take_snoc {α : Type} (l : List α) (i : Nat) (d : α) (h : i < l.length) : l.take (i + 1) = l.take i ++ [l.getD i d] := by
 rw [List.take_add_one, List.getD_eq_getElem?_getD, List.getElem?_eq_getElem h]; rfl
theorem mem_getD {α : Type} (l : List α) (i : Nat) (d : α) (h : i < l.length) : l.getD i d ∈ l := by
 rw [List.getD_eq_getElem?_getD, List.getElem?_eq_getElem h]; exact List.getElem_mem h
theorem getD_mem {α : Type} {l : List α} {x : α} (d : α) (h : x ∈ l) : ∃ i, i < l.length ∧ l.getD i d = x := by
 obtain ⟨i, hi, e⟩ := List.getElem_of_mem h
 exact ⟨i, hi, by rw [List.getD_eq_getElem?_getD, List.getElem?_eq_getElem hi]; exact e⟩
/-- A list, each thing of which is so many cells. -/
def lF {α : Type} (en : α → List AV) (d : α) (l : List α) : Nat → List AV := fun i => en (l.getD i d)
theorem app_lF {α : Type} (en : α → List AV) (d : α) (l : List α) (x : α) (g : Nat → List AV) (hg : g 0 = en x) : appF l.length 1 (lF en d l) g = lF en d (l ++ [x]) := by
 funext k
 simp only [appF, lF, hg, getD_snoc]
 split <;> rfl
abbrev enI (z : Int) : List AV := [i64 z]
abbrev enN (z : Nat) : List AV := [i64 (z : Int)]
abbrev enU (z : Nat) : List AV := [u64 (z : Int)]
def intF (l : List Int) : Nat → List AV := fun i => [i64 (l.getD i 0)]
abbrev intsAV (l : List Int) : AV := .rsl l.length 1 (intF l)
theorem intF_at (l : List Int) (i : Nat) : intF l i = [i64 (l.getD i 0)] := rfl
theorem app_ints (l : List Int) (w : Int) (g : Nat → List AV) (hg : g 0 = [i64 w]) : appF l.length 1 (intF l) g = intF (l ++ [w]) := app_lF enI 0 l w g hg
def llF (l : List (List Int)) : Nat → List AV := fun i => [intsAV (l.getD i [])]
abbrev llAV (l : List (List Int)) : AV := .rsl l.length 1 (llF l)
theorem bit_eq (S i : Nat) : decide ((((S : Int) / 2 ^ i).toNat &&& Int.toNat 1 : Nat) = (1 : Int)) = S.testBit i := by
 have e : ((S : Int) / 2 ^ i).toNat = S / 2 ^ i := by
  have : (S : Int) / 2 ^ i = ((S / 2 ^ i : Nat) : Int) := by simp
  rw [this]; rfl
 rw [e, Nat.testBit_eq_decide_div_mod_eq]
 show decide (((S / 2 ^ i &&& 1 : Nat) : Int) = 1) = _
 rw [Nat.and_one_is_mod]
 congr 1
 apply propext
 omega
theorem full_bit (m j : Nat) (hj : j < m) : (2 ^ m - 1).testBit j = true := by
 rw [Nat.testBit_two_pow_sub_one]; simpa using hj
/-- How many bits there are. -/
def popN : Nat → Nat → Nat
 | 0, _ => 0
 | f + 1, s => s % 2 + popN f (s / 2)
def pop (s : Nat) : Nat := popN 64 s
theorem popN_zero (f : Nat) : popN f 0 = 0 := by
 induction f with
 | zero => rfl
 | succ f ih => simp [popN, ih]
theorem popN_fuel (f g s : Nat) (hf : s < 2 ^ f) (hg : s < 2 ^ g) : popN f s = popN g s := by
 induction f generalizing g s with
 | zero => have : s = 0 := by simpa using hf
           subst this; rw [popN_zero, popN_zero]
 | succ f ih =>
   cases g with
   | zero => have : s = 0 := by simpa using hg
             subst this; rw [popN_zero, popN_zero]
   | succ g =>
     rw [Nat.pow_succ] at hf hg
     simp only [popN, ih g (s / 2) (by omega) (by omega)]
theorem pop_step (s : Nat) (hs : s < 2 ^ 60) : pop s = s % 2 + pop (s / 2) := by
 show s % 2 + popN 63 (s / 2) = _
 rw [pop, popN_fuel 63 64 (s / 2) (by omega) (by omega)]
theorem pop_le (s : Nat) : pop s ≤ 64 := by
 have : ∀ f s, popN f s ≤ f := fun f => by
  induction f with
  | zero => intro s; simp [popN]
  | succ f ih => intro s; have := ih (s / 2); simp only [popN]; omega
 exact this 64 s
end Go.V
end
section
set_option linter.unusedVariables false
namespace Go.V
set_option linter.unusedSectionVars false
variable [Inhabited GivT]
theorem AV.Le.nil (st : Nat) (f : Nat → List AV) : AV.Le (.lit (.slice none 0 0)) (.rsl 0 st f) := by
 intro S v hv
 have := hv.lit_inv
 subst this
 exact .rsl0
end Go.V
end
section
set_option linter.unusedVariables false
set_option linter.unusedSimpArgs false
namespace Go.V
set_option linter.unusedSectionVars false
variable [Inhabited GivT]
theorem tri_inv {P : Program} {T : TypeId} {nm : String} {f : FuncId} {recv : AV} {args : List AV} {H : Hp} {R : Res → Hp → Prop} (hm : methT P T nm f) (h : Tri P (fnA f) (recv :: args) H R) :
  Tri P (.func (.method nm) [] []) (.iface T recv :: args) H R := by
 intro S vf vs hH hvf ha
 cases hvf with
 | @func _ _ _ ws us hn hu h1 h2 =>
   have hws : ws = #[] := by simpa using hn
   subst hws
   have hus : us = #[] := by simpa using hu
   subst hus
   obtain ⟨hlen, hall⟩ := ha
   cases vs with
   | nil => simp at hlen
   | cons x vs =>
     have hx := hall 0 (by simp)
     simp only [List.getD_cons_zero] at hx
     cases hx with
     | @iface _ _ cv hcv =>
       obtain ⟨nx, e1, e2⟩ := h S (.func (.func f) #[] #[]) (cv :: vs) hH (.func rfl rfl (fun k hk => absurd hk (by simp)) (fun k hk => absurd hk (by simp)))
        ⟨by simpa using hlen, fun k hk => by
         cases k with
         | zero => exact hcv
         | succ k => simpa using hall (k+1) (by simpa using hk)⟩
       refine ⟨nx, ?_, e2⟩
       rw [← e1]
       simp only [Deferred.ofValue, Sem.run_bind, Sem.run_pure, Result.andThen_ok, invoke]
       have a1 : (#[] ++ (Value.iface T cv :: vs).toArray : Array Value)[0]? = some (.iface T cv) := by simp
       have a2 : (#[] ++ (Value.iface T cv :: vs).toArray : Array Value).extract 1 (#[] ++ (Value.iface T cv :: vs).toArray : Array Value).size = vs.toArray := by
        apply Array.toList_inj.1; simp
       simp only [a1, a2, hm cv vs.toArray S.w]
       congr 2
       simp
end Go.V
end
section
set_option linter.unusedVariables false
namespace Go.V
set_option linter.unusedSectionVars false
variable [Inhabited GivT]
theorem frz_stepB {S : St} {H : Hp} {id st n : Nat} {f : Nat → List AV} (hH : HRel S H) (ho : H id = some (.box st n f)) :
  ∃ S2, S2.w = S.w ∧ Le S S2 ∧ HRel S2 (H.del id) ∧ ∀ i j v, VRel S (.ref id 0 st i j) v → VRel S2 (.rptr n st f i j) v := by
 obtain ⟨b, c, e, hl, hb, hni, hc⟩ := hH.obj id _ ho
 have hle := S.frz_le b
 refine ⟨S.frz b, rfl, hle, ?_, ?_⟩
 ·refine ⟨fun i hi => ⟨?_, (hH.fresh i hi).2⟩, ?_, ?_, ?_, fun p hp => (hH.giv p hp).mono hle⟩
  ·simp only [Hp.del]; split
   ·rfl
   ·exact (hH.fresh i hi).1
  ·rintro x (hx | rfl)
   ·exact hH.immlt x hx
   ·exact (Array.getElem?_eq_some_iff.1 hb).1
  ·intro i o hi
   have ne : i ≠ id := by intro e; simp [Hp.del, e] at hi
   rw [Hp.del_ne _ ne] at hi
   have old := hH.obj i o hi
   have hne : ∀ x, S.loc i o.gen = .blk x → x ≠ b := fun x hx e => ne (hH.inj i id o _ x hi ho hx (by subst e; exact hl))
   cases o with
   | box st' n' f' =>
     obtain ⟨b', c', e', h1, h2, h3, h4⟩ := old
     exact ⟨b', c', e', h1, h2, fun hx => hx.elim h3 (hne b' h1), h4.1, h4.2.1, fun i j hi hj => (h4.2.2 i j hi hj).mono hle⟩
   | row st' n' f' =>
     obtain ⟨g1, old⟩ := old
     refine ⟨g1, old.imp (fun x => x) ?_⟩
     rintro ⟨b', c', e', h1, h2, h3, h4⟩
     exact ⟨b', c', e', h1, h2, fun hx => hx.elim h3 (hne b' h1), h4.1, h4.2.1, fun i j hi hj => (h4.2.2 i j hi hj).mono hle⟩
   | memo F =>
     obtain ⟨b', es, k, h1, h2, h3, h4⟩ := old
     exact ⟨b', es, k, h1, h2, fun hx => hx.elim h3 (hne b' h1), h4⟩
   | raw o =>
     obtain ⟨b', h1, h2, h3, h4⟩ := old
     exact ⟨b', h1, h2, h3, fun hx => hx.elim h4 (hne b' h1)⟩
   | loop l n s ps assign body st pend did =>
     obtain ⟨h1, h2, fn, tmps, D, h3, h4, h5, h6⟩ := old
     exact ⟨h1, fun hx => hx.elim h2 (hne l h1), fn, tmps, D, h3, h4, h5.mono hle, h6⟩
  ·intro i j o o' x hi hj
   have ne : i ≠ id := by intro e; simp [Hp.del, e] at hi
   have ne' : j ≠ id := by intro e; simp [Hp.del, e] at hj
   rw [Hp.del_ne _ ne] at hi
   rw [Hp.del_ne _ ne'] at hj
   exact hH.inj i j o o' x hi hj
 ·intro i j v this
  cases this with
  | ref hl' =>
    rw [hl] at hl'; cases hl'
    have := VRel.rptr (S := S.frz b) (i := i) (j := j) (off := 0) (.inr rfl) hb (by rw [Nat.zero_add]; exact hc.1) hc.2.1 (fun i j hi hj => by rw [Nat.zero_add]; exact (hc.2.2 i j hi hj).mono hle)
    rw [Nat.zero_add] at this
    exact this

/-- The box becomes its data in every slot that points to it. -/
theorem Ent.freezeB {s s' : Fr} {ds : List AD} {H : Hp} {K : Fr → List AD → Hp → Prop} {id st n : Nat} {f : Nat → List AV} (ho : H id = some (.box st n f))
  (hs : ∀ t, s' t = s t ∨ ∃ i j, s t = .ref id 0 st i j ∧ s' t = .rptr n st f i j) (h : K s' ds (H.del id)) : Ent s ds H K := by
 intro S a hH hF hD
 obtain ⟨S2, hw, hle, h2, hc⟩ := frz_stepB hH ho
 refine ⟨S2, s', ds, H.del id, hw, hle, h2, fun t => ?_, hD.mono hle, h⟩
 rcases hs t with e | ⟨i, j, e1, e2⟩
 ·rw [e]; exact (hF t).mono hle
 ·rw [e2]
  have := hF t
  rw [e1] at this
  exact hc _ _ _ this

/-- A rule for a smaller heap holds for the larger one. -/
theorem Tri.less {P : Program} {fv : AV} {args : List AV} {H H' : Hp} {R : Res → Hp → Prop} (hs : HSub H H') (h : Tri P fv args H' R) : Tri P fv args H R :=
 fun S vf vs hH => h S vf vs (hH.sub hs)
end Go.V
end
section
namespace Go.V
set_option linter.unusedSectionVars false
variable [Inhabited GivT]
variable {α : Type}
/-- What is told of two, where either may be missing. -/
def comb (join : α → α → α) : Option α → Option α → Option α
 | none, y => y
 | some a, none => some a
 | some a, some b => some (join a b)
theorem comb_none (join : α → α → α) (x : Option α) : comb join x none = x := by cases x <;> rfl
theorem none_comb (join : α → α → α) (x : Option α) : comb join none x = x := rfl
theorem comb_assoc {join : α → α → α} (hj : ∀ a b c, join (join a b) c = join a (join b c)) (x y z : Option α) : comb join (comb join x y) z = comb join x (comb join y z) := by
 cases x <;> cases y <;> cases z <;> simp [comb, hj]
/-- Of all of a list. -/
def foldJ (join : α → α → α) : List α → Option α
 | [] => none
 | a :: l => comb join (some a) (foldJ join l)
theorem foldJ_append {join : α → α → α} (hj : ∀ a b c, join (join a b) c = join a (join b c)) (l l' : List α) : foldJ join (l ++ l') = comb join (foldJ join l) (foldJ join l') := by
 induction l with
 | nil => rfl
 | cons a l ih => simp only [List.cons_append, foldJ, ih, comb_assoc hj]
theorem foldJ_map {join : α → α → α} {f : α → α} (hf : ∀ a b, f (join a b) = join (f a) (f b)) (l : List α) : foldJ join (l.map f) = (foldJ join l).map f := by
 induction l with
 | nil => rfl
 | cons a l ih =>
   simp only [List.map_cons, foldJ, ih]
   cases foldJ join l with
   | none => rfl
   | some b => simp only [comb, Option.map_some, hf]
theorem foldJ_none {join : α → α → α} (l : List α) : foldJ join l = none ↔ l = [] := by
 cases l with
 | nil => simp [foldJ]
 | cons a l => simp only [foldJ]; cases foldJ join l <;> simp [comb]
theorem foldJ_flat {β : Type} {join : α → α → α} (hj : ∀ a b c, join (join a b) c = join a (join b c)) (f : β → List α) (l : List β) (acc : Option α) :
  l.foldl (fun z p => comb join z (foldJ join (f p))) acc = comb join acc (foldJ join (l.flatMap f)) := by
 induction l generalizing acc with
 | nil => simp [foldJ, comb_none]
 | cons p l ih =>
   simp only [List.foldl_cons, ih, List.flatMap_cons, foldJ_append hj, comb_assoc hj]
end Go.V
end
section
set_option linter.unusedVariables false
set_option linter.unusedSimpArgs false
namespace Go.V
set_option linter.unusedSectionVars false
/-- The first set of a size, from one on, that suits. -/
def inn (f : Nat → Bool) (z : Nat) : Nat → Nat → Option Nat
 | 0, _ => none
 | n + 1, j => if (decide (pop j = z) && f j) = true then some j else inn f z n (j + 1)
def outF (f : Nat → Bool) (m : Nat) : Nat → Nat → Option Nat
 | 0, _ => none
 | n + 1, z => match inn f z (2 ^ m) 0 with
   | some j => some j
   | none => outF f m n (z + 1)
def fewV (f : Nat → Bool) (m : Nat) : Option Nat := outF f m (m + 1) 0
/-- The last of all sets that are smaller than those before. -/
def bsN (f : Nat → Bool) (b : Nat) : Nat → Nat
 | 0 => b
 | j + 1 => if (decide (pop j < pop (bsN f b j)) && f j) = true then j else bsN f b j
def rset (f : Nat → Bool) (m : Nat) : Option Nat := if f (2 ^ m - 1) = true then some (bsN f (2 ^ m - 1) (2 ^ m)) else none
def setE (e : Int) (r : Option Nat) : Int := if e = 0 then (if r.isSome = true then 0 else 4) else e
def setV (e : Int) (r : Option Nat) : Nat := if setE e r = 0 then r.getD 0 else 0
theorem setV_no {e : Int} {r : Option Nat} (h : e ≠ 0) : setE e r = e ∧ setV e r = 0 := by
 have h1 : setE e r = e := if_neg h
 exact ⟨h1, by rw [setV, h1, if_neg h]⟩
theorem setV_none {r : Option Nat} (h : r.isSome = false) : setE 0 r = 4 ∧ setV 0 r = 0 := by
 have h1 : setE 0 r = 4 := by rw [setE, if_pos rfl, h]; rfl
 exact ⟨h1, by rw [setV, h1, if_neg (by decide)]⟩
theorem setV_some {r : Option Nat} (h : r.isSome = true) : setE 0 r = 0 ∧ setV 0 r = r.getD 0 := by
 have h1 : setE 0 r = 0 := by rw [setE, if_pos rfl, if_pos h]
 exact ⟨h1, by rw [setV, h1, if_pos rfl]⟩
theorem inn_lt (f : Nat → Bool) (z n : Nat) : ∀ j r, inn f z n j = some r → j ≤ r ∧ r < j + n ∧ pop r = z ∧ f r = true := by
 induction n with
 | zero => intro j r h; cases h
 | succ n ih =>
   intro j r h
   simp only [inn] at h
   split at h
   ·rename_i hc
    cases h
    simp only [Bool.and_eq_true, decide_eq_true_eq] at hc
    exact ⟨Nat.le_refl _, by omega, hc.1, hc.2⟩
   ·obtain ⟨h1, h2, h3⟩ := ih _ _ h
    exact ⟨by omega, by omega, h3⟩
theorem outF_lt (f : Nat → Bool) (m n : Nat) : ∀ z r, outF f m n z = some r → r < 2 ^ m ∧ f r = true := by
 induction n with
 | zero => intro z r h; cases h
 | succ n ih =>
   intro z r h
   simp only [outF] at h
   split at h
   ·rename_i j hj
    cases h
    have := inn_lt _ _ _ _ _ hj
    exact ⟨by omega, this.2.2.2⟩
   ·exact ih _ _ h
theorem fewV_lt (f : Nat → Bool) (m : Nat) : (fewV f m).getD 0 < 2 ^ m := by
 cases h : fewV f m with
 | none => exact Nat.pow_pos (by decide)
 | some r => exact (outF_lt _ _ _ _ _ h).1
theorem inn_none (f : Nat → Bool) (z n : Nat) : ∀ j, inn f z n j = none → ∀ i, j ≤ i → i < j + n → f i = true → pop i ≠ z := by
 induction n with
 | zero => intro j _ i h1 h2; omega
 | succ n ih =>
   intro j h i h1 h2 hf he
   simp only [inn] at h
   split at h
   ·cases h
   ·rename_i hc
    by_cases e : i = j
    ·subst e; apply hc; rw [hf, decide_eq_true he]; rfl
    ·exact ih (j + 1) h i (by omega) (by omega) hf he
theorem inn_first (f : Nat → Bool) (z n : Nat) : ∀ j r, inn f z n j = some r → ∀ i, j ≤ i → i < j + n → f i = true → pop i = z → r ≤ i := by
 induction n with
 | zero => intro j r h; cases h
 | succ n ih =>
   intro j r h i h1 h2 hf he
   simp only [inn] at h
   split at h
   ·cases h; exact h1
   ·rename_i hc
    by_cases e : i = j
    ·subst e; exfalso; apply hc; rw [hf, decide_eq_true he]; rfl
    ·exact ih (j + 1) r h i (by omega) (by omega) hf he
/-- The least set that suits. -/
structure LeastSet (f : Nat → Bool) (m r : Nat) : Prop where
 lt : r < 2 ^ m
 is : f r = true
 le : ∀ i, i < 2 ^ m → f i = true → pop r < pop i ∨ pop r = pop i ∧ r ≤ i
theorem LeastSet.uniq {f : Nat → Bool} {m r r' : Nat} (h : LeastSet f m r) (h' : LeastSet f m r') : r = r' := by
 have h1 := h.le r' h'.lt h'.is
 have h2 := h'.le r h.lt h.is
 omega
theorem outF_some (f : Nat → Bool) (m n : Nat) : ∀ z r, outF f m n z = some r → z ≤ pop r ∧ (∀ i, i < 2 ^ m → f i = true → z ≤ pop i → pop r < pop i ∨ pop r = pop i ∧ r ≤ i) := by
 induction n with
 | zero => intro z r h; cases h
 | succ n ih =>
   intro z r h
   simp only [outF] at h
   split at h
   ·rename_i j hj
    cases h
    obtain ⟨_, _, h3, _⟩ := inn_lt _ _ _ _ _ hj
    refine ⟨by omega, fun i hi hf hz => ?_⟩
    by_cases e : pop i = z
    ·exact .inr ⟨by omega, inn_first f z _ 0 _ hj i (Nat.zero_le _) (by omega) hf e⟩
    ·exact .inl (by omega)
   ·rename_i hj
    obtain ⟨h1, h2⟩ := ih (z + 1) r h
    refine ⟨by omega, fun i hi hf hz => ?_⟩
    have := inn_none f z _ 0 hj i (Nat.zero_le _) (by omega) hf
    exact h2 i hi hf (by omega)
theorem outF_none (f : Nat → Bool) (m n : Nat) : ∀ z, outF f m n z = none → ∀ i, i < 2 ^ m → f i = true → z ≤ pop i → z + n ≤ pop i := by
 induction n with
 | zero => intro z _ i _ _ h; exact h
 | succ n ih =>
   intro z h i hi hf hz
   simp only [outF] at h
   split at h
   ·cases h
   ·rename_i hj
    have := inn_none f z _ 0 hj i (Nat.zero_le _) (by omega) hf
    have := ih (z + 1) h i hi hf (by omega)
    omega
theorem pop_all : ∀ m, m < 9 → ∀ i, i < 256 → i < 2 ^ m → pop i ≤ m ∧ (pop i = m → i = 2 ^ m - 1) := by decide +kernel
theorem pop_full : ∀ m, m < 9 → pop (2 ^ m - 1) = m := by decide +kernel
theorem fewV_some {f : Nat → Bool} {m r : Nat} (h : fewV f m = some r) : LeastSet f m r := by
 obtain ⟨h1, h2⟩ := outF_lt f m (m + 1) 0 r h
 exact ⟨h1, h2, fun i hi hf => (outF_some f m (m + 1) 0 r h).2 i hi hf (Nat.zero_le _)⟩
theorem fewV_none {f : Nat → Bool} {m : Nat} (hm : m ≤ 8) (h : fewV f m = none) : ∀ i, i < 2 ^ m → f i = false := by
 intro i hi
 rw [← Bool.not_eq_true]
 intro hf
 have h1 := outF_none f m (m + 1) 0 h i hi hf (Nat.zero_le _)
 have hp : 2 ^ m ≤ 2 ^ 8 := Nat.pow_le_pow_right (by decide) hm
 have h2 := (pop_all m (by omega) i (by omega) hi).1
 omega
section
variable [Inhabited GivT]
noncomputable def cdec (p : Prop) : Bool := @decide p (Classical.propDecidable p)
noncomputable def filP {α : Type} (p : α → Prop) (l : List α) : List α := l.filter fun a => cdec (p a)
/-- The least number with a property, if there is one. -/
structure MinS (o : Option Int) (S : Int → Prop) : Prop where
 le : ∀ x, S x → ∃ m, o = some m ∧ m ≤ x
 is : ∀ m, o = some m → S m
theorem MinS.uniq {o o' : Option Int} {S : Int → Prop} (h : MinS o S) (h' : MinS o' S) : o = o' := by
 cases ho : o with
 | none =>
   cases ho' : o' with
   | none => rfl
   | some m =>
     obtain ⟨q, hq, _⟩ := h.le m (h'.is m ho')
     rw [ho] at hq; cases hq
 | some m =>
   obtain ⟨q, hq, h1⟩ := h'.le m (h.is m ho)
   obtain ⟨q2, hq2, h2⟩ := h.le q (h'.is q hq)
   rw [ho] at hq2
   cases hq2
   rw [hq]
   congr 1
   omega
theorem MinS.congr {o : Option Int} {S S' : Int → Prop} (h : MinS o S) (e : ∀ x, S x ↔ S' x) : MinS o S' :=
 ⟨fun x hx => h.le x ((e x).2 hx), fun m hm => (e m).1 (h.is m hm)⟩
theorem MinS.some_iff {o : Option Int} {S : Int → Prop} (h : MinS o S) : o.isSome = true ↔ ∃ x, S x := by
 constructor
 ·intro ho
  obtain ⟨m, hm⟩ := Option.isSome_iff_exists.1 ho
  exact ⟨m, h.is m hm⟩
 ·rintro ⟨x, hx⟩
  obtain ⟨m, hm, _⟩ := h.le x hx
  rw [hm]; rfl
theorem minS_nil : MinS none fun _ => False := ⟨fun x h => h.elim, fun m h => by cases h⟩
theorem minS_comb {o o' : Option Int} {S S' : Int → Prop} (h : MinS o S) (h' : MinS o' S') : MinS (comb min o o') fun x => S x ∨ S' x := by
 constructor
 ·rintro x (hx | hx)
  ·obtain ⟨m, rfl, hm⟩ := h.le x hx
   cases o' with
   | none => exact ⟨m, rfl, hm⟩
   | some q => exact ⟨min m q, rfl, by omega⟩
  ·obtain ⟨m, rfl, hm⟩ := h'.le x hx
   cases o with
   | none => exact ⟨m, rfl, hm⟩
   | some q => exact ⟨min q m, rfl, by omega⟩
 ·intro m hm
  cases o with
  | none => exact .inr (h'.is m hm)
  | some q =>
    cases o' with
    | none => exact .inl (h.is m hm)
    | some r =>
      simp only [comb, Option.some.injEq] at hm
      subst hm
      by_cases e : q ≤ r
      ·rw [Int.min_eq_left e]; exact .inl (h.is q rfl)
      ·rw [Int.min_eq_right (by omega)]; exact .inr (h'.is r rfl)
theorem minS_fold (L : List Int) : MinS (foldJ min L) fun x => x ∈ L := by
 induction L with
 | nil => exact minS_nil.congr fun x => by simp
 | cons a L ih =>
   have h1 : MinS (some a) fun x => x = a := ⟨fun x hx => ⟨a, rfl, by omega⟩, fun m hm => by cases hm; rfl⟩
   exact (minS_comb h1 ih).congr fun x => by simp

def mnG {α : Type} (f : α → Int) (L : List α) (d : α) : Nat → α
 | 0 => L.getD 0 d
 | i + 1 => if f (L.getD i d) < f (mnG f L d i) then L.getD i d else mnG f L d i
theorem mnG_spec {α : Type} (f : α → Int) (L : List α) (d : α) (h : 0 < L.length) : ∀ i, i ≤ L.length → ∃ p, p < L.length ∧ mnG f L d i = L.getD p d ∧ (∀ q, q < i → f (L.getD p d) ≤ f (L.getD q d)) ∧ ∀ q, q < p → f (L.getD p d) < f (L.getD q d) := by
 intro i
 induction i with
 | zero => intro _; exact ⟨0, h, rfl, fun q hq => by omega, fun q hq => by omega⟩
 | succ i ih =>
   intro hi
   obtain ⟨p, hp, e, h1, h2⟩ := ih (by omega)
   simp only [mnG]
   split
   ·rename_i hc
    rw [e] at hc
    refine ⟨i, by omega, rfl, fun q hq => ?_, fun q hq => ?_⟩
    ·by_cases eq : q = i
     ·subst eq; exact Int.le_refl _
     ·have := h1 q (by omega); omega
    ·have := h1 q (by omega); omega
   ·rename_i hc
    rw [e] at hc
    refine ⟨p, hp, e, fun q hq => ?_, h2⟩
    by_cases eq : q = i
    ·subst eq; omega
    ·exact h1 q (by omega)
end
end Go.V
end
section
set_option linter.unusedVariables false
set_option linter.unusedSimpArgs false
namespace Go.Proofs.YtdopkbldjagmlaaGreat
open Go.V
instance : Inhabited GivT := ⟨⟨[]⟩⟩

/-- A pot of pitch. -/
structure Po where
 ht : Int
 fr : Int
 bb : Int
/-- A pitch. -/
structure Pt where
 hr : Int
 fro : Int
 per : Int
 fs : List Int
 ps : List Po
def po0 : Po := ⟨0, 0, 0⟩
/-- No far too much of anything. -/
structure Near (p : Pt) : Prop where
 nF : p.fs.length ≤ 40
 nP : p.ps.length ≤ 40
def Pt.H (p : Pt) : Nat := p.hr.toNat
def okSet (p : Pt) (n : Int) : Prop := 0 ≤ n ∧ n ≤ ((2 ^ p.H : Nat) : Int) - 1
def okP (p : Pt) (t : Po) : Prop := (1 ≤ t.ht ∧ t.ht ≤ 12) ∧ (0 ≤ t.fr ∧ t.fr ≤ p.hr) ∧ 0 ≤ t.bb ∧ t.bb ≤ p.hr
/-- A valid pitch. -/
structure Ok (p : Pt) : Prop where
 hr : 0 ≤ p.hr ∧ p.hr ≤ 12
 nF : p.fs.length ≤ 3
 nP : p.ps.length ≤ 4
 fro : okSet p p.fro
 per : okSet p p.per
 f : ∀ i, i < p.fs.length → okSet p (p.fs.getD i 0)
 s : ∀ i, i < p.ps.length → okP p (p.ps.getD i po0)
instance (p : Pt) (n : Int) : Decidable (okSet p n) := by unfold okSet; infer_instance
instance (p : Pt) (t : Po) : Decidable (okP p t) := by unfold okP; infer_instance
theorem ok_iff (p : Pt) : Ok p ↔ ((0 ≤ p.hr ∧ p.hr ≤ 12) ∧ p.fs.length ≤ 3 ∧ p.ps.length ≤ 4) ∧ (okSet p p.fro ∧ okSet p p.per) ∧ (∀ i, i < p.fs.length → okSet p (p.fs.getD i 0)) ∧ ∀ i, i < p.ps.length → okP p (p.ps.getD i po0) :=
 ⟨fun k => ⟨⟨k.hr, k.nF, k.nP⟩, ⟨k.fro, k.per⟩, k.f, k.s⟩, fun ⟨⟨a, b, c⟩, ⟨d, e⟩, f, g⟩ => ⟨a, b, c, d, e, f, g⟩⟩
instance (p : Pt) : Decidable (Ok p) := decidable_of_iff _ (ok_iff p).symm
theorem Ok.near {p : Pt} (k : Ok p) : Near p := ⟨by have := k.nF; omega, by have := k.nP; omega⟩
theorem Ok.H_eq {p : Pt} (k : Ok p) : (p.H : Int) = p.hr ∧ p.H ≤ 12 := by
 have := k.hr
 unfold Pt.H
 omega
theorem pow12 {n : Nat} (h : n ≤ 12) : 2 ^ n ≤ 4096 := Nat.pow_le_pow_right (by decide) h
theorem okSet_nat {p : Pt} {n : Int} (h : okSet p n) : ∃ m : Nat, n = (m : Int) ∧ m < 2 ^ p.H := by
 have h0 : 0 < 2 ^ p.H := Nat.two_pow_pos _
 unfold okSet at h
 exact ⟨n.toNat, by omega, by omega⟩

/-- The heat of so many hours from one on, there being frost in some. -/
def hsum (F h : Nat) : Nat → Nat
 | 0 => 0
 | n + 1 => hsum F h n + if F.testBit (h + n) = true then 1 else 2
/-- The hour at which there was so much heat; one more than all: there is not. -/
def endN (F : Nat) (ht : Int) (H h : Nat) : Nat := match (List.range (H - h)).find? fun n => decide (ht ≤ (hsum F h (n + 1) : Nat)) with
 | some n => h + n + 1
 | none => H + 1
theorem hsum_le (F h : Nat) : ∀ n, n ≤ hsum F h n ∧ hsum F h n ≤ 2 * n
 | 0 => by simp [hsum]
 | n + 1 => by have := hsum_le F h n; simp only [hsum]; split <;> omega
theorem hsum_mono (F h : Nat) {a b : Nat} (hab : a ≤ b) : hsum F h a ≤ hsum F h b := by
 induction hab with
 | refl => exact Nat.le_refl _
 | @step b _ ih => simp only [hsum]; split <;> omega
theorem endN_found {F H h e : Nat} {ht : Int} (he : h < e) (heH : e ≤ H) (h1 : ht ≤ (hsum F h (e - h) : Nat)) (h2 : ∀ e', h < e' → e' < e → ¬ ht ≤ (hsum F h (e' - h) : Nat)) : endN F ht H h = e := by
 have : (List.range (H - h)).find? (fun n => decide (ht ≤ (hsum F h (n + 1) : Nat))) = some (e - h - 1) := by
  rw [List.find?_range_eq_some]
  refine ⟨?_, by simp; omega, fun j hj => ?_⟩
  ·rw [decide_eq_true_eq, show e - h - 1 + 1 = e - h by omega]; exact h1
  ·have := h2 (h + j + 1) (by omega) (by omega)
   rw [show h + j + 1 - h = j + 1 by omega] at this
   rw [decide_eq_false this]; rfl
 unfold endN
 rw [this]
 show h + (e - h - 1) + 1 = e
 omega
theorem endN_none {F H h : Nat} {ht : Int} (h2 : ∀ e', h < e' → e' ≤ H → ¬ ht ≤ (hsum F h (e' - h) : Nat)) : endN F ht H h = H + 1 := by
 have : (List.range (H - h)).find? (fun n => decide (ht ≤ (hsum F h (n + 1) : Nat))) = none := by
  rw [List.find?_eq_none]
  intro j hj
  rw [List.mem_range] at hj
  have := h2 (h + j + 1) (by omega) (by omega)
  rw [show h + j + 1 - h = j + 1 by omega] at this
  simpa using this
 unfold endN
 rw [this]
/-- There is an hour with enough heat, the first of all, or none. -/
theorem endN_cases (F : Nat) (ht : Int) (H h : Nat) :
  (h < endN F ht H h ∧ endN F ht H h ≤ H ∧ ht ≤ (hsum F h (endN F ht H h - h) : Nat) ∧ ∀ e', h < e' → e' < endN F ht H h → ¬ ht ≤ (hsum F h (e' - h) : Nat)) ∨
  (endN F ht H h = H + 1 ∧ ∀ e', h < e' → e' ≤ H → ¬ ht ≤ (hsum F h (e' - h) : Nat)) := by
 cases hf : (List.range (H - h)).find? (fun n => decide (ht ≤ (hsum F h (n + 1) : Nat))) with
 | none =>
   right
   have e : endN F ht H h = H + 1 := by unfold endN; rw [hf]
   refine ⟨e, fun e' h1 h2 => ?_⟩
   rw [List.find?_eq_none] at hf
   have := hf (e' - h - 1) (List.mem_range.2 (by omega))
   rw [decide_eq_true_eq, show e' - h - 1 + 1 = e' - h by omega] at this
   exact this
 | some n =>
   left
   have e : endN F ht H h = h + n + 1 := by unfold endN; rw [hf]
   rw [List.find?_range_eq_some] at hf
   obtain ⟨f1, f2, f3⟩ := hf
   rw [List.mem_range] at f2
   rw [e, show h + n + 1 - h = n + 1 by omega]
   refine ⟨by omega, by omega, by simpa using f1, fun e' h1 h2 => ?_⟩
   have := f3 (e' - h - 1) (by omega)
   rw [show e' - h - 1 + 1 = e' - h by omega] at this
   simpa using this
theorem endN_gt (F : Nat) (ht : Int) {H h : Nat} (hh : h ≤ H) : h < endN F ht H h ∧ endN F ht H h ≤ H + 1 := by
 rcases endN_cases F ht H h with ⟨a, b, _⟩ | ⟨a, _⟩ <;> omega
theorem endN_le {F H h e : Nat} {ht : Int} (he : e ≤ H) (hlt : h < e) : endN F ht H h ≤ e ↔ ht ≤ (hsum F h (e - h) : Nat) := by
 rcases endN_cases F ht H h with ⟨a, b, c, d⟩ | ⟨a, b⟩
 ·constructor
  ·intro hle
   have := hsum_mono F h (show endN F ht H h - h ≤ e - h by omega)
   omega
  ·intro hs
   by_cases q : endN F ht H h ≤ e
   ·exact q
   ·exact absurd hs (d e hlt (by omega))
 ·constructor
  ·intro hle; omega
  ·intro hs; exact absurd hs (b e hlt he)
/-- The hours in which there is frost, for sure or perhaps. -/
def Pt.F (p : Pt) (b : Bool) : Nat := if b = true then p.fro.toNat ||| p.per.toNat else p.fro.toNat
def Pt.pot (p : Pt) (i : Nat) : Po := p.ps.getD i po0
/-- When a pot is hot. -/
def hotV (p : Pt) (b : Bool) (i h : Nat) : Nat := endN (p.F b) (p.pot i).ht p.H h
/-- The hours that a pot takes. -/
def tkN (p : Pt) (i h : Nat) : Nat := 2 ^ (min p.H (hotV p true i h)) - 2 ^ h
def fireN (p : Pt) (f : Nat) : Nat := (p.fs.getD f 0).toNat
def meet (a b : Nat) : Bool := !decide (a &&& b = 0)
/-- The rule that a pot breaks by itself. -/
def alR (p : Pt) (i : Nat) (x : Int × Int) : Int :=
 if x.2 < (p.pot i).fr then 1 else if (p.pot i).bb < (hotV p true i x.2.toNat : Nat) then 2 else if meet (tkN p i x.2.toNat) (fireN p x.1.toNat) = true then 3 else 0
/-- Do two pots take one hour on one fire? -/
def shrB (p : Pt) (a : Nat) (x : Int × Int) (b : Nat) (y : Int × Int) : Bool := decide (x.1 = y.1) && meet (tkN p a x.2.toNat) (tkN p b y.2.toNat)
/-- The rule that a pot breaks, those before it being at their places. -/
def brR (p : Pt) (i : Nat) (x : Int × Int) (b : List (Int × Int)) : Int :=
 if alR p i x = 0 then if ((List.range i).any fun j => shrB p j (b.getD j (0, 0)) i x) = true then 4 else 0 else alR p i x
def isFire (p : Pt) (n : Int) : Bool := decide (0 ≤ n) && decide (n ≤ (p.fs.length : Int) - 1)
def isHour (p : Pt) (n : Int) : Bool := decide (0 ≤ n) && decide (n ≤ IntKind.i64.wrap (p.hr - 1))
def isPot (p : Pt) (n : Int) : Bool := decide (0 ≤ n) && decide (n ≤ (p.ps.length : Int) - 1)
def placeB (p : Pt) (x : Int × Int) : Bool := isFire p x.1 && isHour p x.2
def planB (p : Pt) (l : List (Int × Int)) : Bool := l.all (placeB p) && decide (l.length = p.ps.length)
def errE (p : Pt) (v : Bool) : Int := if Ok p then if v = true then 0 else 2 else 1
theorem errE_no {p : Pt} (h : ¬ Ok p) (v : Bool) : errE p v = 1 := if_neg h
theorem errE_bad {p : Pt} (k : Ok p) : errE p false = 2 := by rw [errE, if_pos k, if_neg (by decide)]
theorem errE_ok {p : Pt} (k : Ok p) : errE p true = 0 := by rw [errE, if_pos k, if_pos rfl]
theorem errE_zero {p : Pt} {v : Bool} (h : errE p v = 0) : Ok p ∧ v = true := by
 unfold errE at h
 split at h
 ·rename_i k
  refine ⟨k, ?_⟩
  cases v
  ·simp at h
  ·rfl
 ·omega
theorem isPot_iff (p : Pt) (n : Int) : isPot p n = true ↔ 0 ≤ n ∧ n < p.ps.length := by simp [isPot]; omega
theorem isHour_iff {p : Pt} (k : Ok p) (n : Int) : isHour p n = true ↔ 0 ≤ n ∧ n < p.hr := by
 have h1 := k.hr
 have h2 : IntKind.i64.wrap (p.hr - 1) = p.hr - 1 := InR.wrap (k := .i64) (by rw [InR_i64]; omega)
 rw [isHour, h2, Bool.and_eq_true, decide_eq_true_eq, decide_eq_true_eq]; omega
theorem meet_iff {a b : Nat} : meet a b = true ↔ ∃ t, a.testBit t = true ∧ b.testBit t = true := by
 unfold meet
 rw [Bool.not_eq_true', decide_eq_false_iff_not]
 constructor
 ·intro h
  obtain ⟨t, ht⟩ := Nat.exists_testBit_of_ne_zero h
  rw [Nat.testBit_and, Bool.and_eq_true] at ht
  exact ⟨t, ht⟩
 ·rintro ⟨t, h1, h2⟩ h
  have : (a &&& b).testBit t = true := by rw [Nat.testBit_and, h1, h2]; rfl
  rw [h, Nat.zero_testBit] at this
  cases this
theorem F_lt {p : Pt} (k : Ok p) (b : Bool) : p.F b < 2 ^ p.H := by
 obtain ⟨m, e1, h1⟩ := okSet_nat k.fro
 obtain ⟨n, e2, h2⟩ := okSet_nat k.per
 unfold Pt.F
 rw [e1, e2, Int.toNat_natCast, Int.toNat_natCast]
 split
 ·exact Nat.or_lt_two_pow h1 h2
 ·exact h1
theorem tk_lt (p : Pt) (i h : Nat) : tkN p i h < 2 ^ p.H := by
 have h1 : 2 ^ (min p.H (hotV p true i h)) ≤ 2 ^ p.H := Nat.pow_le_pow_right (by decide) (Nat.min_le_left _ _)
 have h2 : 0 < 2 ^ h := Nat.two_pow_pos _
 have h3 : 0 < 2 ^ p.H := Nat.two_pow_pos _
 unfold tkN
 omega
end Go.Proofs.YtdopkbldjagmlaaGreat
end
section
set_option linter.unusedVariables false
set_option linter.unusedSimpArgs false
namespace Go.Proofs.YtdopkbldjagmlaaGreat
open Go.V
/-- The places of a pot, in order. -/
def places (p : Pt) : List (Int × Int) := (List.range p.fs.length).flatMap fun f : Nat => (List.range p.H).map fun h : Nat => ((f : Int), (h : Int))
theorem mem_places {p : Pt} {x : Int × Int} : x ∈ places p ↔ (0 ≤ x.1 ∧ x.1 < p.fs.length) ∧ 0 ≤ x.2 ∧ x.2 < p.H := by
 obtain ⟨a, b⟩ := x
 simp only [places, List.mem_flatMap, List.mem_map, List.mem_range, Prod.mk.injEq]
 constructor
 ·rintro ⟨f, hf, h, hh, rfl, rfl⟩; omega
 ·rintro ⟨⟨h1, h2⟩, h3, h4⟩; exact ⟨a.toNat, by omega, b.toNat, by omega, by omega, by omega⟩
/-- All right plans that go on from some places. -/
def pls (p : Pt) : Nat → List (Int × Int) → List (List (Int × Int))
 | 0, b => [b]
 | n + 1, b => (places p).flatMap fun x => if brR p b.length x b = 0 then pls p n (b ++ [x]) else []
def rpl (p : Pt) : List (List (Int × Int)) := pls p p.ps.length []
theorem brR_congr (p : Pt) (i : Nat) (x : Int × Int) {b c : List (Int × Int)} (h : ∀ j, j < i → b.getD j (0, 0) = c.getD j (0, 0)) : brR p i x b = brR p i x c := by
 have : ((List.range i).any fun j => shrB p j (b.getD j (0, 0)) i x) = (List.range i).any fun j => shrB p j (c.getD j (0, 0)) i x := by
  rw [Bool.eq_iff_iff, List.any_eq_true, List.any_eq_true]
  constructor
  ·rintro ⟨j, hj, h2⟩; exact ⟨j, hj, by rw [← h j (List.mem_range.1 hj)]; exact h2⟩
  ·rintro ⟨j, hj, h2⟩; exact ⟨j, hj, by rw [h j (List.mem_range.1 hj)]; exact h2⟩
 unfold brR
 rw [this]
theorem mem_pls {p : Pt} : ∀ (n : Nat) (b l : List (Int × Int)), l ∈ pls p n b ↔ l.length = b.length + n ∧ l.take b.length = b ∧ ∀ i, b.length ≤ i → i < l.length → l.getD i (0, 0) ∈ places p ∧ brR p i (l.getD i (0, 0)) l = 0 := by
 intro n
 induction n with
 | zero =>
   intro b l
   simp only [pls, List.mem_singleton, Nat.add_zero]
   constructor
   ·rintro rfl; exact ⟨rfl, List.take_length, fun i h1 h2 => by omega⟩
   ·rintro ⟨h1, h2, _⟩; rw [← h2, ← h1, List.take_length]
 | succ n ih =>
   intro b l
   simp only [pls, List.mem_flatMap]
   constructor
   ·rintro ⟨x, hx, h⟩
    split at h
    ·rename_i hb
     rw [ih] at h
     obtain ⟨h1, h2, h3⟩ := h
     rw [List.length_append, List.length_cons, List.length_nil] at h1 h2 h3
     have hg : l.getD b.length (0, 0) = x := by
      have e : l.getD b.length (0, 0) = (l.take (b.length + (0 + 1))).getD b.length (0, 0) := by
       rw [List.getD_eq_getElem?_getD, List.getD_eq_getElem?_getD, List.getElem?_take_of_lt (by omega)]
      rw [e, h2]
      simp [List.getD_eq_getElem?_getD]
     have ht : l.take b.length = b := by
      have := congrArg (List.take b.length) h2
      rw [List.take_take, show min b.length (b.length + (0 + 1)) = b.length by omega, List.take_left'  rfl] at this
      exact this
     refine ⟨by omega, ht, fun i h4 h5 => ?_⟩
     by_cases e : i = b.length
     ·subst e
      rw [hg]
      refine ⟨hx, ?_⟩
      refine (brR_congr p _ x fun j hj => ?_).trans hb
      conv => rhs; rw [← ht]
      rw [List.getD_eq_getElem?_getD, List.getD_eq_getElem?_getD, List.getElem?_take_of_lt hj]
     ·exact h3 i (by omega) h5
    ·cases h
   ·rintro ⟨h1, h2, h3⟩
    obtain ⟨h4, h5⟩ := h3 b.length (Nat.le_refl _) (by omega)
    refine ⟨l.getD b.length (0, 0), h4, ?_⟩
    have hj : ∀ j, j < b.length → l.getD j (0, 0) = b.getD j (0, 0) := fun j hj => by
     conv => rhs; rw [← h2]
     rw [List.getD_eq_getElem?_getD, List.getD_eq_getElem?_getD, List.getElem?_take_of_lt hj]
    rw [if_pos ((brR_congr p _ _ hj).symm.trans h5), ih]
    refine ⟨by simp; omega, ?_, fun i h6 h7 => h3 i (by simp at h6; omega) h7⟩
    rw [List.length_append, List.length_cons, List.length_nil, take_snoc l b.length (0, 0) (by omega), h2]
/-- A right plan. -/
structure RightP (p : Pt) (l : List (Int × Int)) : Prop where
 len : l.length = p.ps.length
 pl : ∀ i, i < l.length → l.getD i (0, 0) ∈ places p
 br : ∀ i, i < l.length → brR p i (l.getD i (0, 0)) l = 0
theorem mem_rpl {p : Pt} {l : List (Int × Int)} : l ∈ rpl p ↔ RightP p l := by
 rw [rpl, mem_pls]
 simp only [List.length_nil, Nat.zero_add, List.take_zero, true_and, Nat.zero_le, true_implies]
 exact ⟨fun ⟨a, b⟩ => ⟨a, fun i hi => (b i hi).1, fun i hi => (b i hi).2⟩, fun h => ⟨h.len, fun i hi => ⟨h.pl i hi, h.br i hi⟩⟩⟩

/-- A pot may have a place, if hours are taken. -/
def goB (p : Pt) (s : Nat) (u : List Nat) (x : Int × Int) : Bool := !meet (tkN p s x.2.toNat) (u.getD x.1.toNat 0) && decide (alR p s x = 0)
/-- The places that are next, and what is taken then. -/
def nxt (p : Pt) (s : Nat) (u : List Nat) : List ((Int × Int) × List Nat) :=
 ((places p).filter (goB p s u)).map fun x => (x, u.set x.1.toNat (u.getD x.1.toNat 0 ||| tkN p s x.2.toNat))
section
variable {α : Type} (p : Pt) (e : α) (more : Nat → Int × Int → α → α) (join : α → α → α)
/-- What is told of all plans that go on from something; none: there is none. -/
def tl : Nat → Nat → List Nat → Option α
 | 0, _, _ => some e
 | n + 1, s, u => (nxt p s u).foldl (fun z q => comb join z ((tl n (s + 1) q.2).map (more s q.1))) none
/-- The plans that go on from something, from this pot on. -/
def cont : Nat → Nat → List Nat → List (List (Int × Int))
 | 0, _, _ => [[]]
 | n + 1, s, u => (nxt p s u).flatMap fun q => (cont n (s + 1) q.2).map (q.1 :: ·)
def valT : Nat → List (Int × Int) → α
 | _, [] => e
 | s, o :: t => more s o (valT (s + 1) t)
theorem tl_eq (hj : ∀ a b c, join (join a b) c = join a (join b c)) (hm : ∀ s o a b, more s o (join a b) = join (more s o a) (more s o b)) :
  ∀ n s u, tl p e more join n s u = foldJ join ((cont p n s u).map (valT e more s)) := by
 intro n
 induction n with
 | zero => intro s u; rfl
 | succ n ih =>
   intro s u
   simp only [tl, cont]
   have h1 : (fun (z : Option α) (q : (Int × Int) × List Nat) => comb join z ((tl p e more join n (s + 1) q.2).map (more s q.1))) = fun z q => comb join z (foldJ join (((cont p n (s + 1) q.2).map (q.1 :: ·)).map (valT e more s))) := by
    funext z q
    rw [ih, ← foldJ_map (hm s q.1)]
    simp only [List.map_map]
    rfl
   rw [h1, foldJ_flat hj, none_comb, List.map_flatMap]
/-- What is told of the first ones of those that can be next. -/
def tlP (f : List Nat → Option α) (s : Nat) (l : List ((Int × Int) × List Nat)) : Option α := l.foldl (fun z q => comb join z ((f q.2).map (more s q.1))) none
theorem tl_succ (n s : Nat) (u : List Nat) : tl p e more join (n + 1) s u = tlP more join (tl p e more join n (s + 1)) s (nxt p s u) := rfl
theorem tlP_next (f : List Nat → Option α) (s : Nat) (l : List ((Int × Int) × List Nat)) (i : Nat) (hi : i < l.length) : tlP more join f s (l.take (i + 1)) = comb join (tlP more join f s (l.take i)) ((f (l.getD i ((0, 0), [])).2).map (more s (l.getD i ((0, 0), [])).1)) := by
 rw [take_snoc l i ((0, 0), []) hi]
 simp only [tlP, List.foldl_append, List.foldl_cons, List.foldl_nil]
/-- What may be told behind so many pots, of no more than so many plans. -/
structure Vd (V : Nat → Nat → α → Prop) : Prop where
 up : ∀ n j k a, j ≤ k → V n j a → V n k a
 hE : V 0 1 e
 hM : ∀ (n k s : Nat) (o : Int × Int) (r : α), o ∈ places p → V n k r → V (n + 1) k (more s o r)
 hJ : ∀ n j k a b, V n j a → V n k b → V n (j + k) (join a b)
end
section
variable {α : Type} {p : Pt} {e : α} {more : Nat → Int × Int → α → α} {join : α → α → α}
theorem tlP_V {V : Nat → Nat → α → Prop} (h : Vd p e more join V) {f : List Nat → Option α} {s n w : Nat} {l : List ((Int × Int) × List Nat)} (ho : ∀ q ∈ l, q.1 ∈ places p) (hf : ∀ q ∈ l, ∀ r, f q.2 = some r → V n w r) :
  ∀ i, i ≤ l.length → ∀ r, tlP more join f s (l.take i) = some r → V (n + 1) (i * w) r := by
 intro i
 induction i with
 | zero => intro _ r hr; cases hr
 | succ i ih =>
   intro hi r hr
   rw [tlP_next more join f s l i (by omega)] at hr
   have hm : l.getD i ((0, 0), []) ∈ l := mem_getD l i _ (by omega)
   cases hq : f (l.getD i ((0, 0), [])).2 with
   | none =>
     rw [hq] at hr
     simp only [Option.map_none, comb_none] at hr
     exact h.up _ _ _ _ (Nat.mul_le_mul_right _ (by omega)) (ih (by omega) r hr)
   | some q =>
     have hv := h.hM n w s (l.getD i ((0, 0), [])).1 q (ho _ hm) (hf _ hm _ hq)
     rw [hq] at hr
     simp only [Option.map_some] at hr
     cases hp : tlP more join f s (l.take i) with
     | none =>
       rw [hp] at hr
       simp only [comb, Option.some.injEq] at hr
       subst hr
       exact h.up _ _ _ _ (by rw [Nat.succ_mul]; omega) hv
     | some a =>
       rw [hp] at hr
       simp only [comb, Option.some.injEq] at hr
       subst hr
       rw [Nat.succ_mul]
       exact h.hJ _ _ _ _ _ (ih (by omega) a hp) hv
theorem nxt_len (s : Nat) (u : List Nat) : (nxt p s u).length ≤ p.fs.length * p.H := by
 have h : (places p).length = p.fs.length * p.H := by
  unfold places
  generalize p.fs.length = N
  induction N with
  | zero => simp
  | succ N ih => rw [List.range_succ, List.flatMap_append, List.length_append, ih]; simp [Nat.succ_mul]
 rw [nxt, List.length_map, ← h]
 exact List.length_filter_le _ _
theorem nxt_mem {s : Nat} {u : List Nat} {q : (Int × Int) × List Nat} (h : q ∈ nxt p s u) : q.1 ∈ places p ∧ goB p s u q.1 = true ∧ q.2 = u.set q.1.1.toNat (u.getD q.1.1.toNat 0 ||| tkN p s q.1.2.toNat) := by
 unfold nxt at h
 rw [List.mem_map] at h
 obtain ⟨x, hx, rfl⟩ := h
 rw [List.mem_filter] at hx
 exact ⟨hx.1, hx.2, rfl⟩
theorem tl_V {V : Nat → Nat → α → Prop} (h : Vd p e more join V) : ∀ n s u r, tl p e more join n s u = some r → V n ((p.fs.length * p.H) ^ n) r := by
 intro n
 induction n with
 | zero => intro s u r hr; simp only [tl, Option.some.injEq] at hr; subst hr; exact h.hE
 | succ n ih =>
   intro s u r hr
   rw [tl_succ] at hr
   have hl := nxt_len (p := p) s u
   have := tlP_V h (f := tl p e more join n (s + 1)) (s := s) (l := nxt p s u) (n := n) (w := (p.fs.length * p.H) ^ n) (fun q hq => (nxt_mem hq).1) (fun q _ r hr => ih (s + 1) q.2 r hr) (nxt p s u).length (Nat.le_refl _) r (by rw [List.take_length]; exact hr)
   refine h.up _ _ _ _ ?_ this
   rw [Nat.pow_succ, Nat.mul_comm]
   exact Nat.mul_le_mul_left _ hl
end
/-- What is taken on each fire by some places. -/
def Tk (p : Pt) (b : List (Int × Int)) (u : List Nat) : Prop :=
 u.length = 3 ∧ ∀ f : Nat, f < p.fs.length → ∀ t, (u.getD f 0).testBit t = true ↔ ∃ j, j < b.length ∧ (b.getD j (0, 0)).1 = (f : Int) ∧ (tkN p j (b.getD j (0, 0)).2.toNat).testBit t = true
theorem go_br {p : Pt} {b : List (Int × Int)} {u : List Nat} (h : Tk p b u) {x : Int × Int} (hx : x ∈ places p) : goB p b.length u x = decide (brR p b.length x b = 0) := by
 rw [mem_places] at hx
 obtain ⟨⟨h1, h2⟩, h3, h4⟩ := hx
 have ht := h.2 x.1.toNat (by omega)
 have e : meet (tkN p b.length x.2.toNat) (u.getD x.1.toNat 0) = (List.range b.length).any fun j => shrB p j (b.getD j (0, 0)) b.length x := by
  rw [Bool.eq_iff_iff, meet_iff, List.any_eq_true]
  simp only [shrB, Bool.and_eq_true, decide_eq_true_eq, meet_iff, List.mem_range]
  constructor
  ·rintro ⟨t, a1, a2⟩
   obtain ⟨j, b1, b2, b3⟩ := (ht t).1 a2
   exact ⟨j, b1, by omega, t, b3, a1⟩
  ·rintro ⟨j, b1, b2, t, b3, a1⟩
   exact ⟨t, a1, (ht t).2 ⟨j, b1, by omega, b3⟩⟩
 unfold goB brR
 rw [e]
 by_cases ha : alR p b.length x = 0
 ·rw [if_pos ha, decide_eq_true ha, Bool.and_true]
  cases hh : (List.range b.length).any fun j => shrB p j (b.getD j (0, 0)) b.length x <;> rfl
 ·rw [if_neg ha, decide_eq_false ha, Bool.and_false]
theorem Tk.next {p : Pt} {b : List (Int × Int)} {u : List Nat} (k : p.fs.length ≤ 3) (h : Tk p b u) {x : Int × Int} (hx : x ∈ places p) : Tk p (b ++ [x]) (u.set x.1.toNat (u.getD x.1.toNat 0 ||| tkN p b.length x.2.toNat)) := by
 rw [mem_places] at hx
 obtain ⟨⟨h1, h2⟩, h3, h4⟩ := hx
 refine ⟨by rw [List.length_set]; exact h.1, fun f hf t => ?_⟩
 have h5 := h.2 f hf t
 have hb : ∀ j, j < b.length → (b ++ [x]).getD j (0, 0) = b.getD j (0, 0) := fun j hj => by rw [getD_snoc, if_neg (by omega)]
 have hbl : (b ++ [x]).getD b.length (0, 0) = x := by rw [getD_snoc, if_pos rfl]
 have key : (∃ j, j < (b ++ [x]).length ∧ ((b ++ [x]).getD j (0, 0)).1 = (f : Int) ∧ (tkN p j ((b ++ [x]).getD j (0, 0)).2.toNat).testBit t = true) ↔
   (∃ j, j < b.length ∧ (b.getD j (0, 0)).1 = (f : Int) ∧ (tkN p j (b.getD j (0, 0)).2.toNat).testBit t = true) ∨ (x.1 = (f : Int) ∧ (tkN p b.length x.2.toNat).testBit t = true) := by
  rw [List.length_append, List.length_cons, List.length_nil]
  constructor
  ·rintro ⟨j, c1, c2, c3⟩
   by_cases e : j = b.length
   ·subst e; rw [hbl] at c2 c3; exact .inr ⟨c2, c3⟩
   ·rw [hb j (by omega)] at c2 c3; exact .inl ⟨j, by omega, c2, c3⟩
  ·rintro (⟨j, c1, c2, c3⟩ | ⟨c2, c3⟩)
   ·exact ⟨j, by omega, by rw [hb j c1]; exact c2, by rw [hb j c1]; exact c3⟩
   ·exact ⟨b.length, by omega, by rw [hbl]; exact c2, by rw [hbl]; exact c3⟩
 rw [key, ← h5]
 by_cases e : x.1.toNat = f
 ·have : (u.set x.1.toNat (u.getD x.1.toNat 0 ||| tkN p b.length x.2.toNat)).getD f 0 = u.getD f 0 ||| tkN p b.length x.2.toNat := by
   rw [e]; simp [List.getD_eq_getElem?_getD, h.1, show f < 3 by omega]
  rw [this, Nat.testBit_or, Bool.or_eq_true]
  exact ⟨fun q => q.imp id fun q => ⟨by omega, q⟩, fun q => q.imp id fun q => q.2⟩
 ·have : (u.set x.1.toNat (u.getD x.1.toNat 0 ||| tkN p b.length x.2.toNat)).getD f 0 = u.getD f 0 := by
   simp [List.getD_eq_getElem?_getD, List.getElem?_set_ne e]
  rw [this]
  exact ⟨.inl, fun q => q.elim id fun q => absurd q.1 (by omega)⟩
theorem pls_cont {p : Pt} (k : p.fs.length ≤ 3) : ∀ n b u, Tk p b u → pls p n b = (cont p n b.length u).map (b ++ ·) := by
 intro n
 induction n with
 | zero => intro b u _; simp [pls, cont]
 | succ n ih =>
   intro b u h
   simp only [pls, cont, nxt, List.flatMap_map, List.map_flatMap, List.map_map]
   have e1 : ∀ (l : List (Int × Int)), (∀ x ∈ l, x ∈ places p) → (l.flatMap fun x => if brR p b.length x b = 0 then pls p n (b ++ [x]) else []) =
     (l.filter (goB p b.length u)).flatMap fun x => (cont p n (b.length + 1) (u.set x.1.toNat (u.getD x.1.toNat 0 ||| tkN p b.length x.2.toNat))).map ((b ++ ·) ∘ (x :: ·)) := by
    intro l hl
    induction l with
    | nil => rfl
    | cons x l ihl =>
      have hx := hl x (by simp)
      simp only [List.flatMap_cons, List.filter_cons, go_br h hx]
      rw [ihl (fun q hq => hl q (by simp [hq]))]
      by_cases hc : brR p b.length x b = 0
      ·simp only [hc, if_true, decide_true, List.flatMap_cons]
       congr 1
       rw [ih (b ++ [x]) _ (h.next k hx)]
       simp only [List.length_append, List.length_cons, List.length_nil, Nat.zero_add]
       congr 1
       funext t
       simp
      ·simp only [hc, if_false, decide_false, List.nil_append]; rfl
   exact e1 _ fun x hx => hx
def u0 : List Nat := [0, 0, 0]
theorem Tk.zero {p : Pt} (k : p.fs.length ≤ 3) : Tk p [] u0 := ⟨rfl, fun f hf t => by
 have : f = 0 ∨ f = 1 ∨ f = 2 := by omega
 rcases this with rfl | rfl | rfl <;> simp [u0]⟩
theorem rpl_cont {p : Pt} (k : p.fs.length ≤ 3) : rpl p = cont p p.ps.length 0 u0 := by
 rw [rpl, pls_cont k _ _ _ (Tk.zero k)]
 simp
end Go.Proofs.YtdopkbldjagmlaaGreat
end
section
set_option linter.unusedVariables false
set_option linter.unusedSimpArgs false
namespace Go.Proofs.YtdopkbldjagmlaaGreat
open Go.V
def moreN (_ : Nat) (_ : Int × Int) (r : Int) : Int := r
def joinN (a b : Int) : Int := a + b
theorem valN : ∀ (l : List (Int × Int)) (s : Nat), valT (1 : Int) moreN s l = 1
 | [], _ => rfl
 | _ :: t, s => valN t (s + 1)
theorem foldN (l : List Int) (h : ∀ a ∈ l, a = 1) : (foldJ joinN l).getD 0 = l.length := by
 induction l with
 | nil => rfl
 | cons a l ih =>
   have h1 := h a (by simp)
   have h2 := ih (fun b hb => h b (by simp [hb]))
   simp only [foldJ]
   cases hf : foldJ joinN l with
   | none => rw [hf] at h2; simp only [Option.getD_none] at h2; simp [comb, h1, ← h2]
   | some b => rw [hf] at h2; simp only [Option.getD_some] at h2; simp [comb, joinN, h1, h2]; omega
/-- How many plans are right. -/
def tlN (p : Pt) : Option Int := tl p 1 moreN joinN p.ps.length 0 u0
theorem tlN_len {p : Pt} (k : p.fs.length ≤ 3) : (tlN p).getD 0 = ((rpl p).length : Int) := by
 rw [tlN, tl_eq p 1 moreN joinN (fun a b c => Int.add_assoc a b c) (fun _ _ _ _ => rfl), ← rpl_cont k, foldN _ (fun a ha => ?_), List.length_map]
 obtain ⟨l, _, rfl⟩ := List.mem_map.1 ha
 exact valN l 0
def vN (n k : Nat) (r : Int) : Prop := 0 ≤ r ∧ r ≤ k
theorem vdN (p : Pt) : Vd p 1 moreN joinN vN := ⟨fun n j k a h ⟨h1, h2⟩ => ⟨h1, by omega⟩, ⟨by decide, by decide⟩, fun n k s o r _ h => h, fun n j k a b ⟨h1, h2⟩ ⟨h3, h4⟩ => ⟨by unfold joinN; omega, by unfold joinN; omega⟩⟩

def moreB (p : Pt) (s : Nat) (x : Int × Int) (r : Int) : Int := max r (hotV p true s x.2.toNat : Nat)
def joinB (a b : Int) : Int := min a b
/-- The hour at which all are hot. -/
def lastN (p : Pt) (l : List (Int × Int)) : Nat → Int
 | 0 => 0
 | i + 1 => max (lastN p l i) (hotV p true i (l.getD i (0, 0)).2.toNat : Nat)
def lastV (p : Pt) (l : List (Int × Int)) : Int := lastN p l l.length
theorem lastN_le {p : Pt} {l : List (Int × Int)} {m : Int} : ∀ i, lastN p l i ≤ m ↔ 0 ≤ m ∧ ∀ j, j < i → ((hotV p true j (l.getD j (0, 0)).2.toNat : Nat) : Int) ≤ m := by
 intro i
 induction i with
 | zero => simp [lastN]
 | succ i ih =>
   simp only [lastN]
   constructor
   ·intro h
    obtain ⟨h1, h2⟩ := ih.1 (by omega)
    exact ⟨h1, fun j hj => by
     by_cases e : j = i
     ·subst e; omega
     ·exact h2 j (by omega)⟩
   ·rintro ⟨h1, h2⟩
    have := ih.2 ⟨h1, fun j hj => h2 j (by omega)⟩
    have := h2 i (by omega)
    omega
theorem valB_le {p : Pt} {m : Int} : ∀ (l : List (Int × Int)) (s : Nat), valT (0 : Int) (moreB p) s l ≤ m ↔ 0 ≤ m ∧ ∀ j, j < l.length → ((hotV p true (s + j) (l.getD j (0, 0)).2.toNat : Nat) : Int) ≤ m := by
 intro l
 induction l with
 | nil => intro s; simp [valT]
 | cons x t ih =>
   intro s
   simp only [valT, moreB]
   have := ih (s + 1)
   constructor
   ·intro h
    obtain ⟨h1, h2⟩ := this.1 (by omega)
    refine ⟨h1, fun j hj => ?_⟩
    match j with
    | 0 => simp; omega
    | j + 1 =>
      have := h2 j (by simp at hj; omega)
      rw [show s + 1 + j = s + (j + 1) by omega] at this
      simpa using this
   ·rintro ⟨h1, h2⟩
    have h3 := this.2 ⟨h1, fun j hj => by
     have := h2 (j + 1) (by simp; omega)
     rw [show s + (j + 1) = s + 1 + j by omega] at this
     simpa using this⟩
    have h4 := h2 0 (by simp)
    simp at h4
    omega
theorem valB_last (p : Pt) (l : List (Int × Int)) : valT (0 : Int) (moreB p) 0 l = lastV p l := by
 have h1 := (valB_le (p := p) (m := lastV p l) l 0).2 (by have := (lastN_le (p := p) (l := l) (m := lastV p l) l.length).1 (Int.le_refl _); exact ⟨this.1, fun j hj => by rw [Nat.zero_add]; exact this.2 j hj⟩)
 have h2 := (lastN_le (p := p) (l := l) (m := valT (0 : Int) (moreB p) 0 l) l.length).2 (by have := (valB_le (p := p) (m := valT (0 : Int) (moreB p) 0 l) l 0).1 (Int.le_refl _); exact ⟨this.1, fun j hj => by have := this.2 j hj; rw [Nat.zero_add] at this; exact this⟩)
 unfold lastV at *
 omega
def tlB (p : Pt) (n s : Nat) (u : List Nat) : Option Int := tl p 0 (moreB p) joinB n s u
theorem moreB_join (p : Pt) (s : Nat) (o : Int × Int) (a b : Int) : moreB p s o (joinB a b) = joinB (moreB p s o a) (moreB p s o b) := by unfold moreB joinB; omega
theorem joinB_assoc (a b c : Int) : joinB (joinB a b) c = joinB a (joinB b c) := by unfold joinB; omega
theorem tlB_eq (p : Pt) (n s : Nat) (u : List Nat) : tlB p n s u = foldJ min ((cont p n s u).map (valT (0 : Int) (moreB p) s)) :=
 tl_eq p 0 (moreB p) joinB joinB_assoc (moreB_join p) n s u
/-- There is a plan that goes on, by which all is hot by an hour. -/
theorem tlB_le {p : Pt} {n s : Nat} {u : List Nat} {m : Int} : (∃ r, tlB p n s u = some r ∧ r ≤ m) ↔ ∃ t ∈ cont p n s u, valT (0 : Int) (moreB p) s t ≤ m := by
 rw [tlB_eq]
 have h := minS_fold ((cont p n s u).map (valT (0 : Int) (moreB p) s))
 constructor
 ·rintro ⟨r, h1, h2⟩
  obtain ⟨t, ht, rfl⟩ := List.mem_map.1 (h.is r h1)
  exact ⟨t, ht, h2⟩
 ·rintro ⟨t, ht, h2⟩
  obtain ⟨r, hr, h3⟩ := h.le _ (List.mem_map.2 ⟨t, ht, rfl⟩)
  exact ⟨r, hr, by omega⟩
/-- The first places by which all is hot by an hour. -/
def okB (p : Pt) (m : Int) (n s : Nat) (q : (Int × Int) × List Nat) : Bool := match tlB p n (s + 1) q.2 with
 | some r => decide (moreB p s q.1 r ≤ m)
 | none => false
def grd (p : Pt) (m : Int) : Nat → Nat → List Nat → List (Int × Int)
 | 0, _, _ => []
 | n + 1, s, u => match (nxt p s u).find? (okB p m n s) with
   | some q => q.1 :: grd p m n (s + 1) q.2
   | none => []
theorem okB_iff {p : Pt} {m : Int} {n s : Nat} {q : (Int × Int) × List Nat} : okB p m n s q = true ↔ ∃ t ∈ cont p n (s + 1) q.2, valT (0 : Int) (moreB p) s (q.1 :: t) ≤ m := by
 have h := tlB_le (p := p) (n := n) (s := s + 1) (u := q.2) (m := m)
 have e : okB p m n s q = true ↔ (∃ r, tlB p n (s + 1) q.2 = some r ∧ r ≤ m) ∧ ((hotV p true s q.1.2.toNat : Nat) : Int) ≤ m := by
  unfold okB
  cases hq : tlB p n (s + 1) q.2 with
  | none => simp
  | some r =>
    have e0 : decide (moreB p s q.1 r ≤ m) = true ↔ r ≤ m ∧ ((hotV p true s q.1.2.toNat : Nat) : Int) ≤ m := by
     rw [decide_eq_true_eq, moreB]; omega
    show decide (moreB p s q.1 r ≤ m) = true ↔ _
    rw [e0]
    exact ⟨fun hh => ⟨⟨r, rfl, hh.1⟩, hh.2⟩, fun ⟨⟨r', e, h1⟩, h2⟩ => by cases e; exact ⟨h1, h2⟩⟩
 rw [e, h]
 simp only [valT, moreB]
 constructor
 ·rintro ⟨⟨t, h1, h2⟩, h3⟩; exact ⟨t, h1, by omega⟩
 ·rintro ⟨t, h1, h2⟩; exact ⟨⟨t, h1, by omega⟩, by omega⟩
theorem find_flat {α β : Type} (f : α → List β) (P : β → Bool) : ∀ l : List α, (l.flatMap f).find? P = match l.find? (fun a => (f a).any P) with
  | some a => (f a).find? P
  | none => none
 | [] => rfl
 | a :: l => by
   rw [List.flatMap_cons, List.find?_append, List.find?_cons, find_flat f P l]
   cases h : (f a).any P with
   | true =>
     have : ((f a).find? P).isSome = true := by rw [List.find?_isSome]; simpa [List.any_eq_true] using h
     obtain ⟨b, hb⟩ := Option.isSome_iff_exists.1 this
     simp only [hb, Option.some_or]
   | false =>
     have : (f a).find? P = none := by
      rw [List.find?_eq_none]
      intro b hb hP
      have : (f a).any P = true := List.any_eq_true.2 ⟨b, hb, hP⟩
      rw [h] at this; cases this
     simp only [this, Option.none_or]
theorem grd_find {p : Pt} {m : Int} : ∀ n s u, (∃ t ∈ cont p n s u, valT (0 : Int) (moreB p) s t ≤ m) → (cont p n s u).find? (fun t => decide (valT (0 : Int) (moreB p) s t ≤ m)) = some (grd p m n s u) := by
 intro n
 induction n with
 | zero =>
   rintro s u ⟨t, ht, h⟩
   simp only [cont, List.mem_singleton] at ht
   subst ht
   simp [cont, grd, h]
 | succ n ih =>
   rintro s u ⟨t, ht, h⟩
   have e : (fun q => ((cont p n (s + 1) q.2).map (q.1 :: ·)).any fun t => decide (valT (0 : Int) (moreB p) s t ≤ m)) = okB p m n s := by
    funext q
    rw [Bool.eq_iff_iff, okB_iff, List.any_map, List.any_eq_true]
    simp
   simp only [cont, grd]
   rw [find_flat, e]
   cases hf : (nxt p s u).find? (okB p m n s) with
   | none =>
     exfalso
     simp only [cont, List.mem_flatMap, List.mem_map] at ht
     obtain ⟨q, hq, t', ht', rfl⟩ := ht
     rw [List.find?_eq_none] at hf
     exact hf q hq (okB_iff.2 ⟨t', ht', h⟩)
   | some q =>
     have hq := List.find?_some hf
     rw [okB_iff] at hq
     obtain ⟨t', ht', h'⟩ := hq
     simp only [valT, moreB] at h'
     have := ih (s + 1) q.2 ⟨t', ht', by omega⟩
     simp only [List.find?_map]
     have e2 : ((fun t => decide (valT (0 : Int) (moreB p) s t ≤ m)) ∘ (q.1 :: ·)) = fun t => decide (valT (0 : Int) (moreB p) (s + 1) t ≤ m) := by
      funext t
      simp only [Function.comp, valT, moreB]
      exact decide_eq_decide.2 (by omega)
     rw [e2, this]
     rfl
def moreL (t : Nat) (s : Nat) (x : Int × Int) (r : Int) : Int := if s = t then x.2 else r
def joinL (a b : Int) : Int := max a b
def tlL (p : Pt) (t : Nat) : Option Int := tl p 0 (moreL t) joinL p.ps.length 0 u0
def vH (n k : Nat) (r : Int) : Prop := 0 ≤ r ∧ r ≤ 13
theorem foldJ_some {α : Type} {join : α → α → α} {l : List α} : (foldJ join l).isSome = !decide (l = []) := by
 cases h : foldJ join l with
 | none => rw [foldJ_none] at h; simp [h]
 | some a =>
   have : ¬ l = [] := fun e => by rw [e] at h; cases h
   simp [this]
end Go.Proofs.YtdopkbldjagmlaaGreat
end
section
set_option linter.unusedVariables false
set_option linter.unusedSimpArgs false
namespace Go.V
set_option linter.unusedSectionVars false
variable [Inhabited GivT]
theorem tri_bound {P : Program} {f : FuncId} {recv : AV} {args : List AV} {H : Hp} {R : Res → Hp → Prop} (h : Tri P (fnA f) (recv :: args) H R) :
  Tri P (.func (.func f) [recv] []) args H R := by
 intro S vf vs hH hvf ha
 cases hvf with
 | @func _ _ _ ws us hn hu h1 h2 =>
   have hw : ∃ x, ws = #[x] := by
    have : ws.size = 1 := by simpa using hn
    exact ⟨ws[0], Array.ext (by simp [this]) (fun i h1 h2 => by
     have : i = 0 := by simp at h2; omega
     subst this; rfl)⟩
   obtain ⟨x, rfl⟩ := hw
   have hus : us = #[] := by simpa using hu
   subst hus
   have hx := h1 0 (by simp)
   simp only [List.getD_cons_zero] at hx
   have hx' : VRel S recv x := by simpa [Array.getD_eq_getD_getElem?] using hx
   obtain ⟨nx, e1, e2⟩ := h S (.func (.func f) #[] #[]) (x :: vs) hH (.func rfl rfl (fun k hk => absurd hk (by simp)) (fun k hk => absurd hk (by simp)))
     ⟨by simp [ha.1], fun k hk => by
      cases k with
      | zero => exact hx'
      | succ k => simpa using ha.2 k (by simpa using hk)⟩
   refine ⟨nx, ?_, e2⟩
   rw [← e1]
   simp only [Deferred.ofValue, Sem.run_bind, Sem.run_pure, Result.andThen_ok, invoke]
   simp
end Go.V
end
section
set_option linter.unusedVariables false
set_option linter.unusedSimpArgs false
namespace Go.V
set_option linter.unusedSectionVars false
variable [Inhabited GivT]
def keyJ (P : Program) : Nat → TypeId → Option Nat
 | 0, _ => none
 | d + 1, T => match P.underlying T with
   | some (.int .i64) => if P.cellsOf T = 1 then some 1 else none
   | some (.array n e) => match d, P.underlying e with
     | _ + 1, some (.int .i64) => if P.cellsOf e = 1 ∧ P.cellsOf T = n then some n else none
     | _, _ => none
   | some (.struct fs) => match keyFs P (keyJ P d) fs.toList 0 with
     | some n => if P.cellsOf T = n then some n else none
     | none => none
   | _ => none

end Go.V
end
section
set_option linter.unusedVariables false
set_option linter.unusedSimpArgs false
namespace Go.V
set_option linter.unusedSectionVars false
variable [Inhabited GivT]
/-- The same value, with some leaves told otherwise. -/
inductive FrzX (L : AV → AV → Prop) : AV → AV → Prop
 | same (x : AV) : FrzX L x x
 | leaf {x y : AV} (h : L x y) : FrzX L x y
 | agg {cs cs' : List AV} (hl : cs'.length = cs.length) (h : ∀ k, k < cs.length → FrzX L (cs.getD k .any) (cs'.getD k .any)) : FrzX L (.agg cs) (.agg cs')
 | tuple {cs cs' : List AV} (hl : cs'.length = cs.length) (h : ∀ k, k < cs.length → FrzX L (cs.getD k .any) (cs'.getD k .any)) : FrzX L (.tuple cs) (.tuple cs')
 | rptr {n st i j : Nat} {f g : Nat → List AV} (hl : ∀ k, k < n → (f k).length = st → (g k).length = st) (h : ∀ k l, k < n → l < st → FrzX L ((f k).getD l .any) ((g k).getD l .any)) : FrzX L (.rptr n st f i j) (.rptr n st g i j)
 | func {fn : Fn} {a b a' b' : List AV} (hl : a'.length = a.length) (hm : b'.length = b.length) (h : ∀ k, k < a.length → FrzX L (a.getD k .any) (a'.getD k .any)) (h' : ∀ k, k < b.length → FrzX L (b.getD k .any) (b'.getD k .any)) : FrzX L (.func fn a b) (.func fn a' b')

theorem FrzX.conv {L : AV → AV → Prop} {S S2 : St} (hle : Le S S2) (hc : ∀ x y, L x y → ∀ v, VRel S x v → VRel S2 y v) {x y : AV} (hxy : FrzX L x y) : ∀ v, VRel S x v → VRel S2 y v := by
 induction hxy with
 | same x => intro v hv; exact hv.mono hle
 | leaf h => intro v hv; exact hc _ _ h v hv
 | agg hl h ih =>
   intro v hv
   cases hv with
   | agg hn hv => exact .agg (hn.trans hl.symm) fun k hk => ih k (by omega) _ (hv k (by omega))
 | tuple hl h ih =>
   intro v hv
   cases hv with
   | tuple hn hv => exact .tuple (hn.trans hl.symm) fun k hk => ih k (by omega) _ (hv k (by omega))
 | @rptr n st i j f g hl h ih =>
   intro v hv
   cases hv with
   | rptr hi hb hsz hf hh =>
     exact .rptr (hle.imm _ hi) ((hle.keep _ hi).trans hb) hsz (fun k hk => hl k hk (hf k hk)) (fun k l hk hl2 => ih k l hk hl2 _ (hh k l hk hl2))
 | func hl hm h h' ih ih' =>
   intro v hv
   cases hv with
   | func hn hn' h1 h2 => exact .func (hn.trans hl.symm) (hn'.trans hm.symm) (fun k hk => ih k (by omega) _ (h1 k (by omega))) (fun k hk => ih' k (by omega) _ (h2 k (by omega)))

def Lb (id st n : Nat) (f : Nat → List AV) (x y : AV) : Prop := ∃ i j, x = .ref id 0 st i j ∧ y = .rptr n st f i j
def Lr (id st n : Nat) (f : Nat → List AV) (x y : AV) : Prop := x = .sl id st n ∧ ∃ g, (∀ i, i < n → f i = g i) ∧ y = .rsl n st g

/-- A box, or a row, that is handed back, to be written no more. -/
theorem Tri.thawX {P : Program} {fv : AV} {args : List AV} {H : Hp} {R1 R : Res → Hp → Prop} (h : Tri P fv args H R1)
  (hR : ∀ r H', R1 r H' → R r H' ∨ ∃ v v' id st n f, r = .ret v ∧ ((H' id = some (.box st n f) ∧ FrzX (Lb id st n f) v v') ∨ (H' id = some (.row st n f) ∧ FrzX (Lr id st n f) v v')) ∧ R (.ret v') (H'.del id)) : Tri P fv args H R := by
 intro S vf vs hH hvf ha
 obtain ⟨nx, h1, h2⟩ := h S vf vs hH hvf ha
 have ho : ∀ e w, Out S R1 e w → Out S R e w := by
  rintro e w ⟨S', r, H', hw, hle, hH', hres, hr⟩
  rcases hR r H' hr with hr | ⟨v, v', id, st, n, f, rfl, hob, hr⟩
  ·exact ⟨S', r, H', hw, hle, hH', hres, hr⟩
  ·cases e with
   | returned cv =>
     rcases hob with ⟨hob, hf⟩ | ⟨hob, hf⟩
     ·obtain ⟨S2, hw2, hle2, hH2, hc⟩ := frz_stepB hH' hob
      exact ⟨S2, .ret v', _, hw2.trans hw, hle.trans hle2, hH2, hf.conv hle2 (fun x y hxy v hv => by obtain ⟨i, j, rfl, rfl⟩ := hxy; exact hc _ _ _ hv) cv hres, hr⟩
     ·obtain ⟨S2, hw2, hle2, hH2, hc⟩ := frz_step hH' hob
      exact ⟨S2, .ret v', _, hw2.trans hw, hle.trans hle2, hH2, hf.conv hle2 (fun x y hxy v hv => by obtain ⟨rfl, g, hg, rfl⟩ := hxy; exact AV.Le.rsl hg _ _ (hc v hv)) cv hres, hr⟩
   | _ => exact hres.elim
 refine ⟨nx, h1, ?_⟩
 cases nx <;> simp only [NextOk] at h2 ⊢
 ·exact Calls.mono h2 ho
 ·exact h2.mono ho
end Go.V
end
section
set_option linter.unusedVariables false
set_option linter.unusedSimpArgs false
namespace Go.V
set_option linter.unusedSectionVars false
variable [Inhabited GivT]
theorem HSub_del {A B : Hp} {i : Nat} (h : B i = none) (k : Go.V.HSub A B) : Go.V.HSub (A.del i) B := by
 intro j o hj
 have e : j ≠ i := fun e => by rw [e, h] at hj; cases hj
 obtain ⟨o', h1, h2⟩ := k j o hj
 exact ⟨o', by rw [Hp.del_ne _ e]; exact h1, h2⟩
end Go.V
end
section
set_option linter.unusedVariables false
set_option linter.unusedSimpArgs false
namespace Go.V
set_option linter.unusedSectionVars false
variable [Inhabited GivT]
theorem Ent.step {s : Fr} {ds : List AD} {H : Hp} {K : Fr → List AD → Hp → Prop} (h : Ent s ds H fun s ds H => Ent s ds H K) : Ent s ds H K := Ent.bind h fun _ _ _ h => h
theorem fn_ent {P : Program} {fn : Func} {R : Res → Hp → Prop} {s : Fr} {ds : List AD} {H : Hp} (h : Ent s ds H fun s ds H => FnPost P fn R .ret s ds H) : FnPost P fn R .ret s ds H := Ent.step h
end Go.V
end
section
set_option linter.unusedVariables false
namespace Go.V
set_option linter.unusedSectionVars false
variable [Inhabited GivT]
theorem Tri.args {P : Program} {fv : AV} {args args' : List AV} {H : Hp} {R : Res → Hp → Prop} (t : Tri P fv args' H R) (hl : args'.length = args.length) (h : ∀ k, k < args.length → AV.Le (args.getD k .any) (args'.getD k .any)) : Tri P fv args H R :=
 fun S vf vs hH hf ha => t S vf vs hH hf ⟨by rw [ha.1, hl], fun k hk => h k (by omega) S _ (ha.2 k (by omega))⟩
end Go.V
end
section
set_option linter.unusedVariables false
namespace Go.V
set_option linter.unusedSectionVars false
variable [Inhabited GivT]
/-- l is an order of all operations that are not in 'done', each behind what B puts ahead of it. -/
structure TopoB (ops : Array Oper) (B : Nat → Nat → Bool) (done : Nat → Prop) (l : List Nat) : Prop where
 lt : ∀ i ∈ l, i < ops.size
 nodup : l.Nodup
 apart : ∀ i ∈ l, ¬ done i
 all : ∀ i, i < ops.size → done i ∨ i ∈ l
 edges : ∀ l1 i l2, l = l1 ++ i :: l2 → ∀ k, B i k = true → done k ∨ k ∈ l1
theorem TopoB.tail {ops : Array Oper} {B : Nat → Nat → Bool} {done : Nat → Prop} {i : Nat} {l : List Nat} (h : TopoB ops B done (i :: l)) : TopoB ops B (fun j => done j ∨ j = i) l where
 lt := fun j hj => h.lt j (by simp [hj])
 nodup := (List.nodup_cons.1 h.nodup).2
 apart := fun j hj hd => by
  rcases hd with hd | rfl
  ·exact h.apart j (by simp [hj]) hd
  ·exact (List.nodup_cons.1 h.nodup).1 hj
 all := fun j hj => by
  rcases h.all j hj with hd | hm
  ·exact .inl (.inl hd)
  ·rcases List.mem_cons.1 hm with rfl | hm
   ·exact .inl (.inr rfl)
   ·exact .inr hm
 edges := fun l1 j l2 hl k hb => by
  rcases h.edges (i :: l1) j l2 (by rw [hl]; rfl) k hb with hd | hm
  ·exact .inl (.inl hd)
  ·rcases List.mem_cons.1 hm with hm | hm
   ·exact .inl (.inr hm)
   ·exact .inr hm
theorem TopoB.head {ops : Array Oper} {B : Nat → Nat → Bool} {done : Nat → Prop} {i k : Nat} {l : List Nat} (h : TopoB ops B done (i :: l)) (hb : B i k = true) : done k := by
 rcases h.edges [] i l rfl k hb with hd | hm
 ·exact hd
 ·simp at hm

structure Plan3 (ops : Array Oper) (B : Nat → Nat → Bool) (sg : Nat → Nat) (stages : List Stg) (last : List Nat) : Prop where
 ssa : ∀ i k, i < ops.size → k < ops.size → ∀ d, (opAt ops.toList k).dst = some d → (d ∈ readsOf ops.toList (opAt ops.toList i) → B i k = true ∨ (B k i = true ∧ sg k % 2 = 1)) ∧ (k ≠ i → (opAt ops.toList i).dst ≠ some d)
 st : ∀ j st kp e, stages[j]? = some (st, kp, e) → st = (List.range ops.size).filter (fun i => sg i == 2 * j) ∧ e < ops.size ∧ (∀ i, i < ops.size → (sg i = 2 * j + 1 ↔ i = e)) ∧
  (∀ i, i < ops.size → 2 * j + 2 ≤ sg i → B i e = true) ∧
  (∀ i, i < ops.size → sg i % 2 = 0 → sg i ≤ 2 * j → B e i = true ∨ heapFree (opAt ops.toList i).op = true ∨ i ∈ kp)
 last : last = (List.range ops.size).filter (fun i => sg i == 2 * stages.length)
 le : ∀ i, i < ops.size → sg i ≤ 2 * stages.length
 ord : ∀ i k, i < ops.size → k < ops.size → B i k = true → sg k ≤ sg i
 lt : ∀ i k, i < ops.size → k < ops.size → B i k = true → sg i = sg k → sg i % 2 = 0 → k < i

/-- What the quiet operations of a stage give. -/
theorem stage_facts3 {r : Option Nat} {P : Program} {n : Nat} {ops : Array Oper} {B : Nat → Nat → Bool} {sg : Nat → Nat} {stages : List Stg} {last : List Nat} (pl : Plan3 ops B sg stages last) {H : Hp} {c : Nat} {s : Fr} {K : Fr → Prop}
  (hev : c % 2 = 0) (h : vcQ P n ops.toList H (pickO ops.toList ((List.range ops.size).filter fun i => sg i == c)) s K) :
  ∃ sF, K sF ∧ (∀ t, (∀ i, i < ops.size → sg i = c → (opAt ops.toList i).dst ≠ some t) → sF t = s t) ∧ ∀ i, i < ops.size → sg i = c → QF r P n ops.toList H sF (opAt ops.toList i) := by
 have hpw : ((List.range ops.size).filter fun i => sg i == c).Pairwise (· < ·) := List.Pairwise.filter _ List.pairwise_lt_range
 have hmem : ∀ k, k ∈ ((List.range ops.size).filter fun i => sg i == c) ↔ k < ops.size ∧ sg k = c := fun k => by simp
 obtain ⟨sF, k1, k2, k3⟩ := vcQ_facts2 (r := r) (readsOf ops.toList) (fun _ => rfl) _ s K (by
  intro i o ho k o' hik ho' d hd
  obtain ⟨x, hx, rfl⟩ := pickO_get ho
  obtain ⟨y, hy, rfl⟩ := pickO_get ho'
  obtain ⟨hx1, hx2⟩ := (hmem x).1 (List.mem_of_getElem? hx)
  obtain ⟨hy1, hy2⟩ := (hmem y).1 (List.mem_of_getElem? hy)
  have hle : x ≤ y ∧ (i < k → x < y) := by
   obtain ⟨hil, hxe⟩ := List.getElem?_eq_some_iff.1 hx
   obtain ⟨hkl, hye⟩ := List.getElem?_eq_some_iff.1 hy
   have hlt : i < k → x < y := fun hlt => by
    have := List.pairwise_iff_getElem.1 hpw i k hil hkl hlt
    rw [hxe, hye] at this; exact this
   refine ⟨?_, hlt⟩
   rcases Nat.lt_or_ge i k with hl | hl
   ·have := hlt hl; omega
   ·have e : i = k := by omega
    subst e
    rw [hx] at hy; cases hy; exact Nat.le_refl _
  obtain ⟨g1, g2⟩ := pl.ssa x y hx1 hy1 d hd
  refine ⟨fun hm => ?_, fun hlt => g2 (by have := hle.2 hlt; omega)⟩
  rcases g1 hm with g1 | ⟨_, g1⟩
  ·have := pl.lt x y hx1 hy1 g1 (by omega) (by omega)
   omega
  ·omega) h
 refine ⟨sF, k1, fun t ht => k2 t fun o ho => ?_, fun i hi hs => k3 _ ?_⟩
 ·obtain ⟨k, hk, rfl⟩ := pickO_mem ho
  obtain ⟨a, b⟩ := (hmem k).1 hk
  exact ht k a b
 ·exact List.mem_map.2 ⟨i, (hmem i).2 ⟨hi, hs⟩, rfl⟩

theorem draw_run3 {r : Option Nat} {P : Program} {mm : Option Tmp → Bool} {n : Nat} {ops : Array Oper} {B : Nat → Nat → Bool} {Q : Post} {sg : Nat → Nat} {stages : List Stg} {last : List Nat} (pl : Plan3 ops B sg stages last)
  (hr : r = none ∨ ops.toList.all (fun o => quietOk o.op) = true) :
  ∀ (l : List Nat) (done : Nat → Prop) (j : Nat) (s : Fr) (ds : List AD) (H : Hp) (S : St) (a : Act), TopoB ops B done l →
    (∀ i, i < ops.size → done i → sg i ≤ 2 * j) → (∀ i, i < ops.size → sg i % 2 = 1 → sg i < 2 * j → done i) →
    (∀ i, i < ops.size → sg i % 2 = 0 → sg i ≤ 2 * j → ¬ done i → QF r P n ops.toList H s (opAt ops.toList i)) →
    vcD' P mm n ops.toList (preOf stages j) (stages.drop j) last s ds H Q →
    a.tmps.size = n → HRel S H → DRel S ds a.defers → PFrame2 S ops sg j done s a → wpOpsIn (FW r) 0 P ops (Lift S n Q) l a S.w := by
 intro l
 induction l with
 | nil =>
   intro done j s ds H S a ht I1 I2 hfact hv hsz hH hD hP
   have hall : ∀ i, i < ops.size → done i := fun i hi => (ht.all i hi).resolve_right (by simp)
   have hj : stages.length ≤ j := by
    rcases Nat.lt_or_ge j stages.length with hlt | hge
    ·rcases hx : stages[j] with ⟨st, kp, e⟩
     have hs : stages[j]? = some (st, kp, e) := by rw [List.getElem?_eq_getElem hlt, hx]
     obtain ⟨_, g2, g3, _⟩ := pl.st j st kp e hs
     have := I1 e g2 (hall e g2)
     have := (g3 e g2).2 rfl
     omega
    ·exact hge
   have hF : FRel S s a := fun t => by
    rcases hP t with ⟨k, hk, _, hnd, _⟩ | h
    ·exact absurd (hall k hk) hnd
    ·exact h
   rw [List.drop_eq_nil_of_le hj] at hv
   exact ⟨S, .normal, s, ds, H, rfl, Le.refl S, hH, hF, hD, hsz, trivial, hv⟩
 | cons i l ih =>
   intro done j s ds H S a ht I1 I2 hfact hv hsz hH hD hP
   have hi := ht.lt i (by simp)
   have hni : ¬ done i := ht.apart i (by simp)
   have ho := opAt_get hi
   have hread : ∀ t, t ∈ readsOf ops.toList (opAt ops.toList i) → VRel S (s t) (a.tmps.getD t undef) := by
    intro t htr
    rcases hP t with ⟨k, hk, hkq, hnd, hd⟩ | h
    ·rcases (pl.ssa i k hi hk t hd).1 htr with g | ⟨_, g⟩
     ·exact absurd (ht.head g) hnd
     ·omega
    ·exact h
   have hops : ∀ x ∈ (opAt ops.toList i).op.operands.toList, VRel S (opA s x) (a.eval x) := by
    intro x hx
    cases x with
    | tmp t => exact hread t (mem_reads_op hx)
    | const v => exact .lit v
    | global g => exact .any _
    | func f => exact .func rfl rfl (fun k hk => absurd hk (by simp)) (fun k hk => absurd hk (by simp))
   by_cases hev : sg i % 2 = 0
   ·-- a quiet operation
    have hle : sg i ≤ 2 * j := by
     apply Classical.byContradiction
     intro hgt
     have := pl.le i hi
     have hlt : j < stages.length := by omega
     rcases hx : stages[j] with ⟨st, kp, e⟩
     have hs : stages[j]? = some (st, kp, e) := by rw [List.getElem?_eq_getElem hlt, hx]
     obtain ⟨_, g2, g3, g4, _⟩ := pl.st j st kp e hs
     have hde := ht.head (g4 i hi (by omega))
     have := I1 e g2 hde
     have := (g3 e g2).2 rfl
     omega
    obtain ⟨hd, v, hv', hg⟩ := (hfact i hi hev hle hni).fact
    have ih' : ∀ (S' : St) (cv : Value), Le S S' → HRel S' H → VRel S' v cv → wpOpsIn (FW r) 0 P ops (Lift S n Q) l (a.put (opAt ops.toList i).dst cv) S'.w := by
     intro S' cv hle' hH' hvr
     refine lift_wpOpsIn hle' l _ _ (ih (fun j => done j ∨ j = i) j s ds H S' _ ht.tail ?_ (fun x hx ho hl => .inl (I2 x hx ho hl)) ?_ hv ?_ hH' ?_ ?_)
     ·rintro x hx (hd | rfl)
      ·exact I1 x hx hd
      ·exact hle
     ·intro x hx he hl hnd
      exact hfact x hx he hl fun h => hnd (.inl h)
     ·have := put_size (a := a) (d := (opAt ops.toList i).dst) (cv := cv) (df := a.defers)
      exact this.trans hsz
     ·have := put_defers (a := a) (d := (opAt ops.toList i).dst) (cv := cv) (df := a.defers)
      have e : (a.put (opAt ops.toList i).dst cv).defers = a.defers := this
      rw [e]; exact hD.mono hle'
     ·intro t
      by_cases hdt : (opAt ops.toList i).dst = some t
      ·right
       rw [hv' t hdt]
       have ht' : t < a.tmps.size := by rw [hsz]; rw [hdt] at hd; exact hd
       rw [hdt]
       have := put_getD_same (a := a) (t := t) (cv := cv) (df := a.defers) ht'
       rw [show (a.put (some t) cv).tmps.getD t undef = cv from this]
       exact hvr
      ·rcases hP t with ⟨k, hk, hkq, hnd, hd'⟩ | h
       ·left
        refine ⟨k, hk, hkq, ?_, hd'⟩
        rintro (hx | rfl)
        ·exact hnd hx
        ·exact hdt hd'
       ·right
        rw [put_getD' hdt]
        exact h.mono hle'
    simp only [wpOpsIn, ho]
    generalize opAt ops.toList i = o at *
    cases hgd : o.guard with
    | none =>
      rw [hgd] at hg
      simp only [Region.wanted, hgd, if_true]
      exact hg S a _ _ hH hops ih'
    | some jw =>
      obtain ⟨jj, w⟩ := jw
      rw [hgd] at hg
      obtain ⟨b, v0, hb, rfl, hex⟩ := hg
      have hwant : Region.wanted o (yielded ops a.tmps) = b := wanted_rel hgd (fun q d hq hd' => hread d (mem_reads_guard hgd hq hd')) hb
      rw [hwant]
      cases hwb : b with
      | false =>
        simp only [Bool.false_eq_true, if_false]
        exact ⟨fun _ _ => trivial, ih' S undef (Le.refl S) hH (.under (fun x => by rw [hwb] at x; cases x) fun _ => rfl)⟩
      | true =>
        simp only [if_true]
        exact hex hwb S a _ _ hH hops fun S' cv hle hH' hvr => ih' S' cv hle hH' (.under (fun _ => hvr) fun x => by rw [hwb] at x; cases x)
   ·-- an effect
    have hlow : 2 * j < sg i := by
     apply Classical.byContradiction
     intro h
     exact hni (I2 i hi (by omega) (by omega))
    have hlt : j < stages.length := by have := pl.le i hi; omega
    rcases hx : stages[j] with ⟨st, kp, e⟩
    have hs : stages[j]? = some (st, kp, e) := by rw [List.getElem?_eq_getElem hlt, hx]
    obtain ⟨_, g2, g3, g4, g5⟩ := pl.st j st kp e hs
    have hsi : sg i = 2 * j + 1 := by
     apply Classical.byContradiction
     intro h
     have hde := ht.head (g4 i hi (by omega))
     have := I1 e g2 hde
     have := (g3 e g2).2 rfl
     omega
    have hei : i = e := (g3 i hi).1 hsi
    subst hei
    have hdrop : stages.drop j = (st, kp, i) :: stages.drop (j + 1) := by
     rw [List.drop_eq_getElem_cons hlt, hx]
    rw [hdrop] at hv
    obtain ⟨hd, hgn, heff⟩ := hv
    have hq : r = none ∨ ∀ c, (opAt ops.toList i).op ≠ .defer c := hr.imp (fun x => x) fun hall c e => by
     have hm : opAt ops.toList i ∈ ops.toList := List.mem_of_getElem? (i := i) (by simpa using ho)
     have := List.all_eq_true.1 hall _ hm
     rw [e] at this; cases this
    have hnext : hdS (stages.drop (j + 1)) last = (List.range ops.size).filter fun x => sg x == 2 * (j + 1) := by
     rcases Nat.lt_or_ge (j + 1) stages.length with h1 | h1
     ·rcases hx' : stages[j + 1] with ⟨st', kp', e'⟩
      have hs' : stages[j + 1]? = some (st', kp', e') := by rw [List.getElem?_eq_getElem h1, hx']
      rw [List.drop_eq_getElem_cons h1, hx']
      exact (pl.st (j + 1) st' kp' e' hs').1
     ·rw [List.drop_eq_nil_of_le h1]
      have : j + 1 = stages.length := by omega
      rw [this]; exact pl.last
    simp only [wpOpsIn, ho]
    have hw : Region.wanted (opAt ops.toList i) (yielded ops a.tmps) = true := by simp [Region.wanted, hgn]
    rw [hw]
    simp only [if_true]
    refine effA_sound heff hq hH hops hD _ _ ?_ ?_
    ·rintro S' cv v ds' df H' hle hH' hv' hD' ⟨hkp, hk⟩
     rw [vcD_eq, hnext, ← preOf_succ hs] at hk
     obtain ⟨sF, k1, k2, k3⟩ := stage_facts3 (r := r) pl (by omega) hk
     have hkf := vcRs_fact (r := r) _ hkp
     refine lift_wpOpsIn hle l _ _ (ih (fun x => done x ∨ x = i) (j + 1) sF ds' H' S' _ ht.tail ?_ ?_ ?_ k1 (by rw [put_size]; exact hsz) hH' (by rw [put_defers]; exact hD') ?_)
     ·rintro x hx (hd | rfl)
      ·have := I1 x hx hd; omega
      ·omega
     ·intro x hx ho hl
      by_cases h : sg x < 2 * j
      ·exact .inl (I2 x hx ho h)
      ·exact .inr ((g3 x hx).1 (by omega))
     ·intro x hx he hl hnd
      by_cases h : sg x = 2 * (j + 1)
      ·exact k3 x hx h
      ·have hxl : sg x ≤ 2 * j := by omega
       have hnx : ¬ done x := fun h => hnd (.inl h)
       have base : QF r P n ops.toList H' s (opAt ops.toList x) := by
        rcases g5 x hx he hxl with hb | hf | hm
        ·exact absurd (ht.head hb) hnx
        ·exact (hfact x hx he hxl hnx).move hf H'
        ·exact hkf _ (List.mem_map.2 ⟨x, hm, rfl⟩)
       have hpi : ∀ t, (opAt ops.toList i).dst ≠ some t → put s (opAt ops.toList i).dst v t = s t := fun t h => by
        cases hdd : (opAt ops.toList i).dst with
        | none => rfl
        | some d => simp only [put]; rw [if_neg]; intro e; exact h (by rw [hdd, e])
       refine base.congr (fun t htr => ?_) (fun d hd => ?_)
       ·rw [k2 t fun y hy hys hyd => ?_, hpi t fun hid => ?_]
        ·rcases (pl.ssa x i hx hi t hid).1 htr with g | ⟨g, _⟩
         ·have := pl.ord x i hx hi g; omega
         ·exact hnx (ht.head g)
        ·rcases (pl.ssa x y hx hy t hyd).1 htr with g | ⟨_, g⟩
         ·have := pl.ord x y hx hy g; omega
         ·omega
       ·rw [k2 d fun y hy hys hyd => ?_, hpi d fun hid => ?_]
        ·exact (pl.ssa x i hx hi d hid).2 (fun e => by rw [← e] at hxl; omega) hd
        ·exact (pl.ssa x y hx hy d hyd).2 (fun e => by rw [e] at hys; omega) hd
     ·intro t
      by_cases hex : ∃ k, k < ops.size ∧ (sg k % 2 = 0 ∧ sg k ≤ 2 * (j + 1)) ∧ ¬ (done k ∨ k = i) ∧ (opAt ops.toList k).dst = some t
      ·exact .inl hex
      ·right
       have hst : ∀ y, y < ops.size → sg y = 2 * (j + 1) → (opAt ops.toList y).dst ≠ some t := fun y hy hys hyd =>
        hex ⟨y, hy, ⟨by omega, by omega⟩, fun h => by
         rcases h with h | h
         ·have := I1 y hy h; omega
         ·rw [h] at hys; omega, hyd⟩
       rw [k2 t hst]
       by_cases hdt : (opAt ops.toList i).dst = some t
       ·rw [hdt]
        have ht' : t < a.tmps.size := by rw [hsz]; rw [hdt] at hd; exact hd
        rw [put_getD_same ht']
        simp only [put, if_true]
        exact hv'
       ·rw [put_getD hdt]
        have : put s (opAt ops.toList i).dst v t = s t := by
         cases hdd : (opAt ops.toList i).dst with
         | none => rfl
         | some d => simp only [put]; rw [if_neg]; intro e; exact hdt (by rw [hdd, e])
        rw [this]
        rcases hP t with ⟨k, hk, hkq, hnd, hd'⟩ | h
        ·exact absurd ⟨k, hk, ⟨hkq.1, by omega⟩, fun h => h.elim hnd fun e => hdt (by rw [← e]; exact hd'), hd'⟩ hex
        ·exact h.mono hle
    ·intro S' cv v H' hle hH' hv' hk
     refine ⟨S', .pan v, wipe (pickO ops.toList (preOf stages j ++ st)) s, ds, H', rfl, hle, hH', fun t => ?_, hD.mono hle, hsz, ⟨cv, rfl, hv'⟩, hk⟩
     simp only [wipe]
     split
     ·exact .any _
     ·rename_i hno
      rcases hP t with ⟨k, hk, hkq, hnd, hd'⟩ | h
      ·exfalso
       apply hno
       rw [List.any_eq_true]
       refine ⟨opAt ops.toList k, List.mem_map.2 ⟨k, ?_, rfl⟩, by rw [hd']; simp⟩
       rw [show st = (st, kp, i).1 from rfl, ← preOf_succ hs]
       obtain ⟨q, hq⟩ : ∃ q, sg k = 2 * q := ⟨sg k / 2, by omega⟩
       have hql : q < stages.length := by omega
       rcases hxq : stages[q] with ⟨st', kp', e'⟩
       have hsq : stages[q]? = some (st', kp', e') := by rw [List.getElem?_eq_getElem hql, hxq]
       have hst' := (pl.st q st' kp' e' hsq).1
       simp only [preOf, List.mem_flatMap]
       refine ⟨(st', kp', e'), List.mem_of_getElem? (i := q) (by rw [List.getElem?_take_of_lt (by omega)]; exact hsq), ?_⟩
       show k ∈ st'
       rw [hst', List.mem_filter, List.mem_range]
       exact ⟨hk, by simp [hq]⟩
      ·exact h.mono hle


def ordersOf (all : List Oper) : Nat → List Nat → List (List Nat)
 | 0, _ => [[]]
 | n + 1, rem => rem.flatMap fun e => if rem.any (fun k => bitM all e k) = true then [] else (ordersOf all n (rem.filter fun k => k != e)).map (e :: ·)
theorem ordersOf_mem (all : List Oper) : ∀ (n : Nat) (rem m : List Nat), m.length = n → m.Nodup → (∀ x, x ∈ m ↔ x ∈ rem) → (∀ m1 i m2, m = m1 ++ i :: m2 → ∀ k, k ∈ m → bitM all i k = true → k ∈ m1) → m ∈ ordersOf all n rem := by
 intro n
 induction n with
 | zero =>
   intro rem m hl _ _ _
   have : m = [] := List.length_eq_zero_iff.1 hl
   subst this
   simp [ordersOf]
 | succ n ih =>
   intro rem m hl hn hm ho
   cases m with
   | nil => simp at hl
   | cons e m =>
     simp only [ordersOf, List.mem_flatMap]
     refine ⟨e, (hm e).1 (by simp), ?_⟩
     rw [if_neg]
     ·refine List.mem_map.2 ⟨m, ih _ m (by simpa using hl) (List.nodup_cons.1 hn).2 (fun x => ?_) (fun m1 i m2 h k hk hb => ?_), rfl⟩
      ·rw [List.mem_filter]
       constructor
       ·intro hx
        exact ⟨(hm x).1 (by simp [hx]), by simp only [bne_iff_ne]; rintro rfl; exact (List.nodup_cons.1 hn).1 hx⟩
       ·rintro ⟨h1, h2⟩
        rcases List.mem_cons.1 ((hm x).2 h1) with h | h
        ·simp [h] at h2
        ·exact h
      ·have := ho (e :: m1) i m2 (by rw [h]; rfl) k (by simp [hk]) hb
       rcases List.mem_cons.1 this with h3 | h3
       ·subst h3; exact absurd hk (List.nodup_cons.1 hn).1
       ·exact h3
     ·intro hany
      rw [List.any_eq_true] at hany
      obtain ⟨k, hk, hb⟩ := hany
      have := ho [] e m rfl k ((hm k).2 hk) hb
      simp at this
/-- What stands ahead of an operation, where the effects come in this order. -/
def bitE (all : List Oper) (E : List Nat) (i k : Nat) : Bool := bitM all i k || E.any fun eb => (i == eb || bitM all i eb) && (E.takeWhile fun x => x != eb).any fun ea => k == ea || bitM all ea k
theorem Topo.before {ops : Array Oper} {l : List Nat} (h : Topo ops (fun _ => False) l) {j i : Nat} (ha : Anc ops j i) : ∀ l1 l2, l = l1 ++ i :: l2 → j ∈ l1 := by
 induction ha with
 | edge ho he hb hj =>
   intro l1 l2 hl
   subst hj
   exact (h.edges l1 _ l2 hl _ ho _ he hb).resolve_left id
 | trans h1 h2 ih1 ih2 =>
   intro l1 l2 hl
   obtain ⟨a, b, rfl⟩ := List.append_of_mem (ih2 l1 l2 hl)
   have := ih1 a (b ++ _ :: l2) (by rw [hl, List.append_assoc]; rfl)
   exact List.mem_append_left _ this
theorem takeW_filter {p : Nat → Bool} {eb : Nat} : ∀ {a b : List Nat}, eb ∉ a → p eb = true → ((a ++ eb :: b).filter p).takeWhile (fun x => x != eb) = a.filter p
 | [], b, _, hp => by simp [hp]
 | x :: a, b, hn, hp => by
   have h1 : x ≠ eb := fun e => hn (by simp [e])
   have ih := takeW_filter (p := p) (eb := eb) (a := a) (b := b) (fun h => hn (by simp [h])) hp
   simp only [List.cons_append, List.filter_cons]
   split
   ·rw [List.takeWhile_cons, if_pos (by simp [h1]), ih]
   ·exact ih
theorem topoB_of {ops : Array Oper} {l : List Nat} (h : Topo ops (fun _ => False) l) (hb : ∀ i k, bitM ops.toList i k = true → Anc ops k i) (p : Nat → Bool) : TopoB ops (bitE ops.toList (l.filter p)) (fun _ => False) l := by
 refine ⟨h.lt, h.nodup, h.apart, h.all, fun l1 i l2 hl k hB => .inr ?_⟩
 simp only [bitE, Bool.or_eq_true, List.any_eq_true, Bool.and_eq_true, beq_iff_eq] at hB
 rcases hB with hB | ⟨eb, heb, h1, ea, hea, h2⟩
 ·exact h.before (hb _ _ hB) l1 l2 hl
 ·obtain ⟨hebl, hpe⟩ := List.mem_filter.1 heb
  -- eb stands at i or ahead of it
  have hsplit : ∃ q r, l = q ++ eb :: r ∧ ∀ x, x ∈ q → x ∈ l1 := by
   rcases h1 with h1 | h1
   ·subst h1; exact ⟨l1, l2, hl, fun _ hx => hx⟩
   ·obtain ⟨q, r, hq⟩ := List.append_of_mem (h.before (hb _ _ h1) l1 l2 hl)
    exact ⟨q, r ++ i :: l2, by rw [hl, hq, List.append_assoc]; rfl, fun x hx => by rw [hq]; exact List.mem_append_left _ hx⟩
  obtain ⟨q, r, hq, hql⟩ := hsplit
  have hne : eb ∉ q := by
   intro hm
   have hnd := h.nodup
   rw [hq] at hnd
   exact (List.nodup_append.1 hnd).2.2 eb hm eb (by simp) rfl
  rw [hq, takeW_filter hne hpe] at hea
  have heq := (List.mem_filter.1 hea).1
  rcases h2 with h2 | h2
  ·rw [h2]; exact hql _ heq
  ·obtain ⟨a, b, rfl⟩ := List.append_of_mem heq
   have := h.before (hb _ _ h2) a (b ++ eb :: r) (by rw [hq, List.append_assoc]; rfl)
   exact hql _ (List.mem_append_left _ this)

abbrev Pln := List Nat × List Stg × List Nat
def plan3Ok (ops : Array Oper) (E : List Nat) (sg : List Nat) (stages : List Stg) (last : List Nat) : Bool :=
 decide (stages.map (fun x => x.2.2) = E) &&
 ((List.range ops.size).all fun i => (List.range ops.size).all fun k => match (opAt ops.toList k).dst with
   | some d => (!(readsOf ops.toList (opAt ops.toList i)).contains d || bitE ops.toList E i k || (bitE ops.toList E k i && sg.getD k 0 % 2 == 1)) && (decide (k = i) || decide ((opAt ops.toList i).dst ≠ some d))
   | none => true) &&
 ((List.range stages.length).all fun j => match stages[j]? with
   | some (st, kp, e) => decide (st = (List.range ops.size).filter fun i => sg.getD i 0 == 2 * j) && decide (e < ops.size) &&
     ((List.range ops.size).all fun i => decide (sg.getD i 0 = 2 * j + 1) == decide (i = e)) &&
     ((List.range ops.size).all fun i => decide (sg.getD i 0 < 2 * j + 2) || bitE ops.toList E i e) &&
     ((List.range ops.size).all fun i => sg.getD i 0 % 2 == 1 || decide (2 * j < sg.getD i 0) || bitE ops.toList E e i || heapFree (opAt ops.toList i).op || kp.contains i)
   | none => true) &&
 decide (last = (List.range ops.size).filter fun i => sg.getD i 0 == 2 * stages.length) &&
 ((List.range ops.size).all fun i => decide (sg.getD i 0 ≤ 2 * stages.length)) &&
 ((List.range ops.size).all fun i => (List.range ops.size).all fun k => !bitE ops.toList E i k || (decide (sg.getD k 0 ≤ sg.getD i 0) && (decide (sg.getD i 0 ≠ sg.getD k 0) || decide (sg.getD i 0 % 2 ≠ 0) || decide (k < i))))

theorem plan3_of {ops : Array Oper} {E sg : List Nat} {stages : List Stg} {last : List Nat} (hb : ∀ i k, bitM ops.toList i k = true → Anc ops k i) (h : plan3Ok ops E sg stages last = true) :
  stages.map (fun x => x.2.2) = E ∧ Plan3 ops (bitE ops.toList E) (fun i => sg.getD i 0) stages last := by
 simp only [plan3Ok, Bool.and_eq_true, List.all_eq_true, List.mem_range] at h
 obtain ⟨⟨⟨⟨⟨h0, h3⟩, h4⟩, h5⟩, h6⟩, h7⟩ := h
 refine ⟨of_decide_eq_true h0, ?_, ?_, by simpa using h5, fun i hi => by simpa using h6 i hi, fun i k hi hk hbb => ?_, fun i k hi hk hbb hs he => ?_⟩
 ·intro i k hi hk d hd
  have := h3 i hi k hk
  rw [hd] at this
  simp only [Bool.and_eq_true, Bool.or_eq_true, Bool.not_eq_true', decide_eq_true_eq, beq_iff_eq] at this
  obtain ⟨g1, g2⟩ := this
  refine ⟨fun hm => ?_, fun hne => ?_⟩
  ·rcases g1 with (g1 | g1) | g1
   ·rw [List.contains_iff_mem.2 hm] at g1; cases g1
   ·exact .inl g1
   ·exact .inr ⟨g1.1, by simpa using g1.2⟩
  ·rcases g2 with g2 | g2
   ·exact absurd g2 hne
   ·exact g2
 ·intro j st kp e hj
  have hjl : j < stages.length := (List.getElem?_eq_some_iff.1 hj).1
  have := h4 j hjl
  rw [hj] at this
  simp only [Bool.and_eq_true, List.all_eq_true, List.mem_range, Bool.or_eq_true, decide_eq_true_eq, beq_iff_eq] at this
  obtain ⟨⟨⟨⟨g1, g2⟩, g3⟩, g4⟩, g5⟩ := this
  refine ⟨g1, g2, fun i hi => by have := g3 i hi; simpa using this, fun i hi hs => ?_, fun i hi he hs => ?_⟩
  ·rcases g4 i hi with hx | hx
   ·omega
   ·exact hx
  ·rcases g5 i hi with (((hx | hx) | hx) | hx) | hx
   ·omega
   ·omega
   ·exact .inl hx
   ·exact .inr (.inl hx)
   ·exact .inr (.inr (List.contains_iff_mem.1 hx))
 ·have := h7 i hi k hk
  simp only [Bool.or_eq_true, Bool.not_eq_true', Bool.and_eq_true, decide_eq_true_eq] at this
  rcases this with hx | hx
  ·rw [hbb] at hx; cases hx
  ·exact hx.1
 ·have := h7 i hi k hk
  simp only [Bool.or_eq_true, Bool.not_eq_true', Bool.and_eq_true, decide_eq_true_eq] at this
  rcases this with hx | ⟨_, (hx | hx) | hx⟩
  ·rw [hbb] at hx; cases hx
  ·exact absurd hs hx
  ·exact absurd he hx
  ·exact hx
theorem nodup_le {a b : List Nat} (ha : a.Nodup) (h : ∀ x, x ∈ a → x ∈ b) : a.length ≤ b.length := by
 induction a generalizing b with
 | nil => exact Nat.zero_le _
 | cons x a ih =>
   obtain ⟨h1, h2⟩ := List.nodup_cons.1 ha
   have hx : x ∈ b := h x (by simp)
   have := ih (b := b.erase x) h2 fun y hy => (List.mem_erase_of_ne (fun e => h1 (by rw [← e]; exact hy))).2 (h y (by simp [hy]))
   rw [List.length_erase_of_mem hx] at this
   have := List.length_pos_of_mem hx
   simp only [List.length_cons]
   omega
/-- A region whose order is open: a plan for each order of its effects. -/
def draw3Ok (P : Program) (ops : Array Oper) (effs : List Nat) (plans : List Pln) : Bool :=
 (P.follows .mixedOrders || !Region.departs ops) &&
 ((List.range ops.size).all fun k => match ops[k]? with
   | some o => o.after.toList.all fun e => !Region.binds .any e || decide (e.on < k)
   | none => true) &&
 effs.all (fun e => decide (e < ops.size)) && decide effs.Nodup &&
 (ordersOf ops.toList effs.length effs).all fun E => plans.any fun p => plan3Ok ops E p.1 p.2.1 p.2.2

theorem wps_draw3 {r : Option Nat} {P : Program} {mm : Option Tmp → Bool} {n id : Nat} {ops : Array Oper} {s : Fr} {ds : List AD} {H : Hp} {Q : Post} (effs : List Nat) (plans : List Pln)
  (hr : r = none ∨ ops.toList.all (fun o => quietOk o.op) = true) (hok : draw3Ok P ops effs plans = true) (h : ∀ p ∈ plans, vcD P mm n ops.toList [] p.2.1 p.2.2 s ds H Q) : WPS r P n (.region id ops true) s ds H Q := by
 simp only [draw3Ok, Bool.and_eq_true] at hok
 obtain ⟨⟨⟨⟨h1, h2⟩, h3⟩, h4⟩, h5⟩ := hok
 have hedge : ∀ k o e, ops[k]? = some o → e ∈ o.after → Region.binds .any e = true → e.on < k := by
  intro k o e ho he hb
  have hk : k < ops.size := (Array.getElem?_eq_some_iff.1 ho).1
  have := List.all_eq_true.1 h2 k (List.mem_range.2 hk)
  rw [ho] at this
  simp only [List.all_eq_true, Bool.or_eq_true, Bool.not_eq_true', decide_eq_true_eq] at this
  rcases this e (by simpa using he) with hx | hx
  ·rw [hb] at hx; cases hx
  ·exact hx
 have hanc : ∀ i k, bitM ops.toList i k = true → Anc ops k i := fun q j hq =>
  masks_spec ops.toList [] (fun q h1 h2 => by simp) (fun q hq => absurd hq (by simp)) q j hq
 intro S a hn hH hF hD
 refine wpIn_region_draw fun t => ?_
 have hsch : Region.schedule (P.follows .mixedOrders) ops t = Region.linearise .any ops t := by
  unfold Region.schedule
  rw [if_pos h1]
 rw [hsch]
 have htopo := linearise_topo hedge t
 generalize Region.linearise .any ops t = l at htopo ⊢
 have hE : l.filter (effs.contains ·) ∈ ordersOf ops.toList effs.length effs := by
  have hmem : ∀ x, x ∈ l.filter (effs.contains ·) ↔ x ∈ effs := fun x => by
   rw [List.mem_filter]
   constructor
   ·rintro ⟨_, hx⟩; exact List.contains_iff_mem.1 hx
   ·intro hx
    have := of_decide_eq_true (List.all_eq_true.1 h3 x hx)
    exact ⟨(htopo.all x this).resolve_left (fun h => h), List.contains_iff_mem.2 hx⟩
  have hnd : (l.filter (effs.contains ·)).Nodup := List.Pairwise.filter _ htopo.nodup
  refine ordersOf_mem _ _ _ _ ?_ hnd hmem fun m1 i m2 hm k hk hb => ?_
  ·have hnd2 := of_decide_eq_true h4
   exact Nat.le_antisymm (nodup_le hnd fun x hx => (hmem x).1 hx) (nodup_le hnd2 fun x hx => (hmem x).2 hx)
  ·have hil : i ∈ l.filter (effs.contains ·) := by rw [hm]; simp
   obtain ⟨hil, hpi⟩ := List.mem_filter.1 hil
   obtain ⟨a', b', hl⟩ := List.append_of_mem hil
   have hka := htopo.before (hanc _ _ hb) a' b' hl
   have hni : i ∉ a' := by
    intro hx
    have := htopo.nodup
    rw [hl] at this
    exact (List.nodup_append.1 this).2.2 i hx i (by simp) rfl
   have hnm : i ∉ m1 := by
    intro hx
    rw [hm] at hnd
    exact (List.nodup_append.1 hnd).2.2 i hx i (by simp) rfl
   have e1 := takeW_filter (p := (effs.contains ·)) (a := a') (b := b') hni hpi
   rw [← hl, hm] at e1
   have e2 := takeW_filter (p := fun _ => true) (a := m1) (b := m2) hnm rfl
   rw [List.filter_eq_self.2 (fun _ _ => rfl), List.filter_eq_self.2 (fun _ _ => rfl)] at e2
   rw [e2] at e1
   rw [e1]
   exact List.mem_filter.2 ⟨hka, (List.mem_filter.1 hk).2⟩
 obtain ⟨⟨sg, stages, last⟩, hp, hpk⟩ := List.any_eq_true.1 (List.all_eq_true.1 h5 _ hE)
 have hv := h _ hp
 have hpk : plan3Ok ops _ sg stages last = true := hpk
 obtain ⟨_, pl⟩ := plan3_of hanc hpk
 have hB := topoB_of htopo hanc (effs.contains ·)
 simp only [] at hv
 rw [vcD_eq] at hv
 have hst : hdS stages last = (List.range ops.size).filter fun x => sg.getD x 0 == 2 * 0 := by
  cases stages with
  | nil => exact pl.last
  | cons x r => obtain ⟨st, kp, e⟩ := x; exact (pl.st 0 st kp e rfl).1
 rw [hst] at hv
 obtain ⟨sF, k1, k2, k3⟩ := stage_facts3 (r := r) pl (by omega) hv
 have hle : Le S { S with w := { S.w with drawn := S.w.drawn + 1 } } :=
  ⟨rfl, rfl, rfl, Nat.le_refl _, fun _ h => h, fun _ _ => rfl, fun _ _ _ => rfl, Nat.le_refl _, fun _ c _ _ h => ⟨c, h, rfl⟩⟩
 have hH' : HRel { S with w := { S.w with drawn := S.w.drawn + 1 } } H :=
  ⟨hH.fresh, hH.immlt, fun i o ho => (hH.obj i o ho).keep hle (fun _ => rfl) (fun _ _ => rfl) (fun _ _ _ h => h), hH.inj, fun p hp => (hH.giv p hp).mono hle⟩
 refine lift_wpOpsIn hle _ _ _ (draw_run3 (mm := mm) (sg := fun i => sg.getD i 0) pl hr l (fun _ => False) 0 sF ds H _ a hB (fun _ _ h => h.elim) (fun _ _ _ h => by omega)
  (fun i hi he hl _ => k3 i hi (by omega)) k1 hn hH' (hD.mono hle) ?_)
 intro t
 by_cases hx : ∃ k, k < ops.size ∧ (sg.getD k 0 % 2 = 0 ∧ sg.getD k 0 ≤ 2 * 0) ∧ (opAt ops.toList k).dst = some t
 ·obtain ⟨k, a1, a2, a3⟩ := hx
  exact .inl ⟨k, a1, a2, fun h => h, a3⟩
 ·right
  rw [k2 t (fun i hi h0 e => hx ⟨i, hi, ⟨by omega, by omega⟩, e⟩)]
  exact (hF t).mono hle

section
variable {r : Option Nat} {P : Program} {m : Option Tmp → Bool} {n : Nat} {k : List It} {s : Fr} {ds : List AD} {H : Hp} {Q : Post}
theorem vs_draw3 {id : Nat} {l : List Oper} (effs : List Nat) (plans : List Pln) (hok : draw3Ok P l.toArray effs plans = true) (h : ∀ p ∈ plans, VS none P m n (expand l [] p.2.2 p.2.1 k) s ds H Q) :
  VS none P m n (.code (.region id l.toArray true) :: k) s ds H Q := by
 show WPS none P n (.region id l.toArray true) s ds H (TK none P m n k Q)
 refine wps_draw3 (mm := m) effs plans (.inl rfl) hok fun p hp => ?_
 rw [List.toList_toArray, vcD_expand]; exact h p hp
end
end Go.V
end
section
set_option linter.unusedVariables false
namespace Go.V
set_option linter.unusedSectionVars false
variable [Inhabited GivT]
def CutS {σ : Type} (inv : σ → Prop) (fr : σ → List (Nat × AV)) (hp : σ → Hp) (ds0 : List AD) : Post := fun e s ds H => match e with
 | .normal => Ent s ds H fun s2 ds2 H2 => ∃ x, inv x ∧ s2 = Fr.of (fr x) ∧ ds2 = ds0 ∧ H2 = hp x
 | _ => False
section
variable {P : Program} {m : Option Tmp → Bool} {n : Nat} {k : List It} {s : Fr} {ds : List AD} {H : Hp} {Q : Post}
end
end Go.V
end
section
set_option linter.unusedVariables false
namespace Go.V
set_option linter.unusedSectionVars false
variable [Inhabited GivT]
def CutG {σ : Type} (inv : σ → Prop) (fr : σ → List (Nat × AV)) (hp : σ → Hp) (dsf : σ → List AD) (Q : Post) : Post := fun e s ds H => match e with
 | .normal => Ent s ds H fun s2 ds2 H2 => ∃ x, inv x ∧ s2 = Fr.of (fr x) ∧ ds2 = dsf x ∧ H2 = hp x
 | e => Q e s ds H
section
variable {r : Option Nat} {P : Program} {m : Option Tmp → Bool} {n : Nat} {s : Fr} {ds : List AD} {H : Hp} {Q : Post} {σ : Type} {inv : σ → Prop} {fr : σ → List (Nat × AV)} {hp : σ → Hp} {dsf : σ → List AD}
theorem CutG_pan {v : AV} : CutG inv fr hp dsf Q (.pan v) s ds H = Q (.pan v) s ds H := rfl
theorem CutG_ret : CutG inv fr hp dsf Q .ret s ds H = Q .ret s ds H := rfl
theorem cutG_of (x : σ) (h : inv x) (hs : Slots s (fr x)) (hd : ds = dsf x) (hH : HSub H (hp x)) : CutG inv fr hp dsf Q .normal s ds H := by
 subst hd
 exact Ent.of (fr x) hs hH ⟨x, h, rfl, rfl, rfl⟩
end
section
variable {r : Option Nat} {P : Program} {m : Option Tmp → Bool} {n : Nat} {s : Fr} {ds : List AD} {H : Hp} {Q : Post} {σ : Type} (inv : σ → Prop) (fr : σ → List (Nat × AV)) (hp : σ → Hp) (dsf : σ → List AD)
theorem wps_cutG {a b : Code} (h1 : VS r P m n [.code a] s ds H (CutG inv fr hp dsf Q)) (h2 : ∀ x, inv x → WPS r P n b (Fr.of (fr x)) (dsf x) (hp x) Q) : WPS r P n (.seq a b) s ds H Q := by
 refine wps_seq ((vcC_sound a h1).mono fun x s' ds' H' hq => ?_)
 cases x with
 | normal =>
   have hq : Ent s' ds' H' fun s2 ds2 H2 => ∃ x, inv x ∧ s2 = Fr.of (fr x) ∧ ds2 = dsf x ∧ H2 = hp x := hq
   refine wps_ent (hq.mono fun s2 ds2 H2 hx => ?_)
   obtain ⟨x, hi, rfl, rfl, rfl⟩ := hx
   exact h2 x hi
 | ret => exact hq
 | pan v => exact hq
 | exit i => exact hq
theorem wps_cutG2 {a b c : Code} (h1 : VS r P m n [.code a, .code b] s ds H (CutG inv fr hp dsf Q)) (h2 : ∀ x, inv x → WPS r P n c (Fr.of (fr x)) (dsf x) (hp x) Q) : WPS r P n (.seq a (.seq b c)) s ds H Q := by
 refine wps_seq ((vcC_sound a h1).mono fun x s' ds' H' hq => ?_)
 cases x with
 | normal => exact wps_cutG inv fr hp dsf hq h2
 | ret => exact hq
 | pan v => exact hq
 | exit i => exact hq
theorem wps_cutG3 {a b c d : Code} (h1 : VS r P m n [.code a, .code b, .code c] s ds H (CutG inv fr hp dsf Q)) (h2 : ∀ x, inv x → WPS r P n d (Fr.of (fr x)) (dsf x) (hp x) Q) : WPS r P n (.seq a (.seq b (.seq c d))) s ds H Q := by
 refine wps_seq ((vcC_sound a h1).mono fun x s' ds' H' hq => ?_)
 cases x with
 | normal => exact wps_cutG2 inv fr hp dsf hq h2
 | ret => exact hq
 | pan v => exact hq
 | exit i => exact hq
end
theorem tri_wam {P : Program} {g : FuncId} {T : RefT} {H : Hp} {f : FuncId} {fn : Func} {c : Code} {caps args : List AV} {R : Res → Hp → Prop} (hg : AnsOk P g T)
  (hf : P.funcs[f]? = some fn) (hname : (fn.name == "runtime.NumGoroutine") = false)
  (hb : fn.body = some c) (hlen : (args ++ caps).length ≤ fn.ntmps) (hbody : WPS none P fn.ntmps c (argFr (args ++ caps)) [] H (FnPostAM P fn g T R)) : Tri P (.func (.func f) [] caps) args H R := by
 intro S vf vs hH hvf ha
 cases hvf with
 | @func _ _ _ ws us hn hm h h' =>
   have hws : ws = #[] := by simpa using hn
   subst hws
   refine ⟨.enter f (vs.toArray ++ us), ?_, ?_⟩
   ·have hcf : (callFunc f (vs.toArray ++ us)).run P S.w = .ok (.enter f (vs.toArray ++ us)) S.w := by
     simp only [callFunc, Sem.run_bind, run_program, Result.andThen_ok, hf, hname, hb]
     simp
    simp only [Deferred.ofValue, Sem.run_bind, Sem.run_pure, Result.andThen_ok, invoke]
    have e : (#[] : Array Value) ++ vs.toArray = vs.toArray := by simp
    rw [e]
    exact hcf
   ·refine body_callsAM hg hf hb hlen hbody hH ?_
    refine ⟨by simp [ha.1, hm], fun k hk => ?_⟩
    simp only [List.getD, Array.toList_append]
    by_cases hk' : k < args.length
    ·rw [List.getElem?_append_left hk', List.getElem?_append_left (by rw [ha.1]; exact hk')]
     exact ha.2 k hk'
    ·have e1 := ha.1
     simp only [List.length_append] at hk
     rw [List.getElem?_append_right (by omega), List.getElem?_append_right (by omega), e1]
     have := h' (k - args.length) (by omega)
     simpa [List.getD, Array.getD_eq_getD_getElem?] using this
end Go.V
end
section
set_option linter.unusedVariables false
namespace Go.V
set_option linter.unusedSectionVars false
variable [Inhabited GivT]
section
variable {r : Option Nat} {P : Program} {m : Option Tmp → Bool} {n : Nat} {s : Fr} {ds : List AD} {H : Hp} {Q : Post} {σ : Type} (inv : σ → Prop) (fr : σ → List (Nat × AV)) (hp : σ → Hp) (dsf : σ → List AD)
theorem wps_cutG4 {a0 a1 a2 a3 b : Code} (h1 : VS r P m n [.code a0, .code a1, .code a2, .code a3] s ds H (CutG inv fr hp dsf Q)) (h2 : ∀ x, inv x → WPS r P n b (Fr.of (fr x)) (dsf x) (hp x) Q) : WPS r P n (.seq a0 (.seq a1 (.seq a2 (.seq a3 b)))) s ds H Q := by
 refine wps_seq ((vcC_sound a0 h1).mono fun x s' ds' H' hq => ?_)
 cases x with
 | normal => exact wps_cutG3 inv fr hp dsf hq h2
 | ret => exact hq
 | pan v => exact hq
 | exit i => exact hq
theorem wps_cutG5 {a0 a1 a2 a3 a4 b : Code} (h1 : VS r P m n [.code a0, .code a1, .code a2, .code a3, .code a4] s ds H (CutG inv fr hp dsf Q)) (h2 : ∀ x, inv x → WPS r P n b (Fr.of (fr x)) (dsf x) (hp x) Q) : WPS r P n (.seq a0 (.seq a1 (.seq a2 (.seq a3 (.seq a4 b))))) s ds H Q := by
 refine wps_seq ((vcC_sound a0 h1).mono fun x s' ds' H' hq => ?_)
 cases x with
 | normal => exact wps_cutG4 inv fr hp dsf hq h2
 | ret => exact hq
 | pan v => exact hq
 | exit i => exact hq
theorem wps_cutG6 {a0 a1 a2 a3 a4 a5 b : Code} (h1 : VS r P m n [.code a0, .code a1, .code a2, .code a3, .code a4, .code a5] s ds H (CutG inv fr hp dsf Q)) (h2 : ∀ x, inv x → WPS r P n b (Fr.of (fr x)) (dsf x) (hp x) Q) : WPS r P n (.seq a0 (.seq a1 (.seq a2 (.seq a3 (.seq a4 (.seq a5 b)))))) s ds H Q := by
 refine wps_seq ((vcC_sound a0 h1).mono fun x s' ds' H' hq => ?_)
 cases x with
 | normal => exact wps_cutG5 inv fr hp dsf hq h2
 | ret => exact hq
 | pan v => exact hq
 | exit i => exact hq
theorem wps_cutG7 {a0 a1 a2 a3 a4 a5 a6 b : Code} (h1 : VS r P m n [.code a0, .code a1, .code a2, .code a3, .code a4, .code a5, .code a6] s ds H (CutG inv fr hp dsf Q)) (h2 : ∀ x, inv x → WPS r P n b (Fr.of (fr x)) (dsf x) (hp x) Q) : WPS r P n (.seq a0 (.seq a1 (.seq a2 (.seq a3 (.seq a4 (.seq a5 (.seq a6 b))))))) s ds H Q := by
 refine wps_seq ((vcC_sound a0 h1).mono fun x s' ds' H' hq => ?_)
 cases x with
 | normal => exact wps_cutG6 inv fr hp dsf hq h2
 | ret => exact hq
 | pan v => exact hq
 | exit i => exact hq
end
/-- A cut, where more is to be said first. -/
theorem cutG_ent {σ : Type} {inv : σ → Prop} {fr : σ → List (Nat × AV)} {hp : σ → Hp} {dsf : σ → List AD} {Q : Post} {s : Fr} {ds : List AD} {H : Hp} (h : Ent s ds H fun s ds H => CutG inv fr hp dsf Q .normal s ds H) : CutG inv fr hp dsf Q .normal s ds H := Ent.bind h fun _ _ _ h => h
end Go.V
end
section
set_option linter.unusedVariables false
set_option linter.unusedSimpArgs false
namespace Go.V
set_option linter.unusedSectionVars false
variable [Inhabited GivT]
/-- The same value, with some leaves told otherwise, in rows too. -/
inductive FrzS (L : AV → AV → Prop) : AV → AV → Prop
 | same (x : AV) : FrzS L x x
 | leaf {x y : AV} (h : L x y) : FrzS L x y
 | agg {cs cs' : List AV} (hl : cs'.length = cs.length) (h : ∀ k, k < cs.length → FrzS L (cs.getD k .any) (cs'.getD k .any)) : FrzS L (.agg cs) (.agg cs')
 | rsl {n st : Nat} {f g : Nat → List AV} (hl : ∀ k, k < n → (f k).length = st → (g k).length = st) (h : ∀ k l, k < n → l < st → FrzS L ((f k).getD l .any) ((g k).getD l .any)) : FrzS L (.rsl n st f) (.rsl n st g)
theorem FrzS.conv {L : AV → AV → Prop} {S S2 : St} (hle : Le S S2) (hc : ∀ x y, L x y → ∀ v, VRel S x v → VRel S2 y v) {x y : AV} (hxy : FrzS L x y) : ∀ v, VRel S x v → VRel S2 y v := by
 induction hxy with
 | same x => intro v hv; exact hv.mono hle
 | leaf h => intro v hv; exact hc _ _ h v hv
 | agg hl h ih =>
   intro v hv
   cases hv with
   | agg hn hv => exact .agg (hn.trans hl.symm) fun k hk => ih k (by omega) _ (hv k (by omega))
 | @rsl n st f g hl h ih =>
   intro v hv
   cases hv with
   | rsl0 => exact .rsl0
   | rsl hi hb hsz hf hh hcap =>
     exact .rsl (hle.imm _ hi) ((hle.keep _ hi).trans hb) hsz (fun k hk => hl k hk (hf k hk)) (fun k l hk hl2 => ih k l hk hl2 _ (hh k l hk hl2)) hcap
/-- What slots hold, slot by slot. -/
inductive FrzL (L : AV → AV → Prop) : List (Nat × AV) → List (Nat × AV) → Prop
 | nil : FrzL L [] []
 | cons {t : Nat} {v v' : AV} {l l' : List (Nat × AV)} (h : FrzS L v v') (k : FrzL L l l') : FrzL L ((t, v) :: l) ((t, v') :: l')
theorem FrzL.refl {L : AV → AV → Prop} : ∀ l : List (Nat × AV), FrzL L l l
 | [] => .nil
 | (_, v) :: l => .cons (.same v) (FrzL.refl l)
theorem FrzL.fr {L : AV → AV → Prop} {l l' : List (Nat × AV)} (h : FrzL L l l') : ∀ t, FrzS L (Fr.of l t) (Fr.of l' t) := by
 intro t
 induction h with
 | nil => exact .same _
 | cons hv _ ih =>
   simp only [Fr.of]
   split
   ·exact hv
   ·exact ih
end Go.V
end
section
set_option linter.unusedVariables false
set_option linter.unusedSimpArgs false
set_option maxHeartbeats 4000000
set_option maxRecDepth 100000
namespace Go.Proofs.YtdopkbldjagmlaaGreat
open Go.V
abbrev Po.cs (x : Po) : List AV := [i64 x.ht, i64 x.fr, i64 x.bb]
def psF (l : List Po) : Nat → List AV := fun i => (l.getD i po0).cs
theorem psF_at (l : List Po) (i : Nat) : psF l i = [i64 (l.getD i po0).ht, i64 (l.getD i po0).fr, i64 (l.getD i po0).bb] := rfl
abbrev psAV (l : List Po) : AV := .rsl l.length 3 (psF l)
abbrev Pt.cs (p : Pt) : List AV := [i64 p.hr, i64 p.fro, i64 p.per, intsAV p.fs, psAV p.ps]
abbrev Pt.av (p : Pt) : AV := .agg p.cs
abbrev pptr (p : Pt) : AV := .rptr 1 5 (fun _ => p.cs) 0 0
abbrev plC (x : Int × Int) : List AV := [i64 x.1, i64 x.2]
abbrev plA (x : Int × Int) : AV := .agg (plC x)
abbrev plP (x : Int × Int) : AV := .rptr 1 2 (fun _ => plC x) 0 0
def plF (l : List (Int × Int)) : Nat → List AV := fun i => plC (l.getD i (0, 0))
theorem plF_at (l : List (Int × Int)) (i : Nat) : plF l i = [i64 (l.getD i (0, 0)).1, i64 (l.getD i (0, 0)).2] := rfl
abbrev plsAV (l : List (Int × Int)) : AV := .rsl l.length 2 (plF l)

theorem in_tri (n lo hi : Int) (H : Hp) : PTri Tryz.prog (fnA 77) [i64 n, i64 lo, i64 hi] H (boo (decide (lo ≤ n) && decide (n ≤ hi))) := by
 refine tri_v0 (fun _ => false) Tryz.func77 (by kernel_rfl) rfl (by simp only [List.length_append, List.length_cons, List.length_nil, Tryz.ntmps77]; decide) ?_
 simp only [vsAll, binA, binLitA, intA, pickA, opA, guardV, dstOk, nilSliceOp, resA, argFr, retA.eq_1, Nat.reduceLT, Nat.reduceEqDiff, ↓reduceIte, reduceCtorEq, implies_true, eq_self, Tryz.ntmps77, Tryz.results77]
theorem power_tri (n : Nat) (H : Hp) (hn : n ≤ 60) : PTri Tryz.prog (fnA 78) [i64 n] H (i64 ((2 ^ n : Nat) : Int)) := by
 refine tri_v0 (fun _ => false) Tryz.func78 (by kernel_rfl) rfl (by simp only [List.length_append, List.length_cons, List.length_nil, Tryz.ntmps78]; decide) ?_
 simp only [vsAll, opA, dstOk, nilSliceOp, Nat.reduceLT, eq_self, Tryz.ntmps78]
 refine vs_loop (σ := Nat) (fun i => i ≤ n) (fun i => [(0, i64 n), (3, i64 ((2 ^ i : Nat) : Int)), (4, i64 i)]) (fun _ => H) (fun i => n - i) 0 (Nat.zero_le _) ?_ ?_ fun i hi => ?_
 ·simp only [vsAll, argFr, Nat.reduceEqDiff, ↓reduceIte, reduceCtorEq, eq_self, Int.natCast_zero, Nat.pow_zero, Int.natCast_one]
 ·(repeat (first | exact HSub_rfl | refine HSub_put_eq (by simp only [vsAll, ↓reduceIte, eq_self, reduceCtorEq, Nat.reduceEqDiff]) ?_ | refine HSub_drop2 (by simp only [vsAll, ↓reduceIte, eq_self, reduceCtorEq, Nat.reduceEqDiff]) ?_ | refine HSub_keep_eq (by simp only [vsAll, ↓reduceIte, eq_self, reduceCtorEq, Nat.reduceEqDiff]) ?_))
 ·simp only [vsAll, binA, binLitA, intA, opA, dstOk, Nat.reduceLT, Nat.reduceEqDiff, ↓reduceIte, reduceCtorEq, eq_self]
  refine condD (fun hb => ?_) (fun hb => ?_)
  ·have h1 : 2 ^ (i + 1) ≤ 2 ^ 60 := Nat.pow_le_pow_right (by omega) (by omega)
   rw [Nat.pow_succ] at h1
   simp only [vsAll, binA, binLitA, intA, opA, dstOk, nilSliceOp, Nat.reduceLT, Nat.reduceEqDiff, ↓reduceIte, reduceCtorEq, eq_self]
   simp only [InR_i64]
   refine ⟨by omega, by omega, loop_next (i + 1) (by omega) (by omega) ?_ ?_⟩
   ·have e : 2 * ((2 ^ i : Nat) : Int) = ((2 ^ (i + 1) : Nat) : Int) := by rw [Nat.pow_succ]; omega
    simp only [vsAll, Nat.reduceEqDiff, ↓reduceIte, reduceCtorEq, eq_self, e, Int.natCast_add, Int.natCast_one]
   ·(repeat (first | exact HSub_rfl | refine HSub_put_eq (by simp only [vsAll, ↓reduceIte, eq_self, reduceCtorEq, Nat.reduceEqDiff]) ?_ | refine HSub_drop2 (by simp only [vsAll, ↓reduceIte, eq_self, reduceCtorEq, Nat.reduceEqDiff]) ?_ | refine HSub_keep_eq (by simp only [vsAll, ↓reduceIte, eq_self, reduceCtorEq, Nat.reduceEqDiff]) ?_))
  ·have e : i = n := by omega
   subst e
   simp only [vsAll, opA, dstOk, nilSliceOp, resA, retA.eq_1, Nat.reduceLT, Nat.reduceEqDiff, ↓reduceIte, reduceCtorEq, eq_self, Tryz.results78]
end Go.Proofs.YtdopkbldjagmlaaGreat
end
section
set_option linter.unusedVariables false
set_option linter.unusedSimpArgs false
set_option maxHeartbeats 4000000
set_option maxRecDepth 100000
namespace Go.Proofs.YtdopkbldjagmlaaGreat
open Go.V
theorem not_in (a b n : Int) : (!(decide (a ≤ n) && decide (n ≤ b))) = false ↔ a ≤ n ∧ n ≤ b := by
 rw [Bool.not_eq_false', Bool.and_eq_true, decide_eq_true_eq, decide_eq_true_eq]
theorem rpitch_tri (p : Pt) (H : Hp) (kn : Near p) : PTri Tryz.prog (fnA 33) [p.av] H (boo (decide (Ok p))) := by
 have nF := kn.nF
 have nP := kn.nP
 refine Tri.drop ?_
 refine tri_v0 (fun _ => false) Tryz.func33 (by kernel_rfl) rfl (by simp only [List.length_append, List.length_cons, List.length_nil, Tryz.ntmps33]; decide) ?_
 have fail : ¬ Ok p → decide (Ok p) = false := fun h => decide_eq_false h
 simp only [vsAll, loadA, loadRow, partA, partOk, fieldAddrA, boxA, boxZ, okAll, stAll, opsA, opA, dstOk, nilSliceOp, argFr, Nat.reduceAdd, Nat.reduceLT, Nat.reduceEqDiff, ↓reduceIte, eq_self, wtAll, Tryz.ntmps33]
 refine callK_pure (in_tri _ _ _ _) ?_
 simp only [vsAll, binA, binLitA, intA, unA, loadA, loadRow, partA, partOk, fieldAddrA, lenA, pickA, opA, guardV, dstOk, Nat.reduceLT, Nat.reduceEqDiff, ↓reduceIte, implies_true, eq_self, wtAll]
 refine condV (fun hc => ?_) (fun hc => ?_)
 ·have hno : ¬ Ok p := fun k => by
   have := k.nF; have := k.nP; have := k.hr
   simp only [Bool.or_eq_true, Bool.and_eq_false_iff, Bool.not_eq_true', decide_eq_true_eq, decide_eq_false_iff_not] at hc
   omega
  simp only [vsAll, opA, dstOk, nilSliceOp, resA, retA.eq_1, Nat.reduceLT, ↓reduceIte, eq_self, Tryz.results33, fail hno]
  exact dropR_pure rfl (by (repeat (first | exact HSub_rfl | refine HSub_put_eq (by simp only [vsAll, ↓reduceIte, eq_self, reduceCtorEq, Nat.reduceEqDiff]) ?_ | refine HSub_drop2 (by simp only [vsAll, ↓reduceIte, eq_self, reduceCtorEq, Nat.reduceEqDiff]) ?_ | refine HSub_keep_eq (by simp only [vsAll, ↓reduceIte, eq_self, reduceCtorEq, Nat.reduceEqDiff]) ?_)))
 ·have hN : (0 ≤ p.hr ∧ p.hr ≤ 12) ∧ p.fs.length ≤ 3 ∧ p.ps.length ≤ 4 := by
   rw [Bool.or_eq_false_iff, Bool.or_eq_false_iff, not_in, decide_eq_false_iff_not, decide_eq_false_iff_not] at hc
   omega
  have eH : (p.H : Int) = p.hr := by unfold Pt.H; omega
  have eH' : p.hr = (p.H : Int) := eH.symm
  have h12 : p.H ≤ 12 := by omega
  have hpw := pow12 h12
  have hp0 : 0 < 2 ^ p.H := Nat.two_pow_pos _
  simp only [vsAll, loadA, loadRow, partA, partOk, fieldAddrA, okAll, stAll, opsA, opA, dstOk, Nat.reduceLT, Nat.reduceEqDiff, ↓reduceIte, eq_self, wtAll, eH']
  refine callK_pure (power_tri p.H _ (by omega)) ?_
  simp only [vsAll, binA, binLitA, intA, loadA, loadRow, partA, partOk, fieldAddrA, okAll, stAll, opsA, opA, dstOk, nilSliceOp, Nat.reduceLT, Nat.reduceEqDiff, ↓reduceIte, eq_self, wtAll]
  refine ⟨by simp only [InR_i64]; omega, callK_pure (in_tri _ _ _ _) ?_⟩
  simp only [vsAll, unA, loadA, loadRow, partA, partOk, fieldAddrA, opA, guardV, dstOk, Nat.reduceLT, Nat.reduceEqDiff, ↓reduceIte, implies_true, eq_self, wtAll]
  refine gcall _ (fun g => ⟨by simp only [vsAll, opA], by simp only [vsAll, okAll, opsA, opA, Nat.reduceEqDiff, ↓reduceIte, eq_self, g], in_tri p.per 0 _ _⟩) ?_
  simp only [vsAll, unA, pickA, opA, guardV, dstOk, Nat.reduceLT, Nat.reduceEqDiff, ↓reduceIte, implies_true, eq_self]
  refine condV (fun hc2 => ?_) (fun hc2 => ?_)
  ·have hno : ¬ Ok p := fun k => by
    have h1 := k.fro; have h2 := k.per
    unfold okSet at h1 h2
    rw [Bool.or_eq_true, ← Bool.not_eq_false, ← Bool.not_eq_false, not_in, not_in] at hc2
    omega
   simp only [vsAll, opA, dstOk, nilSliceOp, resA, retA.eq_1, Nat.reduceLT, ↓reduceIte, eq_self, Tryz.results33, fail hno]
   exact dropR_pure rfl (by (repeat (first | exact HSub_rfl | refine HSub_put_eq (by simp only [vsAll, ↓reduceIte, eq_self, reduceCtorEq, Nat.reduceEqDiff]) ?_ | refine HSub_drop2 (by simp only [vsAll, ↓reduceIte, eq_self, reduceCtorEq, Nat.reduceEqDiff]) ?_ | refine HSub_keep_eq (by simp only [vsAll, ↓reduceIte, eq_self, reduceCtorEq, Nat.reduceEqDiff]) ?_)))
  ·have hS : okSet p p.fro ∧ okSet p p.per := by
    rw [Bool.or_eq_false_iff, not_in, not_in] at hc2
    unfold okSet; exact hc2
   simp only [vsAll, opA, dstOk, nilSliceOp, Nat.reduceLT, eq_self]
   refine vs_loop (σ := Nat) (fun i => i ≤ p.fs.length ∧ ∀ j, j < i → okSet p (p.fs.getD j 0)) (fun i => [(1, pptr p), (3, i64 (((2 ^ p.H : Nat) : Int) - 1)), (4, i64 i)]) (fun _ => H) (fun i => p.fs.length - i) 0 ⟨Nat.zero_le _, fun j hj => absurd hj (by omega)⟩ ?_ (HSub.refl _) fun i hi => ?_
   ·simp only [vsAll, Nat.reduceEqDiff, ↓reduceIte, eq_self, Int.natCast_zero]
   ·obtain ⟨hi, hall⟩ := hi
    simp only [vsAll, binA, binLitA, intA, loadA, loadRow, partA, partOk, fieldAddrA, lenA, opA, dstOk, Nat.reduceLT, Nat.reduceEqDiff, ↓reduceIte, eq_self, wtAll]
    refine condD (fun hd => ?_) (fun hd => ?_)
    ·have hio : i < p.fs.length := by omega
     simp only [vsAll, loadA, loadRow, partA, partOk, fieldAddrA, indexAddrA, okAll, stAll, opsA, opA, dstOk, Nat.reduceLT, Nat.reduceEqDiff, ↓reduceIte, eq_self, wtAll, intF_at]
     refine ⟨⟨by omega, by omega⟩, hio, callK_pure (in_tri _ _ _ _) ?_⟩
     simp only [vsAll, unA, opA, dstOk, Nat.reduceLT, ↓reduceIte, eq_self]
     refine condV (fun hc3 => ?_) (fun hc3 => ?_)
     ·have hno : ¬ Ok p := fun k => by
       have h1 := k.f i hio
       unfold okSet at h1
       rw [← Bool.not_eq_false, not_in] at hc3
       exact hc3 h1
      simp only [vsAll, opA, dstOk, nilSliceOp, resA, retA.eq_1, Nat.reduceLT, ↓reduceIte, eq_self, Tryz.results33, fail hno]
      exact dropR_pure rfl (by (repeat (first | exact HSub_rfl | refine HSub_put_eq (by simp only [vsAll, ↓reduceIte, eq_self, reduceCtorEq, Nat.reduceEqDiff]) ?_ | refine HSub_drop2 (by simp only [vsAll, ↓reduceIte, eq_self, reduceCtorEq, Nat.reduceEqDiff]) ?_ | refine HSub_keep_eq (by simp only [vsAll, ↓reduceIte, eq_self, reduceCtorEq, Nat.reduceEqDiff]) ?_)))
     ·rw [not_in] at hc3
      simp only [vsAll, binA, binLitA, intA, opA, dstOk, nilSliceOp, Nat.reduceLT, Nat.reduceEqDiff, ↓reduceIte, eq_self]
      refine ⟨by simp only [InR_i64]; omega, loop_next (i + 1) ⟨by omega, fun j hj => ?_⟩ (by omega) ?_ HSub_rfl⟩
      ·by_cases e : j = i
       ·rw [e]; exact hc3
       ·exact hall j (by omega)
      ·simp only [vsAll, Nat.reduceEqDiff, ↓reduceIte, eq_self, Int.natCast_add, Int.natCast_one]
    ·have ei : i = p.fs.length := by omega
     subst ei
     simp only [vsAll, opA, dstOk, nilSliceOp, Nat.reduceLT, ↓reduceIte, eq_self]
     refine vs_loop (σ := Nat) (fun i => i ≤ p.ps.length ∧ ∀ j, j < i → okP p (p.ps.getD j po0)) (fun i => [(1, pptr p), (5, i64 i)]) (fun _ => H) (fun i => p.ps.length - i) 0 ⟨Nat.zero_le _, fun j hj => absurd hj (by omega)⟩ ?_ (HSub.refl _) fun i hi2 => ?_
     ·simp only [vsAll, Nat.reduceEqDiff, ↓reduceIte, eq_self, Int.natCast_zero]
     ·obtain ⟨hi2, hall2⟩ := hi2
      simp only [vsAll, binA, binLitA, intA, loadA, loadRow, partA, partOk, fieldAddrA, lenA, opA, dstOk, Nat.reduceLT, Nat.reduceEqDiff, ↓reduceIte, eq_self, wtAll]
      refine condD (fun hd2 => ?_) (fun hd2 => ?_)
      ·have hio : i < p.ps.length := by omega
       simp only [vsAll, loadA, loadRow, partA, partOk, fieldAddrA, indexAddrA, cellA, okAll, stAll, opsA, opA, allocA, newCells, okCells, storeObj, dstOk, Nat.reduceAdd, Nat.reduceLT, Nat.reduceEqDiff, ↓reduceIte, eq_self, wtAll, psF_at]
       refine ⟨⟨by omega, by omega⟩, hio, ?_⟩
       intro i6 hh_i6; (try simp only [Hp.set_none, ite_none] at hh_i6)
       have hle : ∀ x : Po, okP p x ↔ (!(decide (1 ≤ x.ht) && decide (x.ht ≤ 12)) || !(decide (0 ≤ x.fr) && decide (x.fr ≤ (p.H : Int))) || !(decide (0 ≤ x.bb) && decide (x.bb ≤ (p.H : Int)))) = false := fun x => by
        unfold okP
        rw [Bool.or_eq_false_iff, Bool.or_eq_false_iff, not_in, not_in, not_in]
        ((try clear hh_i6); omega)
       have hle := hle (p.ps.getD i po0)
       have hnx : okP p (p.ps.getD i po0) → ∀ j, j < i + 1 → okP p (p.ps.getD j po0) := fun h j hj => by
        by_cases e : j = i
        ·rw [e]; exact h
        ·exact hall2 j (by ((try clear hh_i6); omega))
       have hno : ¬ okP p (p.ps.getD i po0) → ¬ Ok p := fun h k => h (k.s i hio)
       generalize p.ps.getD i po0 = x at *
       refine callK_pure (in_tri _ _ _ _) ?_
       simp only [vsAll, unA, loadA, loadRow, partA, partOk, fieldAddrA, opA, guardV, dstOk, Nat.reduceLT, Nat.reduceEqDiff, ↓reduceIte, implies_true, eq_self, wtAll, eH']
       refine gcall _ (fun g => ⟨by simp only [vsAll, opA], by simp only [vsAll, okAll, opsA, opA, Nat.reduceEqDiff, ↓reduceIte, eq_self, g], in_tri x.fr 0 (p.H : Int) _⟩) ?_
       simp only [vsAll, unA, loadA, loadRow, partA, partOk, fieldAddrA, pickA, opA, guardV, dstOk, Nat.reduceLT, Nat.reduceEqDiff, ↓reduceIte, implies_true, eq_self, wtAll, eH']
       refine gcall _ (fun g => ⟨by simp only [vsAll, opA], by simp only [vsAll, okAll, opsA, opA, Nat.reduceEqDiff, ↓reduceIte, eq_self, g], in_tri x.bb 0 (p.H : Int) _⟩) ?_
       simp only [vsAll, unA, pickA, opA, guardV, dstOk, Nat.reduceLT, Nat.reduceEqDiff, ↓reduceIte, implies_true, eq_self]
       refine condV (fun hc2 => ?_) (fun hc2 => ?_)
       ·have hn := hno (fun q => by rw [hle.1 q] at hc2; cases hc2)
        simp only [vsAll, opA, dstOk, nilSliceOp, resA, retA.eq_1, Nat.reduceLT, ↓reduceIte, eq_self, Tryz.results33, fail hn]
        exact dropR_pure rfl (by (repeat (first | exact HSub_rfl | refine HSub_put_eq (by simp only [vsAll, ↓reduceIte, eq_self, reduceCtorEq, Nat.reduceEqDiff, hh_i6]) ?_ | refine HSub_drop2 (by simp only [eq_self, hh_i6]) ?_ | refine HSub_keep_eq (by simp only [vsAll, ↓reduceIte, eq_self, reduceCtorEq, Nat.reduceEqDiff, hh_i6]) ?_)))
       ·have hk := hle.2 hc2
        simp only [vsAll, binA, binLitA, intA, opA, dstOk, nilSliceOp, Nat.reduceLT, Nat.reduceEqDiff, ↓reduceIte, eq_self]
        refine ⟨by simp only [InR_i64]; ((try clear hh_i6); omega), loop_next (i + 1) ⟨by ((try clear hh_i6); omega), hnx hk⟩ (by ((try clear hh_i6); omega)) ?_ ?_⟩
        ·simp only [vsAll, Nat.reduceEqDiff, ↓reduceIte, eq_self, Int.natCast_add, Int.natCast_one]
        ·(repeat (first | exact HSub_rfl | refine HSub_put_eq (by simp only [vsAll, ↓reduceIte, eq_self, reduceCtorEq, Nat.reduceEqDiff, hh_i6]) ?_ | refine HSub_drop2 (by simp only [eq_self, hh_i6]) ?_ | refine HSub_keep_eq (by simp only [vsAll, ↓reduceIte, eq_self, reduceCtorEq, Nat.reduceEqDiff, hh_i6]) ?_))
      ·have ei : i = p.ps.length := by omega
       have hk : decide (Ok p) = true := decide_eq_true ((ok_iff p).2 ⟨hN, hS, hall, by rw [← ei]; exact hall2⟩)
       simp only [vsAll, opA, dstOk, nilSliceOp, resA, retA.eq_1, Nat.reduceLT, ↓reduceIte, eq_self, Tryz.results33, hk]
       exact dropR_pure rfl (by (repeat (first | exact HSub_rfl | refine HSub_put_eq (by simp only [vsAll, ↓reduceIte, eq_self, reduceCtorEq, Nat.reduceEqDiff]) ?_ | refine HSub_drop2 (by simp only [vsAll, ↓reduceIte, eq_self, reduceCtorEq, Nat.reduceEqDiff]) ?_ | refine HSub_keep_eq (by simp only [vsAll, ↓reduceIte, eq_self, reduceCtorEq, Nat.reduceEqDiff]) ?_)))
end Go.Proofs.YtdopkbldjagmlaaGreat
end
section
set_option linter.unusedVariables false
set_option linter.unusedSimpArgs false
namespace Go.Proofs.YtdopkbldjagmlaaGreat
open Go.V
theorem F_sub (p : Pt) (j : Nat) (h : (p.F false).testBit j = true) : (p.F true).testBit j = true := by
 unfold Pt.F at *
 simp only [Bool.false_eq_true, if_false, if_true] at *
 rw [Nat.testBit_or, h]; rfl
theorem hsum_sub {F G : Nat} (h : ∀ j, F.testBit j = true → G.testBit j = true) (a : Nat) : ∀ n, hsum G a n ≤ hsum F a n
 | 0 => Nat.le_refl _
 | n + 1 => by
   have ih := hsum_sub h a n
   have := h (a + n)
   simp only [hsum]
   by_cases h1 : F.testBit (a + n) = true
   ·rw [if_pos h1, if_pos (this h1)]; omega
   ·rw [if_neg h1]; split <;> omega
/-- With less frost, or less heat to take, a pot is hot no later. -/
theorem endN_mono {F G : Nat} (h : ∀ j, F.testBit j = true → G.testBit j = true) {t t' : Int} (ht : t ≤ t') {H a : Nat} (ha : a ≤ H) : endN F t H a ≤ endN G t' H a := by
 rcases endN_cases G t' H a with ⟨h1, h2, h3, _⟩ | ⟨h1, _⟩
 ·rw [endN_le h2 h1]
  have := hsum_sub h a (endN G t' H a - a)
  omega
 ·have := endN_gt F t ha
  omega
theorem hotV_mono (p : Pt) (i : Nat) {h : Nat} (hh : h ≤ p.H) : hotV p false i h ≤ hotV p true i h := endN_mono (F_sub p) (Int.le_refl _) hh
def hotE (p : Pt) (n h : Int) : Int := if errE p (isPot p n && isHour p h) = 0 then if hotV p true n.toNat h.toNat ≤ p.H then 0 else 11 else errE p (isPot p n && isHour p h)
def hotS (p : Pt) (n h : Int) : Int × Int := if hotE p n h = 0 then ((hotV p false n.toNat h.toNat : Nat), (hotV p true n.toNat h.toNat : Nat)) else (0, 0)
/-- The hours at which a pot can be put on a fire, of the first ones. -/
def stN (p : Pt) (i : Nat) (f : Int) : Nat → Nat
 | 0 => 0
 | t + 1 => stN p i f t + if alR p i (f, (t : Int)) = 0 then 2 ^ t else 0
def stE (p : Pt) (n f : Int) : Int := errE p (isPot p n && isFire p f)
def stV (p : Pt) (n f : Int) : Nat := if stE p n f = 0 then stN p n.toNat f p.H else 0
def ckO (p : Pt) (l : List (Int × Int)) : Option Nat := (List.range l.length).find? fun i => !decide (brR p i (l.getD i (0, 0)) l = 0)
def checkE (p : Pt) (l : List (Int × Int)) : Int := if errE p (planB p l) = 0 then if (ckO p l).isSome = true then 0 else 4 else errE p (planB p l)
def checkW (p : Pt) (l : List (Int × Int)) : Nat := if checkE p l = 0 then (ckO p l).getD 0 else 0
def checkR (p : Pt) (l : List (Int × Int)) : Int := if checkE p l = 0 then brR p (checkW p l) (l.getD (checkW p l) (0, 0)) l else 0
def cntE (p : Pt) : Int := errE p true
def cntV (p : Pt) : Nat := if cntE p = 0 then (rpl p).length else 0
def rgtE (p : Pt) (v : Bool) : Int := if errE p v = 0 then if (rpl p).length = 0 then 4 else 0 else errE p v
theorem rgtE_zero {p : Pt} {v : Bool} (h : rgtE p v = 0) : Ok p ∧ v = true ∧ 0 < (rpl p).length := by
 unfold rgtE at h
 split at h
 ·rename_i he
  obtain ⟨k, hv⟩ := errE_zero he
  refine ⟨k, hv, ?_⟩
  split at h
  ·omega
  ·omega
 ·rename_i he; exact absurd h he
def bestP (p : Pt) : List (Int × Int) := if rgtE p true = 0 then mnG (lastV p) (rpl p) [] (rpl p).length else []
def bestV (p : Pt) : Int := if rgtE p true = 0 then lastV p (bestP p) else 0
def latN (L : List (List (Int × Int))) (t : Nat) : Nat → Int
 | 0 => 0
 | i + 1 => max (latN L t i) ((L.getD i []).getD t (0, 0)).2
def latE (p : Pt) (n : Int) : Int := rgtE p (isPot p n)
def latV (p : Pt) (n : Int) : Int := if latE p n = 0 then latN (rpl p) n.toNat (rpl p).length else 0
def usedN (l : List (Int × Int)) : Nat → Nat
 | 0 => 0
 | i + 1 => usedN l i ||| 2 ^ (l.getD i (0, 0)).1.toNat
def used (l : List (Int × Int)) : Nat := usedN l l.length
def lessU (a b : Nat) : Bool := decide (pop a < pop b) || (decide (pop a = pop b) && decide (a < b))
def fewU (L : List (List (Int × Int))) : Nat → Nat
 | 0 => used (L.getD 0 [])
 | i + 1 => if lessU (used (L.getD i [])) (fewU L i) = true then used (L.getD i []) else fewU L i
def fewN (p : Pt) : Nat := if rgtE p true = 0 then fewU (rpl p) (rpl p).length else 0
def onL (p : Pt) (S : Nat) : Nat → List Po
 | 0 => []
 | i + 1 => if S.testBit i = true then onL p S i ++ [p.ps.getD i po0] else onL p S i
def onlyP (p : Pt) (S : Nat) : Pt := { p with ps := onL p S p.ps.length }
def noneP (p : Pt) (S : Nat) : Bool := decide ((rpl (onlyP p S)).length = 0)
def clE (p : Pt) : Int := if errE p true = 0 then if 0 < (rpl p).length then 4 else 0 else errE p true
def clV (p : Pt) : Nat := if clE p = 0 then bsN (noneP p) (2 ^ p.ps.length - 1) (2 ^ p.ps.length) else 0
end Go.Proofs.YtdopkbldjagmlaaGreat
end
section
set_option linter.unusedVariables false
set_option linter.unusedSimpArgs false
namespace Go.Proofs.YtdopkbldjagmlaaGreat
open Go.V
theorem best_eq {p : Pt} (k : p.fs.length ≤ 3) (h : rgtE p true = 0) : tlB p p.ps.length 0 u0 = some (bestV p) ∧ grd p (bestV p) p.ps.length 0 u0 = bestP p := by
 obtain ⟨_, _, h0⟩ := rgtE_zero h
 have eP : bestP p = mnG (lastV p) (rpl p) [] (rpl p).length := if_pos h
 have eV : bestV p = lastV p (bestP p) := if_pos h
 obtain ⟨i, hi, e, h1, h2⟩ := mnG_spec (lastV p) (rpl p) [] h0 (rpl p).length (Nat.le_refl _)
 rw [← eP] at e
 have hc := rpl_cont (p := p) k
 have hL : ∀ l ∈ rpl p, valT (0 : Int) (moreB p) 0 l = lastV p l := fun l _ => valB_last p l
 have hmem : bestP p ∈ rpl p := by rw [e]; exact mem_getD _ i [] hi
 constructor
 ·rw [tlB_eq, ← hc]
  have hm := minS_fold ((rpl p).map (valT (0 : Int) (moreB p) 0))
  obtain ⟨m, hm1, hm2⟩ := hm.le (bestV p) (List.mem_map.2 ⟨_, hmem, by rw [eV]; exact valB_last p _⟩)
  obtain ⟨l, hl, hle⟩ := List.mem_map.1 (hm.is m hm1)
  rw [hL l hl] at hle
  obtain ⟨j, hj, rfl⟩ := getD_mem [] hl
  have := h1 j hj
  rw [hm1]
  congr 1
  rw [eV, e]
  rw [eV, e] at hm2
  omega
 ·have hf := grd_find (p := p) (m := bestV p) p.ps.length 0 u0 ⟨bestP p, by rw [← hc]; exact hmem, by rw [valB_last, eV]; exact Int.le_refl _⟩
  rw [← hc] at hf
  have h3 : (rpl p).find? (fun t => decide (valT (0 : Int) (moreB p) 0 t ≤ bestV p)) = some (bestP p) := by
   rw [List.find?_eq_some_iff_getElem]
   refine ⟨by rw [decide_eq_true_eq, valB_last, eV]; exact Int.le_refl _, i, hi, ?_, fun j hj => ?_⟩
   ·rw [e]; simp [List.getD_eq_getElem?_getD, hi]
   ·have h4 := h2 j hj
    have e2 : (rpl p)[j] = (rpl p).getD j [] := by simp [List.getD_eq_getElem?_getD, show j < (rpl p).length by omega]
    rw [Bool.not_eq_true', decide_eq_false_iff_not, valB_last, eV, e, e2]
    omega
  rw [hf] at h3
  exact Option.some.inj h3
theorem best_none {p : Pt} (k : p.fs.length ≤ 3) : (tlB p p.ps.length 0 u0).isSome = decide (0 < (rpl p).length) := by
 rw [tlB_eq, ← rpl_cont k, foldJ_some]
 cases h : rpl p with
 | nil => rfl
 | cons a l => simp
end Go.Proofs.YtdopkbldjagmlaaGreat
end
section
set_option linter.unusedVariables false
set_option linter.unusedSimpArgs false
namespace Go.Proofs.YtdopkbldjagmlaaGreat
open Go.V
/-- A pitch with some pots alone, and a hull beside all fires but some, all the time. -/
def wthF (p : Pt) (S : Nat) : List Int := (List.range p.fs.length).map fun i => if S.testBit i = true then p.fs.getD i 0 else ((2 ^ p.H - 1 : Nat) : Int)
def wthP (p : Pt) (Q S : Nat) : Pt := { p with fs := wthF p S, ps := onL p Q p.ps.length }
/-- Fires alone are enough. -/
def enoB (p : Pt) (S : Nat) : Bool := decide (0 < (rpl (wthP p (2 ^ p.ps.length - 1) S)).length)
end Go.Proofs.YtdopkbldjagmlaaGreat
end
section
set_option linter.unusedVariables false
set_option linter.unusedSimpArgs false
namespace Go.Proofs.YtdopkbldjagmlaaGreat
open Go.V
/-- A seam: its fathoms, when it lies dry, and is under water, and its pot. -/
structure Sm where
 fa : Int
 dr : Int
 fl : Int
 po : Int
/-- A crew: how many fathoms it does in an hour, and the seams that it knows. -/
structure Cw where
 lo : Int
 hi : Int
 st : Int
structure Gg where
 sm : List Sm
 cw : List Cw
 pt : Pt
def sm0 : Sm := ⟨0, 0, 0, 0⟩
def cw0 : Cw := ⟨0, 0, 0⟩
def Gg.N (g : Gg) : Nat := g.sm.length
def Gg.seam (g : Gg) (i : Nat) : Sm := g.sm.getD i sm0
def Gg.crew (g : Gg) (i : Nat) : Cw := g.cw.getD i cw0
/-- No far too much of anything. -/
structure NearG (g : Gg) : Prop where
 nS : g.sm.length ≤ 40
 nC : g.cw.length ≤ 40
 p : Near g.pt
def okS (g : Gg) (s : Sm) : Prop := (1 ≤ s.fa ∧ s.fa ≤ 60) ∧ (0 ≤ s.dr ∧ s.dr ≤ 24) ∧ (0 ≤ s.fl ∧ s.fl ≤ 24) ∧ -1 ≤ s.po ∧ s.po ≤ (g.pt.ps.length : Int) - 1
def okC (g : Gg) (c : Cw) : Prop := 1 ≤ c.lo ∧ c.lo ≤ c.hi ∧ c.hi ≤ 12 ∧ 0 ≤ c.st ∧ c.st ≤ ((2 ^ g.sm.length : Nat) : Int) - 1
/-- Valid gangs. -/
structure OkG (g : Gg) : Prop where
 p : Ok g.pt
 nS : g.sm.length ≤ 5
 nC : g.cw.length ≤ 3
 s : ∀ i, i < g.sm.length → okS g (g.sm.getD i sm0)
 c : ∀ i, i < g.cw.length → okC g (g.cw.getD i cw0)
instance (g : Gg) (s : Sm) : Decidable (okS g s) := by unfold okS; infer_instance
instance (g : Gg) (c : Cw) : Decidable (okC g c) := by unfold okC; infer_instance
theorem okG_iff (g : Gg) : OkG g ↔ (Ok g.pt ∧ g.sm.length ≤ 5 ∧ g.cw.length ≤ 3) ∧ (∀ i, i < g.sm.length → okS g (g.sm.getD i sm0)) ∧ ∀ i, i < g.cw.length → okC g (g.cw.getD i cw0) :=
 ⟨fun k => ⟨⟨k.p, k.nS, k.nC⟩, k.s, k.c⟩, fun ⟨⟨a, b, c⟩, d, e⟩ => ⟨a, b, c, d, e⟩⟩
instance (g : Gg) : Decidable (OkG g) := decidable_of_iff _ (okG_iff g).symm
theorem OkG.near {g : Gg} (k : OkG g) : NearG g := ⟨by have := k.nS; omega, by have := k.nC; omega, k.p.near⟩
theorem OkG.seam {g : Gg} (k : OkG g) {i : Nat} (h : i < g.N) : okS g (g.seam i) := k.s i h
theorem OkG.crew {g : Gg} (k : OkG g) {i : Nat} (h : i < g.cw.length) : okC g (g.crew i) := k.c i h

def hotL (g : Gg) : List Int := if rgtE g.pt true = 0 then (List.range (bestP g.pt).length).map fun i => ((hotV g.pt true i ((bestP g.pt).getD i (0, 0)).2.toNat : Nat) : Int) else []
/-- The hour at which a seam is ready; -1: never. -/
def begV (g : Gg) (n : Nat) : Int := if (g.seam n).po < 0 then (g.seam n).dr else if (hotL g).length = 0 then -1 else max (g.seam n).dr ((hotL g).getD (g.seam n).po.toNat 0)
/-- The same in the program; 10000: never. -/
def redV (g : Gg) (n : Nat) : Int := if begV g n < 0 then 10000 else begV g n
theorem best_mem {p : Pt} (h : rgtE p true = 0) : RightP p (bestP p) := by
 obtain ⟨k, _, h0⟩ := rgtE_zero h
 obtain ⟨q, hq, e, _⟩ := mnG_spec (lastV p) (rpl p) [] h0 (rpl p).length (Nat.le_refl _)
 rw [bestP, if_pos h, e]
 exact mem_rpl.1 (mem_getD _ _ _ hq)
theorem best_len {p : Pt} (h : rgtE p true = 0) : (bestP p).length = p.ps.length := (best_mem h).len
theorem hot_len {g : Gg} (h : rgtE g.pt true = 0) : (hotL g).length = g.pt.ps.length := by rw [hotL, if_pos h, List.length_map, List.length_range, best_len h]
theorem hot_no {g : Gg} (h : ¬ rgtE g.pt true = 0) : hotL g = [] := if_neg h
/-- A pot of a right plan is hot in time. -/
theorem right_hot {p : Pt} (k : Ok p) {l : List (Int × Int)} (h : RightP p l) {i : Nat} (hi : i < p.ps.length) :
  (0 ≤ (l.getD i (0, 0)).2 ∧ (l.getD i (0, 0)).2 < p.hr) ∧ hotV p true i (l.getD i (0, 0)).2.toNat ≤ p.H := by
 have h1 := h.pl i (by rw [h.len]; exact hi)
 have h2 := h.br i (by rw [h.len]; exact hi)
 rw [mem_places] at h1
 have e := k.H_eq
 have hp := k.s i hi
 have ep : p.ps.getD i po0 = p.pot i := rfl
 rw [ep] at hp
 obtain ⟨_, _, hb⟩ := hp
 refine ⟨by omega, ?_⟩
 unfold brR at h2
 split at h2
 ·rename_i ha
  unfold alR at ha
  split at ha
  ·omega
  ·split at ha
   ·omega
   ·rename_i hn
    omega
 ·rename_i ha
  exact absurd h2 ha
theorem hot_at {g : Gg} (h : rgtE g.pt true = 0) {i : Nat} (hi : i < g.pt.ps.length) : (hotL g).getD i 0 = ((hotV g.pt true i ((bestP g.pt).getD i (0, 0)).2.toNat : Nat) : Int) := by
 rw [hotL, if_pos h]
 simp [List.getD_eq_getElem?_getD, best_len h, hi]
theorem hot_le {g : Gg} (k : OkG g) (h : rgtE g.pt true = 0) {i : Nat} (hi : i < g.pt.ps.length) : 0 ≤ (hotL g).getD i 0 ∧ (hotL g).getD i 0 ≤ 12 := by
 rw [hot_at h hi]
 have h1 := (right_hot k.p (best_mem h) hi).2
 have h2 := k.p.H_eq
 omega
theorem beg_le {g : Gg} (k : OkG g) {n : Nat} (hn : n < g.N) : -1 ≤ begV g n ∧ begV g n ≤ 24 := by
 have h := k.seam hn
 unfold okS at h
 unfold begV
 split
 ·omega
 ·split
  ·omega
  ·rename_i h1 h2
   by_cases e : rgtE g.pt true = 0
   ·have h3 := hot_le k e (i := (g.seam n).po.toNat) (by omega)
    omega
   ·rw [hot_no e] at h2
    exact absurd rfl h2
theorem red_le {g : Gg} (k : OkG g) {n : Nat} (hn : n < g.N) : 0 ≤ redV g n ∧ redV g n ≤ 10000 ∧ (redV g n < 10000 ↔ 0 ≤ begV g n) ∧ (0 ≤ begV g n → redV g n = begV g n) := by
 have := beg_le k hn
 unfold redV
 split <;> omega

/-- Hours that a seam takes. -/
def tkG (g : Gg) (n : Nat) (sp : Int) : Int := ((g.seam n).fa + sp - 1).tdiv sp
def stT (g : Gg) (sp t : Int) (n : Nat) : Int := max t (begV g n) + tkG g n sp
/-- The hour at which so many seams of a row are done. -/
def donN (g : Gg) (sp : Int) (l : List Int) : Nat → Int
 | 0 => 0
 | i + 1 => stT g sp (donN g sp l i) (l.getD i 0).toNat
def donL (g : Gg) (sp : Int) (l : List Int) : List Int := (List.range l.length).map fun i => donN g sp l (i + 1)
def knB (g : Gg) (c n : Nat) : Bool := (g.crew c).st.toNat.testBit n && decide (0 ≤ begV g n)
def kwnB (g : Gg) (c : Nat) (l : List Int) : Bool := (List.range l.length).all fun i => knB g c (l.getD i 0).toNat
def ltB (g : Gg) (c : Nat) (l : List Int) (i : Nat) : Bool := decide ((g.seam (l.getD i 0).toNat).fl < donN g (g.crew c).lo l (i + 1))
def latO (g : Gg) (c : Nat) (l : List Int) : Option Nat := (List.range l.length).find? (ltB g c l)
def rgtB (g : Gg) (c : Nat) (l : List Int) : Bool := kwnB g c l && (latO g c l).isNone
theorem tk_le {g : Gg} (k : OkG g) {n : Nat} (hn : n < g.N) {sp : Int} (hs : 1 ≤ sp ∧ sp ≤ 12) : 1 ≤ tkG g n sp ∧ tkG g n sp ≤ 60 := by
 have h := (k.seam hn).1
 unfold tkG
 rw [Int.tdiv_eq_ediv_of_nonneg (by omega)]
 constructor
 ·rw [Int.le_ediv_iff_mul_le (by omega)]; omega
 ·have h2 : ((g.seam n).fa + sp - 1) / sp < 61 := by
   rw [Int.ediv_lt_iff_lt_mul (by omega)]
   have : sp * 1 ≤ sp * (g.seam n).fa := Int.mul_le_mul_of_nonneg_left h.1 (by omega)
   omega
  omega
theorem donN_congr (g : Gg) (sp : Int) {l m : List Int} : ∀ i, (∀ j, j < i → l.getD j 0 = m.getD j 0) → donN g sp l i = donN g sp m i
 | 0, _ => rfl
 | i + 1, h => by
   simp only [donN]
   rw [donN_congr g sp i fun j hj => h j (by omega), h i (by omega)]
theorem snoc_at (b : List Int) (x : Int) {j : Nat} (h : j < b.length) : (b ++ [x]).getD j 0 = b.getD j 0 := by rw [getD_snoc, if_neg (by omega)]
theorem snoc_end (b : List Int) (x : Int) : (b ++ [x]).getD b.length 0 = x := by rw [getD_snoc, if_pos rfl]
theorem donN_snoc (g : Gg) (sp : Int) (b : List Int) (x : Int) {i : Nat} (h : i ≤ b.length) : donN g sp (b ++ [x]) i = donN g sp b i := donN_congr g sp i fun j hj => snoc_at b x (by omega)
theorem donN_last (g : Gg) (sp : Int) (b : List Int) (x : Int) : donN g sp (b ++ [x]) (b.length + 1) = stT g sp (donN g sp b b.length) x.toNat := by
 simp only [donN]
 rw [donN_snoc g sp b x (Nat.le_refl _), snoc_end]
theorem kwn_iff {g : Gg} {c : Nat} {l : List Int} : kwnB g c l = true ↔ ∀ i, i < l.length → knB g c (l.getD i 0).toNat = true := by simp [kwnB]
theorem lat_none {g : Gg} {c : Nat} {l : List Int} : latO g c l = none ↔ ∀ i, i < l.length → donN g (g.crew c).lo l (i + 1) ≤ (g.seam (l.getD i 0).toNat).fl := by
 unfold latO
 rw [List.find?_eq_none]
 constructor
 ·intro h i hi
  have := h i (List.mem_range.2 hi)
  simp only [ltB, decide_eq_true_eq] at this
  omega
 ·intro h i hi
  rw [List.mem_range] at hi
  have := h i hi
  simp only [ltB, decide_eq_true_eq]
  omega
theorem rgt_iff {g : Gg} {c : Nat} {l : List Int} : rgtB g c l = true ↔ ∀ i, i < l.length → knB g c (l.getD i 0).toNat = true ∧ donN g (g.crew c).lo l (i + 1) ≤ (g.seam (l.getD i 0).toNat).fl := by
 rw [rgtB, Bool.and_eq_true, kwn_iff, Option.isNone_iff_eq_none, lat_none]
 exact ⟨fun h i hi => ⟨h.1 i hi, h.2 i hi⟩, fun h => ⟨fun i hi => (h i hi).1, fun i hi => (h i hi).2⟩⟩
theorem rgt_nil (g : Gg) (c : Nat) : rgtB g c [] = true := rgt_iff.2 fun i hi => by simp at hi
theorem rgt_snoc {g : Gg} {c : Nat} {b : List Int} {x : Int} : rgtB g c (b ++ [x]) = true ↔ rgtB g c b = true ∧ knB g c x.toNat = true ∧ stT g (g.crew c).lo (donN g (g.crew c).lo b b.length) x.toNat ≤ (g.seam x.toNat).fl := by
 rw [rgt_iff, rgt_iff]
 constructor
 ·intro h
  refine ⟨fun i hi => ?_, ?_⟩
  ·have := h i (by simp; omega)
   rw [snoc_at b x hi, donN_snoc g _ b x (by omega)] at this
   exact this
  ·have := h b.length (by simp)
   rw [snoc_end, donN_last] at this
   exact this
 ·rintro ⟨h1, h2⟩ i hi
  simp only [List.length_append, List.length_cons, List.length_nil] at hi
  by_cases e : i = b.length
  ·subst e
   rw [snoc_end, donN_last]
   exact h2
  ·rw [snoc_at b x (by omega), donN_snoc g _ b x (by omega)]
   exact h1 i (by omega)
theorem snoc_ind {P : List Int → Prop} (h0 : P []) (h1 : ∀ b x, P b → P (b ++ [x])) (l : List Int) : P l := by
 rw [← List.reverse_reverse l]
 induction l.reverse with
 | nil => exact h0
 | cons x l ih => rw [List.reverse_cons]; exact h1 _ _ ih
theorem rgt_pre {g : Gg} {c : Nat} {b m : List Int} : rgtB g c (b ++ m) = true → rgtB g c b = true := by
 refine snoc_ind (P := fun m => rgtB g c (b ++ m) = true → rgtB g c b = true) (fun h => by simpa using h) (fun m x ih h => ?_) m
 rw [← List.append_assoc, rgt_snoc] at h
 exact ih h.1
end Go.Proofs.YtdopkbldjagmlaaGreat
end
section
set_option linter.unusedVariables false
set_option linter.unusedSimpArgs false
namespace Go.Proofs.YtdopkbldjagmlaaGreat
open Go.V
/-- A set without another one. -/
def dif (a b : Nat) : Nat := a ^^^ (a &&& b)
theorem dif_bit (a b t : Nat) : (dif a b).testBit t = (a.testBit t && !b.testBit t) := by
 unfold dif
 rw [Nat.testBit_xor, Nat.testBit_and]
 cases a.testBit t <;> cases b.testBit t <;> rfl
theorem dif_lt {a b n : Nat} (h : a < 2 ^ n) : dif a b < 2 ^ n := Nat.xor_lt_two_pow h (Nat.lt_of_le_of_lt Nat.and_le_left h)
theorem dif_one (a n t : Nat) : (dif a (2 ^ n)).testBit t = (a.testBit t && !decide (n = t)) := by rw [dif_bit, Nat.testBit_two_pow]
theorem dif_pop : ∀ a, a < 32 → ∀ n, n < 5 → a.testBit n = true → pop a = pop (dif a (2 ^ n)) + 1 ∧ dif a (2 ^ n) < a := by decide +kernel
theorem lt32 {N S : Nat} (hN : N ≤ 5) (h : S < 2 ^ N) : S < 32 := Nat.lt_of_lt_of_le h (Nat.pow_le_pow_right (by decide) hN)
theorem bit_lt {N S n : Nat} (h : S < 2 ^ N) (hb : S.testBit n = true) : n < N := by
 rw [← Nat.not_le]
 intro hle
 rw [Nat.testBit_lt_two_pow (Nat.lt_of_lt_of_le h (Nat.pow_le_pow_right (by decide) hle))] at hb
 cases hb

/-- A list of seams of a set, none twice. -/
structure RowOf (S : Nat) (l : List Int) : Prop where
 at_ : ∀ i, i < l.length → ∃ n : Nat, l.getD i 0 = n ∧ S.testBit n = true
 nd : ∀ i j, i < j → j < l.length → l.getD i 0 ≠ l.getD j 0
theorem rowOf_nil (S : Nat) : RowOf S [] := ⟨fun i hi => by simp at hi, fun i j _ hj => by simp at hj⟩
theorem mem_at {b : List Int} {x : Int} : x ∈ b ↔ ∃ i, i < b.length ∧ b.getD i 0 = x := ⟨getD_mem 0, fun ⟨i, h, e⟩ => e ▸ mem_getD b i 0 h⟩
theorem rowOf_snoc {S n : Nat} {b : List Int} : RowOf S (b ++ [(n : Int)]) ↔ RowOf S b ∧ S.testBit n = true ∧ (n : Int) ∉ b := by
 constructor
 ·intro h
  refine ⟨⟨fun i hi => ?_, fun i j hij hj => ?_⟩, ?_, fun hm => ?_⟩
  ·have := h.at_ i (by simp; omega)
   rwa [snoc_at b _ hi] at this
  ·have := h.nd i j hij (by simp; omega)
   rwa [snoc_at b _ (by omega), snoc_at b _ hj] at this
  ·obtain ⟨m, e, hm⟩ := h.at_ b.length (by simp)
   rw [snoc_end] at e
   have : n = m := by omega
   subst this
   exact hm
  ·obtain ⟨i, hi, e⟩ := mem_at.1 hm
   refine h.nd i b.length hi (by simp) ?_
   rw [snoc_at b _ hi, snoc_end, e]
 ·rintro ⟨h, hn, hm⟩
  refine ⟨fun i hi => ?_, fun i j hij hj => ?_⟩
  ·simp only [List.length_append, List.length_cons, List.length_nil] at hi
   by_cases e : i = b.length
   ·subst e; rw [snoc_end]; exact ⟨n, rfl, hn⟩
   ·rw [snoc_at b _ (by omega)]; exact h.at_ i (by omega)
  ·simp only [List.length_append, List.length_cons, List.length_nil] at hj
   by_cases e : j = b.length
   ·subst e
    rw [snoc_end, snoc_at b _ hij]
    exact fun e => hm (mem_at.2 ⟨i, hij, e⟩)
   ·rw [snoc_at b _ (by omega), snoc_at b _ (by omega)]
    exact h.nd i j hij (by omega)
theorem app_at {α : Type} (b m : List α) (d : α) {i : Nat} (h : i < b.length) : (b ++ m).getD i d = b.getD i d := by simp [List.getD_eq_getElem?_getD, List.getElem?_append_left h]
theorem rowOf_pre {S : Nat} {b m : List Int} (h : RowOf S (b ++ m)) : RowOf S b := by
 refine ⟨fun i hi => ?_, fun i j hij hj => ?_⟩
 ·have := h.at_ i (by simp; omega)
  rwa [app_at _ _ _ hi] at this
 ·have := h.nd i j hij (by simp; omega)
  rwa [app_at _ _ _ (by omega), app_at _ _ _ hj] at this
/-- All right rows of a set that go on from one, by so many seams. -/
def goR (g : Gg) (c S : Nat) (b : List Int) (i : Nat) : Bool := S.testBit i && (!b.contains (i : Int) && rgtB g c (b ++ [(i : Int)]))
def rws (g : Gg) (c S : Nat) : Nat → List Int → List (List Int)
 | 0, b => [b]
 | n + 1, b => (List.range g.N).flatMap fun i : Nat => if goR g c S b i = true then rws g c S n (b ++ [(i : Int)]) else []
def rowsL (g : Gg) (c S : Nat) : List (List Int) := rws g c S (pop S) []
theorem goR_iff {g : Gg} {c S : Nat} {b : List Int} {i : Nat} : goR g c S b i = true ↔ S.testBit i = true ∧ (i : Int) ∉ b ∧ rgtB g c (b ++ [(i : Int)]) = true := by simp [goR]
theorem mem_rws {g : Gg} {c S : Nat} (hS : S < 2 ^ g.N) : ∀ (n : Nat) (b l : List Int), RowOf S b → rgtB g c b = true → (l ∈ rws g c S n b ↔ ∃ m, l = b ++ m ∧ m.length = n ∧ RowOf S l ∧ rgtB g c l = true) := by
 intro n
 induction n with
 | zero =>
   intro b l hb hr
   simp only [rws, List.mem_singleton]
   constructor
   ·rintro rfl; exact ⟨[], by simp, rfl, hb, hr⟩
   ·rintro ⟨m, e, hm, _⟩
    rw [List.length_eq_zero_iff] at hm
    rw [e, hm, List.append_nil]
 | succ n ih =>
   intro b l hb hr
   simp only [rws, List.mem_flatMap, List.mem_range]
   constructor
   ·rintro ⟨i, hi, h⟩
    split at h
    ·rename_i hg
     obtain ⟨g1, g2, g3⟩ := goR_iff.1 hg
     obtain ⟨m, e, hm, h1, h2⟩ := (ih _ _ (rowOf_snoc.2 ⟨hb, g1, g2⟩) g3).1 h
     exact ⟨(i : Int) :: m, by rw [e]; simp, by simp [hm], h1, h2⟩
    ·cases h
   ·rintro ⟨m, e, hm, h1, h2⟩
    cases m with
    | nil => simp at hm
    | cons x m =>
      have e2 : l = (b ++ [x]) ++ m := by rw [e]; simp
      have h3 := h1; have h4 := h2
      rw [e2] at h3 h4
      have h5 := rowOf_pre h3
      obtain ⟨i, ex, hi⟩ := h5.at_ b.length (by simp)
      rw [snoc_end] at ex
      subst ex
      have h6 := rowOf_snoc.1 h5
      have h7 := rgt_pre h4
      refine ⟨i, bit_lt hS h6.2.1, ?_⟩
      rw [if_pos (goR_iff.2 ⟨h6.2.1, h6.2.2, h7⟩)]
      exact (ih _ _ h5 h7).2 ⟨m, e2, by simpa using hm, h1, h2⟩
theorem mem_rows {g : Gg} {c S : Nat} (hS : S < 2 ^ g.N) {l : List Int} : l ∈ rowsL g c S ↔ l.length = pop S ∧ RowOf S l ∧ rgtB g c l = true := by
 rw [rowsL, mem_rws hS _ _ _ (rowOf_nil S) (rgt_nil g c)]
 constructor
 ·rintro ⟨m, e, h1, h2, h3⟩
  simp only [List.nil_append] at e
  subst e
  exact ⟨h1, h2, h3⟩
 ·rintro ⟨h1, h2, h3⟩
  exact ⟨l, rfl, h1, h2, h3⟩
def setL : List Int → Nat
 | [] => 0
 | x :: l => 2 ^ x.toNat ||| setL l
theorem setL_bit (l : List Int) (n : Nat) : (setL l).testBit n = true ↔ ∃ x ∈ l, x.toNat = n := by
 induction l with
 | nil => simp [setL]
 | cons x l ih =>
   simp only [setL, Nat.testBit_or, Bool.or_eq_true, ih, Nat.testBit_two_pow, decide_eq_true_eq, List.mem_cons, exists_eq_or_imp]
theorem setL_snoc (b : List Int) (x : Int) : setL (b ++ [x]) = setL b ||| 2 ^ x.toNat := by
 induction b with
 | nil => simp [setL]
 | cons y b ih => simp only [List.cons_append, setL, ih, Nat.or_assoc]
theorem pop_or : ∀ a, a < 32 → ∀ n, n < 5 → a.testBit n = false → pop (a ||| 2 ^ n) = pop a + 1 := by decide +kernel
theorem pop_eq5 : ∀ a, a < 32 → ∀ b, b < 32 → (∀ n, n < 5 → a.testBit n = true → b.testBit n = true) → pop a ≤ pop b ∧ (pop a = pop b → a = b) := by decide +kernel
theorem rowOf_set {S : Nat} {l : List Int} (h : RowOf S l) {n : Nat} : (setL l).testBit n = true ↔ (n : Int) ∈ l := by
 rw [setL_bit]
 constructor
 ·rintro ⟨x, hx, e⟩
  obtain ⟨i, hi, rfl⟩ := mem_at.1 hx
  obtain ⟨m, em, _⟩ := h.at_ i hi
  have : (n : Int) = l.getD i 0 := by omega
  rw [this]; exact hx
 ·intro hx; exact ⟨n, hx, by omega⟩
theorem rowOf_sub {S : Nat} {l : List Int} (h : RowOf S l) {n : Nat} (hn : (setL l).testBit n = true) : S.testBit n = true := by
 rw [rowOf_set h] at hn
 obtain ⟨i, hi, e⟩ := mem_at.1 hn
 obtain ⟨m, em, hm⟩ := h.at_ i hi
 have : n = m := by omega
 rw [this]; exact hm
theorem setL_lt {S : Nat} (hS : S < 32) {l : List Int} (h : RowOf S l) : setL l < 32 := by
 refine Nat.lt_pow_two_of_testBit (n := 5) _ fun j hj => ?_
 cases hb : (setL l).testBit j with
 | false => rfl
 | true => exact absurd (bit_lt (N := 5) hS (rowOf_sub h hb)) (by omega)
theorem rowOf_pop {S : Nat} (hS : S < 32) {l : List Int} (h : RowOf S l) : pop (setL l) = l.length := by
 revert h
 refine snoc_ind (P := fun l => RowOf S l → pop (setL l) = l.length) (fun _ => rfl) (fun b x ih h => ?_) l
 obtain ⟨n, e, hn⟩ := h.at_ b.length (by simp)
 rw [snoc_end] at e
 subst e
 obtain ⟨h1, _, h3⟩ := rowOf_snoc.1 h
 have h4 := ih h1
 rw [setL_snoc, Int.toNat_natCast, pop_or _ (setL_lt hS h1) n (bit_lt (N := 5) hS hn) (by
  cases hb : (setL b).testBit n with
  | false => rfl
  | true => exact absurd ((rowOf_set h1).1 hb) h3), h4]
 simp
/-- A row of a set has all of it just if it is as long. -/
theorem rowOf_full {S : Nat} (hS : S < 32) {l : List Int} (h : RowOf S l) : l.length ≤ pop S ∧ (setL l = S ↔ l.length = pop S) := by
 have h1 := pop_eq5 _ (setL_lt hS h) S hS fun n _ hn => rowOf_sub h hn
 rw [rowOf_pop hS h] at h1
 exact ⟨h1.1, fun e => by rw [← e, rowOf_pop hS h], h1.2⟩

def lastT (g : Gg) (c : Nat) (l : List Int) : Int := donN g (g.crew c).lo l l.length
def endO (g : Gg) (c S : Nat) : Option Int := foldJ min ((rowsL g c S).map (lastT g c))
def isRow (g : Gg) (c S : Nat) (x : Int) : Prop := ∃ l, l.length = pop S ∧ RowOf S l ∧ rgtB g c l = true ∧ lastT g c l = x
theorem end_min {g : Gg} {c S : Nat} (hS : S < 2 ^ g.N) : MinS (endO g c S) (isRow g c S) :=
 (minS_fold _).congr fun x => by
  rw [List.mem_map]
  constructor
  ·rintro ⟨l, h, e⟩
   obtain ⟨h1, h2, h3⟩ := (mem_rows hS).1 h
   exact ⟨l, h1, h2, h3, e⟩
  ·rintro ⟨l, h1, h2, h3, e⟩
   exact ⟨l, (mem_rows hS).2 ⟨h1, h2, h3⟩, e⟩
theorem end_zero (g : Gg) (c : Nat) : endO g c 0 = some 0 := rfl
/-- What is said of a set by what is said of it without the last seam. -/
def isLast (g : Gg) (c S : Nat) (x : Int) : Prop := ∃ n, n < g.N ∧ S.testBit n = true ∧ knB g c n = true ∧ ∃ t, endO g c (dif S (2 ^ n)) = some t ∧ stT g (g.crew c).lo t n ≤ (g.seam n).fl ∧ x = stT g (g.crew c).lo t n
theorem end_step {g : Gg} {c S : Nat} (hN : g.N ≤ 5) (hS : S < 2 ^ g.N) (h0 : S ≠ 0) : MinS (endO g c S) (isLast g c S) := by
 have hm := end_min (g := g) (c := c) hS
 have hS5 := lt32 hN hS
 have ext : ∀ x, isLast g c S x → isRow g c S x := by
  rintro x ⟨n, hn, hb, hk, t, ht, hf, rfl⟩
  obtain ⟨b, e1, r1, q1, e2⟩ := (end_min (dif_lt hS)).is t ht
  have hp := (dif_pop S hS5 n (by omega) hb).1
  refine ⟨b ++ [(n : Int)], by simp [e1, hp], rowOf_snoc.2 ⟨⟨fun i hi => ?_, r1.nd⟩, hb, fun hm => ?_⟩, rgt_snoc.2 ⟨q1, hk, ?_⟩, ?_⟩
  ·obtain ⟨m, em, hm⟩ := r1.at_ i hi
   rw [dif_one, Bool.and_eq_true] at hm
   exact ⟨m, em, hm.1⟩
  ·obtain ⟨i, hi, e⟩ := mem_at.1 hm
   obtain ⟨m, em, hm⟩ := r1.at_ i hi
   have : n = m := by omega
   subst this
   rw [dif_one] at hm
   simp at hm
  ·rw [Int.toNat_natCast]
   have e2 : donN g (g.crew c).lo b b.length = t := e2
   rw [e2]; exact hf
  ·have e2 : donN g (g.crew c).lo b b.length = t := e2
   have : (b ++ [(n : Int)]).length = b.length + 1 := by simp
   rw [lastT, this, donN_last, e2, Int.toNat_natCast]
 refine ⟨fun x hx => hm.le x (ext x hx), fun m hmo => ?_⟩
 obtain ⟨l, e1, r1, q1, e2⟩ := hm.is m hmo
 have hpos : 0 < l.length := by
  rw [e1]
  rcases Nat.eq_zero_or_pos (pop S) with hz | hz
  ·exfalso
   obtain ⟨n, hn⟩ := Nat.exists_testBit_of_ne_zero h0
   have := (dif_pop S hS5 n (bit_lt (N := 5) hS5 hn) hn).1
   omega
  ·exact hz
 obtain ⟨b, x, rfl⟩ : ∃ b x, l = b ++ [x] := ⟨l.dropLast, l.getLast (List.ne_nil_of_length_pos hpos), (List.dropLast_concat_getLast _).symm⟩
 obtain ⟨n, ex, hn⟩ := r1.at_ b.length (by simp)
 rw [snoc_end] at ex
 subst ex
 obtain ⟨r2, hb, hnb⟩ := rowOf_snoc.1 r1
 obtain ⟨q2, hk, hf⟩ := rgt_snoc.1 q1
 rw [Int.toNat_natCast] at hk hf
 have hn5 := bit_lt (N := 5) hS5 hn
 have hp := (dif_pop S hS5 n hn5 hb).1
 have hrow : isRow g c (dif S (2 ^ n)) (lastT g c b) := by
  refine ⟨b, by simp at e1; omega, ⟨fun i hi => ?_, r2.nd⟩, q2, rfl⟩
  obtain ⟨m, em, hm⟩ := r2.at_ i hi
  refine ⟨m, em, ?_⟩
  rw [dif_one, hm, Bool.true_and, Bool.not_eq_true', decide_eq_false_iff_not]
  rintro rfl
  exact hnb (mem_at.2 ⟨i, hi, em⟩)
 obtain ⟨t, ht, hle⟩ := (end_min (dif_lt hS)).le _ hrow
 have eD : (b ++ [(n : Int)]).length = b.length + 1 := by simp
 rw [lastT, eD, donN_last, Int.toNat_natCast] at e2
 have hle2 : stT g (g.crew c).lo t n ≤ stT g (g.crew c).lo (donN g (g.crew c).lo b b.length) n := by
  have : t ≤ donN g (g.crew c).lo b b.length := hle
  unfold stT
  omega
 have hl : isLast g c S (stT g (g.crew c).lo t n) := ⟨n, bit_lt hS hn, hb, hk, t, ht, by omega, rfl⟩
 obtain ⟨m', em, hm2⟩ := hm.le _ (ext _ hl)
 rw [hmo] at em
 cases em
 have : m = stT g (g.crew c).lo t n := by omega
 rw [this]; exact hl
end Go.Proofs.YtdopkbldjagmlaaGreat
end
section
set_option linter.unusedVariables false
set_option linter.unusedSimpArgs false
namespace Go.Proofs.YtdopkbldjagmlaaGreat
open Go.V
/-- The seams that a deal gives a crew, of the first ones. -/
def crN (l : List Int) (c : Nat) : Nat → Nat
 | 0 => 0
 | i + 1 => if l.getD i 0 = (c : Int) then crN l c i ||| 2 ^ i else crN l c i
def crS (l : List Int) (c : Nat) : Nat := crN l c l.length
theorem crN_congr {l m : List Int} (c : Nat) : ∀ i, (∀ j, j < i → l.getD j 0 = m.getD j 0) → crN l c i = crN m c i
 | 0, _ => rfl
 | i + 1, h => by
   simp only [crN]
   rw [crN_congr c i fun j hj => h j (by omega), h i (by omega)]
theorem crS_snoc (b : List Int) (x : Int) (c : Nat) : crS (b ++ [x]) c = if x = (c : Int) then crS b c ||| 2 ^ b.length else crS b c := by
 have e : (b ++ [x]).length = b.length + 1 := by simp
 unfold crS
 rw [e]
 simp only [crN]
 rw [snoc_end, crN_congr (l := b ++ [x]) (m := b) c b.length fun j hj => snoc_at b x hj]
theorem crN_bit (l : List Int) (c n : Nat) : ∀ i, (crN l c i).testBit n = true ↔ n < i ∧ l.getD n 0 = (c : Int)
 | 0 => by simp [crN]
 | i + 1 => by
   simp only [crN]
   split
   ·rename_i h
    rw [Nat.testBit_or, Bool.or_eq_true, crN_bit l c n i, Nat.testBit_two_pow, decide_eq_true_eq]
    constructor
    ·rintro (⟨h1, h2⟩ | rfl)
     ·exact ⟨by omega, h2⟩
     ·exact ⟨by omega, h⟩
    ·rintro ⟨h1, h2⟩
     by_cases e : i = n
     ·exact .inr e
     ·exact .inl ⟨by omega, h2⟩
   ·rename_i h
    rw [crN_bit l c n i]
    constructor
    ·rintro ⟨h1, h2⟩; exact ⟨by omega, h2⟩
    ·rintro ⟨h1, h2⟩
     refine ⟨?_, h2⟩
     rcases Nat.lt_succ_iff_lt_or_eq.1 h1 with h3 | rfl
     ·exact h3
     ·exact absurd h2 h
theorem crN_lt (l : List Int) (c i : Nat) : crN l c i < 2 ^ i := by
 refine Nat.lt_pow_two_of_testBit _ fun n hn => ?_
 cases hb : (crN l c i).testBit n with
 | false => rfl
 | true => have := (crN_bit l c n i).1 hb; omega
theorem crS_bit {l : List Int} {c n : Nat} : (crS l c).testBit n = true ↔ n < l.length ∧ l.getD n 0 = (c : Int) := crN_bit l c n _
def mx2 : Option Int → Option Int → Option Int
 | some a, some b => some (max a b)
 | _, _ => none
/-- The hour at which the first crews are done with the sets that they are given; none: one cannot do its set. -/
def domN (g : Gg) (f : Nat → Nat) : Nat → Option Int
 | 0 => some 0
 | c + 1 => mx2 (domN g f c) (endO g c (f c))
def domO (g : Gg) (l : List Int) : Option Int := domN g (crS l) g.cw.length
def domI (g : Gg) (l : List Int) : Int := (domO g l).getD 0
theorem domN_some {g : Gg} {f : Nat → Nat} : ∀ n, (domN g f n).isSome = true ↔ ∀ c, c < n → (endO g c (f c)).isSome = true
 | 0 => by simp [domN]
 | n + 1 => by
   have ih := domN_some (g := g) (f := f) n
   simp only [domN]
   constructor
   ·intro h
    cases h1 : domN g f n with
    | none => rw [h1] at h; cases h
    | some a =>
      cases h2 : endO g n (f n) with
      | none => rw [h1, h2] at h; cases h
      | some b =>
        intro c hc
        rcases Nat.lt_succ_iff_lt_or_eq.1 hc with h3 | rfl
        ·exact ih.1 (by rw [h1]; rfl) c h3
        ·rw [h2]; rfl
   ·intro h
    have h1 := ih.2 fun c hc => h c (by omega)
    have h2 := h n (by omega)
    obtain ⟨a, ha⟩ := Option.isSome_iff_exists.1 h1
    obtain ⟨b, hb⟩ := Option.isSome_iff_exists.1 h2
    rw [ha, hb]; rfl
theorem domN_le {g : Gg} {f : Nat → Nat} {m : Int} : ∀ n, domN g f n = some m → 0 ≤ m ∧ (∀ c, c < n → ∃ t, endO g c (f c) = some t ∧ t ≤ m) ∧ (m = 0 ∨ ∃ c, c < n ∧ endO g c (f c) = some m) := by
 intro n
 induction n generalizing m with
 | zero => intro h; simp only [domN, Option.some.injEq] at h; subst h; exact ⟨by omega, fun c hc => by omega, .inl rfl⟩
 | succ n ih =>
   intro h
   simp only [domN] at h
   cases h1 : domN g f n with
   | none => rw [h1] at h; cases h
   | some a =>
     cases h2 : endO g n (f n) with
     | none => rw [h1, h2] at h; cases h
     | some b =>
       rw [h1, h2] at h
       simp only [mx2, Option.some.injEq] at h
       have ha : a ≤ m := by omega
       have hb : b ≤ m := by omega
       have hor : m = a ∨ m = b := by omega
       clear h
       obtain ⟨p0, p1, p2⟩ := ih h1
       refine ⟨by omega, fun c hc => ?_, ?_⟩
       ·rcases Nat.lt_succ_iff_lt_or_eq.1 hc with h3 | rfl
        ·obtain ⟨t, e, ht⟩ := p1 c h3; exact ⟨t, e, by omega⟩
        ·exact ⟨b, h2, by omega⟩
       ·rcases hor with hor | hor
        ·rcases p2 with p2 | ⟨c, hc, e⟩
         ·left; omega
         ·exact .inr ⟨c, by omega, by rw [e, hor]⟩
        ·exact .inr ⟨n, by omega, by rw [h2, hor]⟩
theorem domN_congr {g : Gg} {f f' : Nat → Nat} : ∀ n, (∀ c, c < n → f c = f' c) → domN g f n = domN g f' n
 | 0, _ => rfl
 | n + 1, h => by
   simp only [domN]
   rw [domN_congr n fun c hc => h c (by omega), h n (by omega)]
/-- All deals of the seams of a set to crews of a set that go on from some, for so many seams. -/
def dls (g : Gg) (S C : Nat) : Nat → List Int → List (List Int)
 | 0, b => if (domO g b).isSome = true then [b] else []
 | n + 1, b => if S.testBit b.length = true then (List.range g.cw.length).flatMap fun c : Nat => if C.testBit c = true then dls g S C n (b ++ [(c : Int)]) else [] else dls g S C n (b ++ [-1])
def dlsL (g : Gg) (S C : Nat) : List (List Int) := dls g S C g.N []
/-- What a deal has for a seam. -/
def crOk (g : Gg) (S C i : Nat) (x : Int) : Prop := if S.testBit i = true then ∃ c : Nat, x = c ∧ c < g.cw.length ∧ C.testBit c = true else x = -1
theorem mem_dls {g : Gg} {S C : Nat} : ∀ (n : Nat) (b l : List Int), l ∈ dls g S C n b ↔ ∃ m, l = b ++ m ∧ m.length = n ∧ (∀ i, i < n → crOk g S C (b.length + i) (m.getD i 0)) ∧ (domO g l).isSome = true := by
 intro n
 induction n with
 | zero =>
   intro b l
   simp only [dls]
   constructor
   ·intro h
    split at h
    ·rename_i hd
     rw [List.mem_singleton] at h
     subst h
     exact ⟨[], by simp, rfl, fun i hi => by omega, hd⟩
    ·cases h
   ·rintro ⟨m, e, hm, _, hd⟩
    rw [List.length_eq_zero_iff] at hm
    rw [hm, List.append_nil] at e
    subst e
    rw [if_pos hd]
    exact List.mem_singleton.2 rfl
 | succ n ih =>
   intro b l
   have key : ∀ x : Int, crOk g S C b.length x → (l ∈ dls g S C n (b ++ [x]) ↔ ∃ m, l = b ++ x :: m ∧ m.length = n ∧ (∀ i, i < n → crOk g S C (b.length + 1 + i) (m.getD i 0)) ∧ (domO g l).isSome = true) := fun x _ => by
    rw [ih]
    simp
   have out : ∀ x : Int, crOk g S C b.length x → l ∈ dls g S C n (b ++ [x]) → ∃ m, l = b ++ m ∧ m.length = n + 1 ∧ (∀ i, i < n + 1 → crOk g S C (b.length + i) (m.getD i 0)) ∧ (domO g l).isSome = true := by
    intro x hx h
    obtain ⟨m, e, h1, h2, h3⟩ := (key x hx).1 h
    refine ⟨x :: m, e, by simp [h1], fun i hi => ?_, h3⟩
    cases i with
    | zero => simpa using hx
    | succ i => have := h2 i (by omega); rw [show b.length + (i + 1) = b.length + 1 + i by omega]; simpa using this
   have inn : ∀ m, l = b ++ m → m.length = n + 1 → (∀ i, i < n + 1 → crOk g S C (b.length + i) (m.getD i 0)) → (domO g l).isSome = true → ∃ x, crOk g S C b.length x ∧ l ∈ dls g S C n (b ++ [x]) := by
    intro m e h1 h2 h3
    cases m with
    | nil => simp at h1
    | cons x m =>
      have hx : crOk g S C b.length x := by have := h2 0 (by omega); simpa using this
      refine ⟨x, hx, (key x hx).2 ⟨m, e, by simpa using h1, fun i hi => ?_, h3⟩⟩
      have := h2 (i + 1) (by omega)
      rw [show b.length + (i + 1) = b.length + 1 + i by omega] at this
      simpa using this
   simp only [dls]
   by_cases hs : S.testBit b.length = true
   ·rw [if_pos hs]
    simp only [List.mem_flatMap, List.mem_range]
    constructor
    ·rintro ⟨c, hc, h⟩
     split at h
     ·rename_i hC
      exact out c (by rw [crOk, if_pos hs]; exact ⟨c, rfl, hc, hC⟩) h
     ·cases h
    ·rintro ⟨m, e, h1, h2, h3⟩
     obtain ⟨x, hx, h⟩ := inn m e h1 h2 h3
     rw [crOk, if_pos hs] at hx
     obtain ⟨c, rfl, hc, hC⟩ := hx
     exact ⟨c, hc, by rw [if_pos hC]; exact h⟩
   ·rw [if_neg hs]
    have hx : crOk g S C b.length (-1) := by rw [crOk, if_neg hs]
    constructor
    ·intro h; exact out _ hx h
    ·rintro ⟨m, e, h1, h2, h3⟩
     obtain ⟨x, hx, h⟩ := inn m e h1 h2 h3
     rw [crOk, if_neg hs] at hx
     subst hx
     exact h
/-- A deal. -/
structure DealOf (g : Gg) (S C : Nat) (l : List Int) : Prop where
 len : l.length = g.N
 at_ : ∀ i, i < g.N → crOk g S C i (l.getD i 0)
 dom : (domO g l).isSome = true
theorem mem_deals {g : Gg} {S C : Nat} {l : List Int} : l ∈ dlsL g S C ↔ DealOf g S C l := by
 rw [dlsL, mem_dls]
 simp only [List.nil_append, List.length_nil, Nat.zero_add]
 exact ⟨fun ⟨m, e, h1, h2, h3⟩ => by subst e; exact ⟨h1, h2, h3⟩, fun h => ⟨l, rfl, h.len, h.at_, h.dom⟩⟩
def dO (g : Gg) (S C n : Nat) (b : List Int) : Option Int := foldJ min ((dls g S C n b).map (domI g))
theorem dO_zero (g : Gg) (S C : Nat) (b : List Int) : dO g S C 0 b = domO g b := by
 simp only [dO, dls]
 cases h : domO g b with
 | none => simp [foldJ]
 | some m => simp [domI, h, foldJ, comb]
/-- The least of what is told of the first crews. -/
def dP (g : Gg) (C : Nat) (f : Nat → Option Int) : Nat → Option Int
 | 0 => none
 | c + 1 => if C.testBit c = true then comb min (dP g C f c) (f c) else dP g C f c
theorem min3 (a b c : Int) : min (min a b) c = min a (min b c) := by omega
theorem comb_none' (a : Option Int) : comb min a none = a := by cases a <;> rfl
theorem foldJ_app (L M : List Int) : foldJ min (L ++ M) = comb min (foldJ min L) (foldJ min M) := by
 have h := minS_fold (L ++ M)
 exact h.uniq ((minS_comb (minS_fold L) (minS_fold M)).congr fun x => by simp)
theorem dP_eq (g : Gg) (C : Nat) (F : Nat → List (List Int)) : ∀ n, foldJ min (((List.range n).flatMap fun c : Nat => if C.testBit c = true then F c else []).map (domI g)) = dP g C (fun c => foldJ min ((F c).map (domI g))) n
 | 0 => rfl
 | n + 1 => by
   rw [List.range_succ, List.flatMap_append, List.map_append, foldJ_app, dP_eq g C F n]
   simp only [dP, List.flatMap_cons, List.flatMap_nil, List.append_nil]
   split
   ·rfl
   ·exact comb_none' _
theorem dO_in {g : Gg} {S C n : Nat} {b : List Int} (h : S.testBit b.length = true) : dO g S C (n + 1) b = dP g C (fun c => dO g S C n (b ++ [(c : Int)])) g.cw.length := by
 have := dP_eq g C (fun c => dls g S C n (b ++ [(c : Int)])) g.cw.length
 simp only [dO, dls, if_pos h]
 exact this
theorem dO_out {g : Gg} {S C n : Nat} {b : List Int} (h : S.testBit b.length = false) : dO g S C (n + 1) b = dO g S C n (b ++ [-1]) := by
 have h : ¬ S.testBit b.length = true := by rw [h]; decide
 simp only [dO, dls, if_neg h]
theorem dP_congr {g : Gg} {C : Nat} {f f' : Nat → Option Int} : ∀ n, (∀ c, c < n → f c = f' c) → dP g C f n = dP g C f' n
 | 0, _ => rfl
 | n + 1, h => by
   simp only [dP]
   rw [dP_congr n fun c hc => h c (by omega), h n (by omega)]
/-- What is told depends on the sets alone. -/
theorem dO_congr {g : Gg} {S C : Nat} : ∀ (n : Nat) (b b' : List Int), b.length = b'.length → (∀ c, c < g.cw.length → crS b c = crS b' c) → dO g S C n b = dO g S C n b' := by
 intro n
 induction n with
 | zero =>
   intro b b' _ h
   rw [dO_zero, dO_zero]
   exact domN_congr _ h
 | succ n ih =>
   intro b b' hl h
   have hx : ∀ x, dO g S C n (b ++ [x]) = dO g S C n (b' ++ [x]) := fun x => ih _ _ (by simp [hl]) fun c hc => by rw [crS_snoc, crS_snoc, h c hc, hl]
   cases hs : S.testBit b.length with
   | true =>
     rw [dO_in hs, dO_in (by rw [← hl]; exact hs)]
     exact dP_congr _ fun c _ => hx c
   | false => rw [dO_out hs, dO_out (by rw [← hl]; exact hs), hx]
theorem dO_min (g : Gg) (S C n : Nat) (b : List Int) : MinS (dO g S C n b) fun x => ∃ l ∈ dls g S C n b, domI g l = x := (minS_fold _).congr fun x => by simp
theorem dO_some {g : Gg} {S C : Nat} : (dO g S C g.N []).isSome = true ↔ ∃ l, DealOf g S C l := by
 rw [(dO_min g S C g.N []).some_iff]
 exact ⟨fun ⟨x, l, h, _⟩ => ⟨l, mem_deals.1 h⟩, fun ⟨l, h⟩ => ⟨_, l, mem_deals.2 h, rfl⟩⟩
end Go.Proofs.YtdopkbldjagmlaaGreat
end
section
set_option linter.unusedVariables false
set_option linter.unusedSimpArgs false
set_option maxHeartbeats 4000000
set_option maxRecDepth 100000
namespace Go.Proofs.YtdopkbldjagmlaaGreat
open Go.V
abbrev Sm.cs (x : Sm) : List AV := [i64 x.fa, i64 x.dr, i64 x.fl, i64 x.po]
def smF (l : List Sm) : Nat → List AV := fun i => (l.getD i sm0).cs
theorem smF_at (l : List Sm) (i : Nat) : smF l i = [i64 (l.getD i sm0).fa, i64 (l.getD i sm0).dr, i64 (l.getD i sm0).fl, i64 (l.getD i sm0).po] := rfl
abbrev smAV (l : List Sm) : AV := .rsl l.length 4 (smF l)
abbrev Cw.cs (x : Cw) : List AV := [i64 x.lo, i64 x.hi, i64 x.st]
def cwF (l : List Cw) : Nat → List AV := fun i => (l.getD i cw0).cs
theorem cwF_at (l : List Cw) (i : Nat) : cwF l i = [i64 (l.getD i cw0).lo, i64 (l.getD i cw0).hi, i64 (l.getD i cw0).st] := rfl
abbrev cwAV (l : List Cw) : AV := .rsl l.length 3 (cwF l)
abbrev Gg.cs (g : Gg) : List AV := [smAV g.sm, cwAV g.cw, i64 g.pt.hr, i64 g.pt.fro, i64 g.pt.per, intsAV g.pt.fs, psAV g.pt.ps]
abbrev Gg.av (g : Gg) : AV := .agg g.cs
abbrev gptr (g : Gg) : AV := .rptr 1 7 (fun _ => g.cs) 0 0

theorem gin_tri (n lo hi : Int) (H : Hp) : PTri Tryz.prog (fnA 75) [i64 n, i64 lo, i64 hi] H (boo (decide (lo ≤ n) && decide (n ≤ hi))) := by
 refine tri_v0 (fun _ => false) Tryz.func75 (by kernel_rfl) rfl (by simp only [List.length_append, List.length_cons, List.length_nil, Tryz.ntmps75]; decide) ?_
 simp only [vsAll, binA, binLitA, intA, pickA, opA, guardV, dstOk, nilSliceOp, resA, argFr, retA.eq_1, Nat.reduceLT, Nat.reduceEqDiff, ↓reduceIte, reduceCtorEq, implies_true, eq_self, Tryz.ntmps75, Tryz.results75]
theorem gpower_tri (n : Nat) (H : Hp) (hn : n ≤ 60) : PTri Tryz.prog (fnA 59) [i64 n] H (i64 ((2 ^ n : Nat) : Int)) := by
 refine tri_v0 (fun _ => false) Tryz.func59 (by kernel_rfl) rfl (by simp only [List.length_append, List.length_cons, List.length_nil, Tryz.ntmps59]; decide) ?_
 simp only [vsAll, opA, dstOk, nilSliceOp, Nat.reduceLT, eq_self, Tryz.ntmps59]
 refine vs_loop (σ := Nat) (fun i => i ≤ n) (fun i => [(0, i64 n), (3, i64 ((2 ^ i : Nat) : Int)), (4, i64 i)]) (fun _ => H) (fun i => n - i) 0 (Nat.zero_le _) ?_ ?_ fun i hi => ?_
 ·simp only [vsAll, argFr, Nat.reduceEqDiff, ↓reduceIte, reduceCtorEq, eq_self, Int.natCast_zero, Nat.pow_zero, Int.natCast_one]
 ·(repeat (first | exact HSub_rfl | refine HSub_put_eq (by simp only [vsAll, ↓reduceIte, eq_self, reduceCtorEq, Nat.reduceEqDiff]) ?_ | refine HSub_drop2 (by simp only [vsAll, ↓reduceIte, eq_self, reduceCtorEq, Nat.reduceEqDiff]) ?_ | refine HSub_keep_eq (by simp only [vsAll, ↓reduceIte, eq_self, reduceCtorEq, Nat.reduceEqDiff]) ?_))
 ·simp only [vsAll, binA, binLitA, intA, opA, dstOk, Nat.reduceLT, Nat.reduceEqDiff, ↓reduceIte, reduceCtorEq, eq_self]
  refine condD (fun hb => ?_) (fun hb => ?_)
  ·have h1 : 2 ^ (i + 1) ≤ 2 ^ 60 := Nat.pow_le_pow_right (by omega) (by omega)
   rw [Nat.pow_succ] at h1
   simp only [vsAll, binA, binLitA, intA, opA, dstOk, nilSliceOp, Nat.reduceLT, Nat.reduceEqDiff, ↓reduceIte, reduceCtorEq, eq_self]
   simp only [InR_i64]
   refine ⟨by omega, by omega, loop_next (i + 1) (by omega) (by omega) ?_ ?_⟩
   ·have e : 2 * ((2 ^ i : Nat) : Int) = ((2 ^ (i + 1) : Nat) : Int) := by rw [Nat.pow_succ]; omega
    simp only [vsAll, Nat.reduceEqDiff, ↓reduceIte, reduceCtorEq, eq_self, e, Int.natCast_add, Int.natCast_one]
   ·(repeat (first | exact HSub_rfl | refine HSub_put_eq (by simp only [vsAll, ↓reduceIte, eq_self, reduceCtorEq, Nat.reduceEqDiff]) ?_ | refine HSub_drop2 (by simp only [vsAll, ↓reduceIte, eq_self, reduceCtorEq, Nat.reduceEqDiff]) ?_ | refine HSub_keep_eq (by simp only [vsAll, ↓reduceIte, eq_self, reduceCtorEq, Nat.reduceEqDiff]) ?_))
  ·have e : i = n := by omega
   subst e
   simp only [vsAll, opA, dstOk, nilSliceOp, resA, retA.eq_1, Nat.reduceLT, Nat.reduceEqDiff, ↓reduceIte, reduceCtorEq, eq_self, Tryz.results59]
theorem gsize_tri (s : Nat) (H : Hp) (hs : s < 2 ^ 60) : PTri Tryz.prog (fnA 32) [i64 s] H (i64 (pop s)) := by
 refine tri_v0 (fun _ => false) Tryz.func32 (by kernel_rfl) rfl (by simp only [List.length_append, List.length_cons, List.length_nil, Tryz.ntmps32]; decide) ?_
 simp only [vsAll, opA, dstOk, nilSliceOp, Nat.reduceLT, eq_self, Tryz.ntmps32]
 refine vs_loop (σ := Nat × Nat) (fun x => x.1 < 2 ^ 60 ∧ x.2 + pop x.1 = pop s) (fun x => [(0, i64 x.1), (3, i64 x.2)]) (fun _ => H) (fun x => x.1) (s, 0) ⟨hs, by simp⟩ ?_ ?_ fun x hx => ?_
 ·simp only [vsAll, argFr, ↓reduceIte, reduceCtorEq, eq_self, Int.natCast_zero]
 ·(repeat (first | exact HSub_rfl | refine HSub_put_eq (by simp only [vsAll, ↓reduceIte, eq_self, reduceCtorEq, Nat.reduceEqDiff]) ?_ | refine HSub_drop2 (by simp only [vsAll, ↓reduceIte, eq_self, reduceCtorEq, Nat.reduceEqDiff]) ?_ | refine HSub_keep_eq (by simp only [vsAll, ↓reduceIte, eq_self, reduceCtorEq, Nat.reduceEqDiff]) ?_))
 ·obtain ⟨y, n⟩ := x
  obtain ⟨hy, hn⟩ := hx
  simp only at hy hn
  simp only [vsAll, binA, binLitA, intA, opA, dstOk, Nat.reduceLT, ↓reduceIte, eq_self]
  refine condD (fun hd => ?_) (fun hd => ?_)
  ·have e1 : (y : Int).tmod 2 = ((y % 2 : Nat) : Int) := by rw [Int.tmod_eq_emod_of_nonneg (by omega)]; rfl
   have e2 : (y : Int).tdiv 2 = ((y / 2 : Nat) : Int) := by rw [Int.tdiv_eq_ediv_of_nonneg (by omega)]; rfl
   have hp := pop_le s
   have h3 := pop_step y hy
   simp only [vsAll, binA, binLitA, intA, opA, dstOk, nilSliceOp, Nat.reduceLT, Nat.reduceEqDiff, Int.reduceEq, ↓reduceIte, reduceCtorEq, eq_self, ne_eq]
   rw [e1, e2]
   simp only [InR_i64]
   refine ⟨by omega, by omega, loop_next (y / 2, n + y % 2) ⟨by show y / 2 < 2 ^ 60; omega, by show (n + y % 2) + pop (y / 2) = pop s; omega⟩ (by show y / 2 < y; omega) ?_ ?_⟩
   ·simp only [vsAll, ↓reduceIte, reduceCtorEq, eq_self, Int.natCast_add]
   ·(repeat (first | exact HSub_rfl | refine HSub_put_eq (by simp only [vsAll, ↓reduceIte, eq_self, reduceCtorEq, Nat.reduceEqDiff]) ?_ | refine HSub_drop2 (by simp only [vsAll, ↓reduceIte, eq_self, reduceCtorEq, Nat.reduceEqDiff]) ?_ | refine HSub_keep_eq (by simp only [vsAll, ↓reduceIte, eq_self, reduceCtorEq, Nat.reduceEqDiff]) ?_))
  ·have : y = 0 := by omega
   subst this
   have e : n = pop s := by rw [← hn]; rfl
   simp only [vsAll, opA, dstOk, nilSliceOp, resA, retA.eq_1, Nat.reduceLT, Nat.reduceEqDiff, ↓reduceIte, reduceCtorEq, eq_self, Tryz.results32, e]
/-- Is a number a seam? -/
def isSm (g : Gg) (n : Int) : Bool := decide (0 ≤ n) && decide (n ≤ (g.sm.length : Int) - 1)
def isCw (g : Gg) (n : Int) : Bool := decide (0 ≤ n) && decide (n ≤ (g.cw.length : Int) - 1)
theorem isSm_iff (g : Gg) (n : Int) : isSm g n = true ↔ 0 ≤ n ∧ n < g.N := by simp [isSm, Gg.N]; omega
theorem isCw_iff (g : Gg) (n : Int) : isCw g n = true ↔ 0 ≤ n ∧ n < g.cw.length := by simp [isCw]; omega
/-- Where a number is in a list. -/
def posV (l : List Int) (n : Int) : Int := match (List.range l.length).find? fun i => decide (l.getD i 0 = n) with
 | some i => i
 | none => -1
theorem posV_hit {l : List Int} {n : Int} {i : Nat} (hi : i < l.length) (h : l.getD i 0 = n) (hall : ∀ j, j < i → l.getD j 0 ≠ n) : posV l n = i := by
 have : (List.range l.length).find? (fun i => decide (l.getD i 0 = n)) = some i := by
  rw [List.find?_range_eq_some]
  exact ⟨by simpa using h, List.mem_range.2 hi, fun j hj => by simpa using hall j hj⟩
 unfold posV
 rw [this]
theorem posV_none {l : List Int} {n : Int} (hall : ∀ j, j < l.length → l.getD j 0 ≠ n) : posV l n = -1 := by
 have : (List.range l.length).find? (fun i => decide (l.getD i 0 = n)) = none := by
  rw [List.find?_eq_none]
  intro j hj
  have := hall j (List.mem_range.1 hj)
  simpa using this
 unfold posV
 rw [this]
theorem gat_tri (l : List Int) (n : Int) (H : Hp) (hl : l.length ≤ 1000) : PTri Tryz.prog (fnA 90) [intsAV l, i64 n] H (i64 (posV l n)) := by
 refine tri_v0 (fun _ => false) Tryz.func90 (by kernel_rfl) rfl (by simp only [List.length_append, List.length_cons, List.length_nil, Tryz.ntmps90]; decide) ?_
 simp only [vsAll, opA, dstOk, nilSliceOp, Nat.reduceLT, Int.reduceNeg, eq_self, Tryz.ntmps90]
 refine vs_loop (σ := Nat) (fun i => i ≤ l.length ∧ ∀ j, j < i → l.getD j 0 ≠ n) (fun i => [(0, intsAV l), (1, i64 n), (5, i64 i)]) (fun _ => H) (fun i => l.length - i) 0 ⟨Nat.zero_le _, fun j hj => by omega⟩ ?_ HSub_rfl fun i hi => ?_
 ·simp only [vsAll, argFr, Nat.reduceEqDiff, ↓reduceIte, reduceCtorEq, eq_self, Int.natCast_zero]
 ·obtain ⟨hi, hall⟩ := hi
  simp only [vsAll, binA, binLitA, intA, lenA, opA, dstOk, Nat.reduceLT, Nat.reduceEqDiff, Int.reduceNeg, ↓reduceIte, reduceCtorEq, eq_self, ne_eq, wtAll]
  refine condD (fun hb => ?_) (fun hb => ?_)
  ·simp only [vsAll, binA, binLitA, intA, loadA, loadRow, partA, partOk, indexAddrA, opA, dstOk, Nat.reduceLT, Nat.reduceEqDiff, Int.reduceNeg, ↓reduceIte, reduceCtorEq, eq_self, wtAll, intF_at]
   refine ⟨⟨by omega, by omega⟩, by omega, condD (fun hc => ?_) (fun hc => ?_)⟩
   ·have e := posV_hit (by omega) hc hall
    simp only [vsAll, opA, dstOk, nilSliceOp, resA, retA.eq_1, Nat.reduceLT, Nat.reduceEqDiff, Int.reduceNeg, ↓reduceIte, reduceCtorEq, eq_self, Tryz.results90, e]
   ·simp only [vsAll, binA, binLitA, intA, opA, dstOk, nilSliceOp, Nat.reduceLT, Nat.reduceEqDiff, Int.reduceNeg, ↓reduceIte, reduceCtorEq, eq_self]
    refine ⟨by simp only [InR_i64]; omega, loop_next (i + 1) ⟨by omega, fun j hj => ?_⟩ (by omega) ?_ HSub_rfl⟩
    ·by_cases e : j = i
     ·subst e; exact hc
     ·exact hall j (by omega)
    ·simp only [vsAll, Nat.reduceEqDiff, ↓reduceIte, reduceCtorEq, eq_self, Int.natCast_add, Int.natCast_one]
  ·have e := posV_none (l := l) (n := n) fun j hj => hall j (by omega)
   simp only [vsAll, opA, dstOk, nilSliceOp, resA, retA.eq_1, Nat.reduceLT, Int.reduceNeg, ↓reduceIte, eq_self, Tryz.results90, e]
end Go.Proofs.YtdopkbldjagmlaaGreat
end
section
set_option linter.unusedVariables false
set_option linter.unusedSimpArgs false
set_option maxHeartbeats 4000000
set_option maxRecDepth 100000
namespace Go.Proofs.YtdopkbldjagmlaaGreat
open Go.V
theorem gangs_tri (g : Gg) (H : Hp) (kn : NearG g) : PTri Tryz.prog (fnA 28) [g.av] H (boo (decide (OkG g))) := by
 have nS := kn.nS
 have nC := kn.nC
 have nP := kn.p.nP
 refine Tri.drop ?_
 refine tri_v0 (fun _ => false) Tryz.func28 (by kernel_rfl) rfl (by simp only [List.length_append, List.length_cons, List.length_nil, Tryz.ntmps28]; decide) ?_
 have fail : ¬ OkG g → decide (OkG g) = false := fun h => decide_eq_false h
 simp only [vsAll, loadA, loadRow, partA, partOk, fieldAddrA, boxA, boxZ, okAll, stAll, opsA, opA, dstOk, nilSliceOp, argFr, Nat.reduceAdd, Nat.reduceLT, Nat.reduceEqDiff, Int.reduceNeg, ↓reduceIte, eq_self, wtAll, Tryz.ntmps28]
 refine callK_pure (rpitch_tri g.pt _ kn.p) ?_
 simp only [vsAll, binA, binLitA, intA, unA, loadA, loadRow, partA, partOk, fieldAddrA, lenA, pickA, opA, guardV, dstOk, Nat.reduceLT, Nat.reduceEqDiff, Int.reduceNeg, ↓reduceIte, implies_true, eq_self, wtAll]
 refine condV (fun hc => ?_) (fun hc => ?_)
 ·have hno : ¬ OkG g := fun k => by
   have h1 := k.p; have h2 := k.nS; have h3 := k.nC
   rw [decide_eq_true h1, Bool.not_true, Bool.false_or, Bool.or_eq_true, decide_eq_true_eq, decide_eq_true_eq] at hc
   omega
  simp only [vsAll, opA, dstOk, nilSliceOp, resA, retA.eq_1, Nat.reduceLT, Int.reduceNeg, ↓reduceIte, eq_self, Tryz.results28, fail hno]
  exact dropR_pure rfl (by (repeat (first | exact HSub_rfl | refine HSub_put_eq (by simp only [vsAll, ↓reduceIte, eq_self, reduceCtorEq, Nat.reduceEqDiff]) ?_ | refine HSub_drop2 (by simp only [vsAll, ↓reduceIte, eq_self, reduceCtorEq, Nat.reduceEqDiff]) ?_ | refine HSub_keep_eq (by simp only [vsAll, ↓reduceIte, eq_self, reduceCtorEq, Nat.reduceEqDiff]) ?_)))
 ·have hN : Ok g.pt ∧ g.sm.length ≤ 5 ∧ g.cw.length ≤ 3 := by
   rw [Bool.or_eq_false_iff, Bool.or_eq_false_iff, decide_eq_false_iff_not, decide_eq_false_iff_not, Bool.not_eq_false', decide_eq_true_eq] at hc
   exact ⟨hc.1.1, by omega, by omega⟩
  simp only [vsAll, opA, dstOk, nilSliceOp, Nat.reduceLT, Int.reduceNeg, eq_self]
  refine vs_loop (σ := Nat) (fun i => i ≤ g.sm.length ∧ ∀ j, j < i → okS g (g.sm.getD j sm0)) (fun i => [(1, gptr g), (3, i64 i)]) (fun _ => H) (fun i => g.sm.length - i) 0 ⟨Nat.zero_le _, fun j hj => absurd hj (by omega)⟩ ?_ (HSub.refl _) fun i hi => ?_
  ·simp only [vsAll, Nat.reduceEqDiff, ↓reduceIte, eq_self, Int.natCast_zero]
  ·obtain ⟨hi, hall⟩ := hi
   simp only [vsAll, binA, binLitA, intA, loadA, loadRow, partA, partOk, fieldAddrA, lenA, opA, dstOk, Nat.reduceLT, Nat.reduceEqDiff, Int.reduceNeg, ↓reduceIte, eq_self, wtAll]
   refine condD (fun hd => ?_) (fun hd => ?_)
   ·have hio : i < g.sm.length := by omega
    simp only [vsAll, loadA, loadRow, partA, partOk, fieldAddrA, indexAddrA, cellA, okAll, stAll, opsA, opA, allocA, newCells, okCells, storeObj, dstOk, Nat.reduceAdd, Nat.reduceLT, Nat.reduceEqDiff, Int.reduceNeg, ↓reduceIte, eq_self, wtAll, smF_at]
    refine ⟨⟨by omega, by omega⟩, hio, ?_⟩
    intro i4 hh_i4; (try simp only [Hp.set_none, ite_none] at hh_i4)
    have hle : ∀ x : Sm, okS g x ↔ (!(decide (1 ≤ x.fa) && decide (x.fa ≤ 60)) || !(decide (0 ≤ x.dr) && decide (x.dr ≤ 24)) || !(decide (0 ≤ x.fl) && decide (x.fl ≤ 24)) || !(decide (-1 ≤ x.po) && decide (x.po ≤ (g.pt.ps.length : Int) - 1))) = false := fun x => by
     unfold okS
     rw [Bool.or_eq_false_iff, Bool.or_eq_false_iff, Bool.or_eq_false_iff, not_in, not_in, not_in, not_in]
     ((try clear hh_i4); omega)
    have hle := hle (g.sm.getD i sm0)
    have hnx : okS g (g.sm.getD i sm0) → ∀ j, j < i + 1 → okS g (g.sm.getD j sm0) := fun h j hj => by
     by_cases e : j = i
     ·rw [e]; exact h
     ·exact hall j (by ((try clear hh_i4); omega))
    have hno : ¬ okS g (g.sm.getD i sm0) → ¬ OkG g := fun h k => h (k.s i hio)
    generalize g.sm.getD i sm0 = x at *
    refine callK_pure (gin_tri _ _ _ _) ?_
    simp only [vsAll, unA, loadA, loadRow, partA, partOk, fieldAddrA, opA, guardV, dstOk, Nat.reduceLT, Nat.reduceEqDiff, Int.reduceNeg, ↓reduceIte, implies_true, eq_self, wtAll]
    refine gcall _ (fun g' => ⟨by simp only [vsAll, opA], by simp only [vsAll, okAll, opsA, opA, ↓reduceIte, eq_self, g'], gin_tri x.dr 0 24 _⟩) ?_
    simp only [vsAll, unA, loadA, loadRow, partA, partOk, fieldAddrA, pickA, opA, guardV, dstOk, Nat.reduceLT, Nat.reduceEqDiff, Int.reduceNeg, ↓reduceIte, implies_true, eq_self, wtAll]
    refine gcall _ (fun g' => ⟨by simp only [vsAll, opA], by simp only [vsAll, okAll, opsA, opA, ↓reduceIte, eq_self, g'], gin_tri x.fl 0 24 _⟩) ?_
    simp only [vsAll, binA, binLitA, intA, unA, loadA, loadRow, partA, partOk, fieldAddrA, lenA, pickA, opA, guardV, dstOk, Nat.reduceAdd, Nat.reduceLT, Nat.reduceEqDiff, Int.reduceNeg, ↓reduceIte, implies_true, eq_self, wtAll]
    refine ⟨fun g0 => ⟨g0, by simp only [InR_i64]; ((try clear hh_i4); omega)⟩, ?_⟩
    refine gcall _ (fun g' => ⟨by simp only [vsAll, opA], by simp only [vsAll, okAll, opsA, opA, Nat.reduceEqDiff, Int.reduceNeg, ↓reduceIte, eq_self, g'], gin_tri x.po (-1) ((g.pt.ps.length : Int) - 1) _⟩) ?_
    simp only [vsAll, unA, pickA, opA, guardV, dstOk, Nat.reduceLT, Nat.reduceEqDiff, Int.reduceNeg, ↓reduceIte, implies_true, eq_self]
    refine condV (fun hc2 => ?_) (fun hc2 => ?_)
    ·have hn := hno (fun q => by rw [hle.1 q] at hc2; cases hc2)
     simp only [vsAll, opA, dstOk, nilSliceOp, resA, retA.eq_1, Nat.reduceLT, Int.reduceNeg, ↓reduceIte, eq_self, Tryz.results28, fail hn]
     exact dropR_pure rfl (by (repeat (first | exact HSub_rfl | refine HSub_put_eq (by simp only [vsAll, ↓reduceIte, eq_self, reduceCtorEq, Nat.reduceEqDiff, hh_i4]) ?_ | refine HSub_drop2 (by simp only [eq_self, hh_i4]) ?_ | refine HSub_keep_eq (by simp only [vsAll, ↓reduceIte, eq_self, reduceCtorEq, Nat.reduceEqDiff, hh_i4]) ?_)))
    ·have hk := hle.2 hc2
     simp only [vsAll, binA, binLitA, intA, opA, dstOk, nilSliceOp, Nat.reduceLT, Nat.reduceEqDiff, Int.reduceNeg, ↓reduceIte, eq_self]
     refine ⟨by simp only [InR_i64]; ((try clear hh_i4); omega), loop_next (i + 1) ⟨by ((try clear hh_i4); omega), hnx hk⟩ (by ((try clear hh_i4); omega)) ?_ ?_⟩
     ·simp only [vsAll, Nat.reduceEqDiff, Int.reduceNeg, ↓reduceIte, eq_self, Int.natCast_add, Int.natCast_one]
     ·(repeat (first | exact HSub_rfl | refine HSub_put_eq (by simp only [vsAll, ↓reduceIte, eq_self, reduceCtorEq, Nat.reduceEqDiff, hh_i4]) ?_ | refine HSub_drop2 (by simp only [eq_self, hh_i4]) ?_ | refine HSub_keep_eq (by simp only [vsAll, ↓reduceIte, eq_self, reduceCtorEq, Nat.reduceEqDiff, hh_i4]) ?_))
   ·have ei : i = g.sm.length := by omega
    subst ei
    simp only [vsAll, opA, dstOk, nilSliceOp, Nat.reduceLT, Int.reduceNeg, ↓reduceIte, eq_self]
    refine vs_loop (σ := Nat) (fun i => i ≤ g.cw.length ∧ ∀ j, j < i → okC g (g.cw.getD j cw0)) (fun i => [(1, gptr g), (5, i64 i)]) (fun _ => H) (fun i => g.cw.length - i) 0 ⟨Nat.zero_le _, fun j hj => absurd hj (by omega)⟩ ?_ (HSub.refl _) fun i hi2 => ?_
    ·simp only [vsAll, Nat.reduceEqDiff, ↓reduceIte, eq_self, Int.natCast_zero]
    ·obtain ⟨hi2, hall2⟩ := hi2
     simp only [vsAll, binA, binLitA, intA, loadA, loadRow, partA, partOk, fieldAddrA, lenA, opA, dstOk, Nat.reduceLT, Nat.reduceEqDiff, ↓reduceIte, eq_self, wtAll]
     refine condD (fun hd2 => ?_) (fun hd2 => ?_)
     ·have hio : i < g.cw.length := by omega
      simp only [vsAll, loadA, loadRow, partA, partOk, fieldAddrA, indexAddrA, cellA, opA, allocA, newCells, okCells, storeObj, dstOk, Nat.reduceAdd, Nat.reduceLT, Nat.reduceEqDiff, ↓reduceIte, eq_self, wtAll, cwF_at]
      refine ⟨⟨by omega, by omega⟩, hio, ?_⟩
      intro i6 hh_i6; (try simp only [Hp.set_none, ite_none] at hh_i6)
      have hle : ∀ x : Cw, okC g x ↔ (decide (x.lo < 1) || decide (x.hi < x.lo) || decide (12 < x.hi) || !(decide (0 ≤ x.st) && decide (x.st ≤ ((2 ^ g.sm.length : Nat) : Int) - 1))) = false := fun x => by
       unfold okC
       rw [Bool.or_eq_false_iff, Bool.or_eq_false_iff, Bool.or_eq_false_iff, not_in, decide_eq_false_iff_not, decide_eq_false_iff_not, decide_eq_false_iff_not]
       ((try clear hh_i6); omega)
      have hle := hle (g.cw.getD i cw0)
      have hnx : okC g (g.cw.getD i cw0) → ∀ j, j < i + 1 → okC g (g.cw.getD j cw0) := fun h j hj => by
       by_cases e : j = i
       ·rw [e]; exact h
       ·exact hall2 j (by ((try clear hh_i6); omega))
      have hno : ¬ okC g (g.cw.getD i cw0) → ¬ OkG g := fun h k => h (k.c i hio)
      generalize g.cw.getD i cw0 = x at *
      have hpw : 2 ^ g.sm.length ≤ 2 ^ 5 := Nat.pow_le_pow_right (by ((try clear hh_i6); omega)) hN.2.1
      have hp0 : 0 < 2 ^ g.sm.length := Nat.two_pow_pos _
      refine vs_draw2 [0, 0, 0, 0, 0, 0, 0, 0, 0, 0, 0, 0, 0, 0, 0, 0, 0, 0, 0, 0, 0, 0, 0, 0, 0, 0, 0, 0, 0, 0] [] [0, 1, 2, 3, 4, 5, 6, 7, 8, 9, 10, 11, 12, 13, 14, 15, 16, 17, 18, 19, 20, 21, 22, 23, 24, 25, 26, 27, 28, 29] (by decide +kernel) ?_
      simp only [vsAll, binA, binLitA, intA, loadA, loadRow, partA, partOk, fieldAddrA, lenA, pickA, opA, guardV, dstOk, Nat.reduceLT, Nat.reduceEqDiff, ↓reduceIte, implies_true, eq_self, wtAll]
      refine qgcall _ (fun g' => ⟨by simp only [vsAll, opA], by simp only [vsAll, okAll, opsA, opA, ↓reduceIte, eq_self, g'], gpower_tri g.sm.length _ (by ((try clear hh_i6); omega))⟩) ?_
      simp only [vsAll, binA, binLitA, intA, opA, guardV, dstOk, Nat.reduceLT, Nat.reduceEqDiff, ↓reduceIte, eq_self]
      refine ⟨fun g0 => ⟨g0, by simp only [InR_i64]; ((try clear hh_i6); omega)⟩, ?_⟩
      refine qgcall _ (fun g' => ⟨by simp only [vsAll, opA], by simp only [vsAll, okAll, opsA, opA, Nat.reduceEqDiff, ↓reduceIte, eq_self, g'], gin_tri x.st 0 (((2 ^ g.sm.length : Nat) : Int) - 1) _⟩) ?_
      simp only [vsAll, unA, pickA, opA, guardV, dstOk, Nat.reduceLT, Nat.reduceEqDiff, ↓reduceIte, implies_true, eq_self]
      refine condV (fun hc2 => ?_) (fun hc2 => ?_)
      ·have hn := hno (fun q => by rw [hle.1 q] at hc2; cases hc2)
       simp only [vsAll, opA, dstOk, nilSliceOp, resA, retA.eq_1, Nat.reduceLT, ↓reduceIte, eq_self, Tryz.results28, fail hn]
       exact dropR_pure rfl (by (repeat (first | exact HSub_rfl | refine HSub_put_eq (by simp only [vsAll, ↓reduceIte, eq_self, reduceCtorEq, Nat.reduceEqDiff, hh_i6]) ?_ | refine HSub_drop2 (by simp only [eq_self, hh_i6]) ?_ | refine HSub_keep_eq (by simp only [vsAll, ↓reduceIte, eq_self, reduceCtorEq, Nat.reduceEqDiff, hh_i6]) ?_)))
      ·have hk := hle.2 hc2
       simp only [vsAll, binA, binLitA, intA, opA, dstOk, nilSliceOp, Nat.reduceLT, Nat.reduceEqDiff, ↓reduceIte, eq_self]
       refine ⟨by simp only [InR_i64]; ((try clear hh_i6); omega), loop_next (i + 1) ⟨by ((try clear hh_i6); omega), hnx hk⟩ (by ((try clear hh_i6); omega)) ?_ ?_⟩
       ·simp only [vsAll, Nat.reduceEqDiff, ↓reduceIte, eq_self, Int.natCast_add, Int.natCast_one]
       ·(repeat (first | exact HSub_rfl | refine HSub_put_eq (by simp only [vsAll, ↓reduceIte, eq_self, reduceCtorEq, Nat.reduceEqDiff, hh_i6]) ?_ | refine HSub_drop2 (by simp only [eq_self, hh_i6]) ?_ | refine HSub_keep_eq (by simp only [vsAll, ↓reduceIte, eq_self, reduceCtorEq, Nat.reduceEqDiff, hh_i6]) ?_))
     ·have ei : i = g.cw.length := by omega
      have hk : decide (OkG g) = true := decide_eq_true ((okG_iff g).2 ⟨hN, hall, by rw [← ei]; exact hall2⟩)
      simp only [vsAll, opA, dstOk, nilSliceOp, resA, retA.eq_1, Nat.reduceLT, ↓reduceIte, eq_self, Tryz.results28, hk]
      exact dropR_pure rfl (by (repeat (first | exact HSub_rfl | refine HSub_put_eq (by simp only [vsAll, ↓reduceIte, eq_self, reduceCtorEq, Nat.reduceEqDiff]) ?_ | refine HSub_drop2 (by simp only [vsAll, ↓reduceIte, eq_self, reduceCtorEq, Nat.reduceEqDiff]) ?_ | refine HSub_keep_eq (by simp only [vsAll, ↓reduceIte, eq_self, reduceCtorEq, Nat.reduceEqDiff]) ?_)))
end Go.Proofs.YtdopkbldjagmlaaGreat
end
section
set_option linter.unusedVariables false
set_option linter.unusedSimpArgs false
set_option maxHeartbeats 4000000
set_option maxRecDepth 100000
namespace Go.Proofs.YtdopkbldjagmlaaGreat
open Go.V
/-- When a pot is hot, as the document counts. -/
def aftV (p : Pt) (b : Bool) (i h : Nat) : Int := if hotV p b i h ≤ p.H then (hotV p b i h : Nat) else -1
/-- What a valid pitch is made of, in whole numbers. -/
theorem Ok.nums {p : Pt} (k : Ok p) : ∃ fo pe : Nat, p.fro = (fo : Int) ∧ p.per = (pe : Int) ∧ fo < 4096 ∧ pe < 4096 ∧ (∀ b j, (p.F b).testBit j = (fo.testBit j || b && pe.testBit j)) ∧ p.hr = (p.H : Int) ∧ p.H ≤ 12 := by
 obtain ⟨fo, e1, h1⟩ := okSet_nat k.fro
 obtain ⟨pe, e2, h2⟩ := okSet_nat k.per
 obtain ⟨e3, h3⟩ := k.H_eq
 have := pow12 h3
 refine ⟨fo, pe, e1, e2, by omega, by omega, fun b j => ?_, e3.symm, h3⟩
 unfold Pt.F
 rw [e1, e2, Int.toNat_natCast, Int.toNat_natCast]
 cases b <;> simp [Nat.testBit_or]
theorem Ok.pot {p : Pt} (k : Ok p) {i : Nat} (hi : i < p.ps.length) : 1 ≤ (p.pot i).ht ∧ (p.pot i).ht ≤ 12 ∧ 0 ≤ (p.pot i).fr ∧ (p.pot i).fr ≤ p.hr ∧ 0 ≤ (p.pot i).bb ∧ (p.pot i).bb ≤ p.hr := by
 have := k.s i hi
 unfold okP at this
 unfold Pt.pot
 omega
end Go.Proofs.YtdopkbldjagmlaaGreat
end
section
set_option linter.unusedVariables false
set_option linter.unusedSimpArgs false
set_option maxHeartbeats 4000000
set_option maxRecDepth 100000
namespace Go.Proofs.YtdopkbldjagmlaaGreat
open Go.V
theorem Ok.fire {p : Pt} (k : Ok p) {f : Nat} (hf : f < p.fs.length) : p.fs.getD f 0 = (fireN p f : Int) ∧ fireN p f < 4096 := by
 obtain ⟨m, e, hm⟩ := okSet_nat (k.f f hf)
 have := pow12 k.H_eq.2
 unfold fireN
 rw [e, Int.toNat_natCast]
 exact ⟨rfl, by omega⟩
theorem place_nat {p : Pt} {x : Int × Int} (h : x ∈ places p) : ∃ f t : Nat, x = ((f : Int), (t : Int)) ∧ f < p.fs.length ∧ t < p.H := by
 rw [mem_places] at h
 exact ⟨x.1.toNat, x.2.toNat, Prod.ext (by simp; omega) (by simp; omega), by omega, by omega⟩
end Go.Proofs.YtdopkbldjagmlaaGreat
end
section
set_option linter.unusedVariables false
set_option linter.unusedSimpArgs false
set_option maxHeartbeats 4000000
set_option maxRecDepth 100000
namespace Go.Proofs.YtdopkbldjagmlaaGreat
open Go.V
def llpF (l : List (List (Int × Int))) : Nat → List AV := fun i => [plsAV (l.getD i [])]
abbrev llpAV (l : List (List (Int × Int))) : AV := .rsl l.length 1 (llpF l)
/-- The first places, in order. -/
def plcN (p : Pt) (f h : Nat) : List (Int × Int) := ((List.range f).flatMap fun f : Nat => (List.range p.H).map fun h : Nat => ((f : Int), (h : Int))) ++ (List.range h).map fun h : Nat => ((f : Int), (h : Int))
/-- The right plans that go on from some, with one of these places first. -/
def plsG (p : Pt) (n : Nat) (b L : List (Int × Int)) : List (List (Int × Int)) := L.flatMap fun x => if brR p b.length x b = 0 then pls p n (b ++ [x]) else []
/-- What the document adds for a beginning. -/
def plsD (p : Pt) (n : Nat) (b : List (Int × Int)) : List (List (Int × Int)) := if 0 < b.length ∧ ¬ brR p (b.length - 1) (b.getD (b.length - 1) (0, 0)) b = 0 then [] else pls p n b
def plsR (p : Pt) (n : Nat) (b : List (Int × Int)) (id : Nat) (O : List (List (Int × Int))) (H : Hp) : Res → Hp → Prop := fun r H' =>
 r = .ret (.sl id 1 (O ++ plsD p n b).length) ∧ H' = H.set id (.row 1 (O ++ plsD p n b).length (llpF (O ++ plsD p n b)))
end Go.Proofs.YtdopkbldjagmlaaGreat
end
section
set_option linter.unusedVariables false
set_option linter.unusedSimpArgs false
set_option maxHeartbeats 4000000
set_option maxRecDepth 100000
namespace Go.Proofs.YtdopkbldjagmlaaGreat
open Go.V
abbrev nilA : AV := .lit (.slice none 0 0)
def rgtA (p : Pt) (v : Bool) : AV := if rgtE p v = 0 then llpAV (rpl p) else nilA
end Go.Proofs.YtdopkbldjagmlaaGreat
end
section
set_option linter.unusedVariables false
set_option linter.unusedSimpArgs false
set_option maxHeartbeats 4000000
set_option maxRecDepth 100000
namespace Go.Proofs.YtdopkbldjagmlaaGreat
open Go.V
def bestA (p : Pt) : AV := if rgtE p true = 0 then plsAV (bestP p) else nilA
end Go.Proofs.YtdopkbldjagmlaaGreat
end
section
set_option linter.unusedVariables false
set_option linter.unusedSimpArgs false
set_option maxHeartbeats 4000000
set_option maxRecDepth 100000
namespace Go.Proofs.YtdopkbldjagmlaaGreat
open Go.V
/-- The ones of a number, counted as the library does. -/
def ones1 (s : Nat) : Nat := ((s >>> 1) &&& 6148914691236517205) + (s &&& 6148914691236517205)
def ones2 (s : Nat) : Nat := ((s >>> 2) &&& 3689348814741910323) + (s &&& 3689348814741910323)
def ones3 (s : Nat) : Nat := ((s >>> 4) + s) &&& 1085102592571150095
def ones4 (s : Nat) : Nat := s + (s >>> 8)
def ones5 (s : Nat) : Nat := s + (s >>> 16)
def ones6 (s : Nat) : Nat := s + (s >>> 32)
def ones (s : Nat) : Nat := ones6 (ones5 (ones4 (ones3 (ones2 (ones1 s))))) &&& 127

theorem shr_int (s k : Nat) : ((s : Int) / 2 ^ k) = ((s >>> k : Nat) : Int) := by
 rw [Nat.shiftRight_eq_div_pow]; simp
theorem bits64 (b : Int) : (Go.V.shB IntKind.u64 b = 64) = True := eq_true rfl
theorem ones1_le (s : Nat) : ones1 s ≤ 12297829382473034410 := by
 have h1 := @Nat.and_le_right (s >>> 1) 6148914691236517205
 have h2 := @Nat.and_le_right s 6148914691236517205
 unfold ones1; omega
theorem ones2_le (s : Nat) : ones2 s ≤ 7378697629483820646 := by
 have h1 := @Nat.and_le_right (s >>> 2) 3689348814741910323
 have h2 := @Nat.and_le_right s 3689348814741910323
 unfold ones2; omega
theorem ones3_le (s : Nat) : ones3 s ≤ 1085102592571150095 := Nat.and_le_right
theorem shr_le (s k : Nat) : s >>> k ≤ s := by rw [Nat.shiftRight_eq_div_pow]; exact Nat.div_le_self _ _

theorem ones64_tri (s : Nat) (H : Hp) (hs : s < 2 ^ 64) : PTri Tryz.prog (fnA 136) [u64 s] H (i64 (ones s)) := by
 refine tri_w0 Tryz.func136 (by kernel_rfl) rfl (by simp only [List.length_append, List.length_cons, List.length_nil, Tryz.ntmps136]; decide) ?_
 refine wps_cut (m := fun _ => false) [(0, u64 s)] H [] (by simp only [vsAll, opA, dstOk, nilSliceOp, argFr, Nat.reduceLT, ↓reduceIte, reduceCtorEq, eq_self, Tryz.ntmps136]) ?_
 refine wps_cut (m := fun _ => false) [(0, u64 (ones1 s))] H [] ?_ ?_
 ·have h1 := ones1_le s
  have h2 := shr_le s 1
  have e : ((s >>> 1 &&& 6148914691236517205 : Nat) : Int) + ((s &&& 6148914691236517205 : Nat) : Int) = (ones1 s : Int) := by simp only [ones1]; omega
  simp only [vsAll, binA, binLitA, intA, opA, dstOk, nilSliceOp, Nat.reduceLT, Nat.reduceEqDiff, Int.reduceLE, Int.reduceLT, Int.reduceToNat, ↓reduceIte, reduceCtorEq, eq_self, Tryz.ntmps136, shr_int, bits64, InR_u64, e]
  omega
 have hs1 := ones1_le s
 generalize es1 : ones1 s = s1 at *
 refine wps_cut (m := fun _ => false) [(0, u64 (ones2 s1))] H [] ?_ ?_
 ·have h1 := ones2_le s1
  have h2 := shr_le s1 2
  have e : ((s1 >>> 2 &&& 3689348814741910323 : Nat) : Int) + ((s1 &&& 3689348814741910323 : Nat) : Int) = (ones2 s1 : Int) := by simp only [ones2]; omega
  simp only [vsAll, binA, binLitA, intA, opA, dstOk, nilSliceOp, Nat.reduceLT, Nat.reduceEqDiff, Int.reduceLE, Int.reduceLT, Int.reduceToNat, ↓reduceIte, reduceCtorEq, eq_self, Tryz.ntmps136, shr_int, bits64, InR_u64, e]
  omega
 have hs2 := ones2_le s1
 generalize es2 : ones2 s1 = s2 at *
 refine wps_cut (m := fun _ => false) [(0, u64 (ones3 s2))] H [] ?_ ?_
 ·have h1 := ones3_le s2
  have h2 := shr_le s2 4
  have e0 : ((s2 >>> 4 : Nat) : Int) + (s2 : Int) = ((s2 >>> 4 + s2 : Nat) : Int) := by omega
  have e : (((s2 >>> 4 + s2) &&& 1085102592571150095 : Nat) : Int) = (ones3 s2 : Int) := rfl
  simp only [vsAll, binA, binLitA, intA, opA, dstOk, nilSliceOp, Nat.reduceLT, Nat.reduceEqDiff, Int.reduceLE, Int.reduceLT, Int.reduceToNat, ↓reduceIte, reduceCtorEq, eq_self, Tryz.ntmps136, shr_int, bits64, InR_u64, e0, e]
  omega
 have hs3 := ones3_le s2
 generalize es3 : ones3 s2 = s3 at *
 refine wps_cut (m := fun _ => false) [(0, u64 (ones4 s3))] H [] ?_ ?_
 ·have h2 := shr_le s3 8
  have e0 : (s3 : Int) + ((s3 >>> 8 : Nat) : Int) = (ones4 s3 : Int) := by simp only [ones4]; omega
  simp only [vsAll, binA, binLitA, intA, opA, dstOk, nilSliceOp, Nat.reduceLT, Nat.reduceEqDiff, Int.reduceLE, Int.reduceLT, Int.reduceToNat, ↓reduceIte, reduceCtorEq, eq_self, Tryz.ntmps136, shr_int, bits64, InR_u64, e0]
  simp only [ones4]; omega
 have hs4 : ones4 s3 ≤ 2 * 1085102592571150095 := by have := shr_le s3 8; simp only [ones4]; omega
 generalize es4 : ones4 s3 = s4 at *
 refine wps_cut (m := fun _ => false) [(0, u64 (ones5 s4))] H [] ?_ ?_
 ·have h2 := shr_le s4 16
  have e0 : (s4 : Int) + ((s4 >>> 16 : Nat) : Int) = (ones5 s4 : Int) := by simp only [ones5]; omega
  simp only [vsAll, binA, binLitA, intA, opA, dstOk, nilSliceOp, Nat.reduceLT, Nat.reduceEqDiff, Int.reduceLE, Int.reduceLT, Int.reduceToNat, ↓reduceIte, reduceCtorEq, eq_self, Tryz.ntmps136, shr_int, bits64, InR_u64, e0]
  simp only [ones5]; omega
 have hs5 : ones5 s4 ≤ 4 * 1085102592571150095 := by have := shr_le s4 16; simp only [ones5]; omega
 generalize es5 : ones5 s4 = s5 at *
 refine wps_cut (m := fun _ => false) [(0, u64 (ones6 s5))] H [] ?_ ?_
 ·have h2 := shr_le s5 32
  have e0 : (s5 : Int) + ((s5 >>> 32 : Nat) : Int) = (ones6 s5 : Int) := by simp only [ones6]; omega
  simp only [vsAll, binA, binLitA, intA, opA, dstOk, nilSliceOp, Nat.reduceLT, Nat.reduceEqDiff, Int.reduceLE, Int.reduceLT, Int.reduceToNat, ↓reduceIte, reduceCtorEq, eq_self, Tryz.ntmps136, shr_int, bits64, InR_u64, e0]
  simp only [ones6]; omega
 have hs6 : ones6 s5 ≤ 8 * 1085102592571150095 := by have := shr_le s5 32; simp only [ones6]; omega
 generalize es6 : ones6 s5 = s6 at *
 refine wps_vs (m := fun _ => false) ?_
 simp only [vsAll, binA, binLitA, intA, convA, opA, dstOk, nilSliceOp, resA, retA.eq_1, Nat.reduceLT, Int.reduceLE, Int.reduceToNat, ↓reduceIte, eq_self, wtAll, Tryz.ntmps136, Tryz.results136]
 refine ⟨by simp only [InR_i64]; omega, by simp only [InR_i64]; omega, ?_⟩
 simp only [ones, es1, es2, es3, es4, es5, es6]

theorem ones_pop (s : Nat) (hs : s < 4096) : ones s = pop s := by
 have : ∀ a, a < 64 → ∀ b, b < 64 → ones (64 * a + b) = pop (64 * a + b) := by decide +kernel
 have h := this (s / 64) (by omega) (s % 64) (by omega)
 rwa [show 64 * (s / 64) + s % 64 = s by omega] at h
theorem onesCount_tri (s : Nat) (H : Hp) (hs : s < 4096) : PTri Tryz.prog (fnA 120) [u64 s] H (i64 (pop s)) := by
 refine tri_v0 (fun _ => false) Tryz.func120 (by kernel_rfl) rfl (by simp only [List.length_append, List.length_cons, List.length_nil, Tryz.ntmps120]; decide) ?_
 simp only [vsAll, okAll, stAll, opsA, opA, dstOk, nilSliceOp, argFr, Nat.reduceLT, ↓reduceIte, reduceCtorEq, eq_self, Tryz.ntmps120]
 refine callK_pure (ones64_tri s H (by omega)) ?_
 simp only [vsAll, opA, dstOk, nilSliceOp, resA, retA.eq_1, Nat.reduceLT, ↓reduceIte, eq_self, Tryz.results120, ones_pop s hs]
theorem count_tri (s : Nat) (H : Hp) (hs : s < 4096) : PTri Tryz.prog (fnA 126) [u64 s] H (i64 (pop s)) := by
 refine tri_v0 (fun _ => false) Tryz.func126 (by kernel_rfl) rfl (by simp only [List.length_append, List.length_cons, List.length_nil, Tryz.ntmps126]; decide) ?_
 simp only [vsAll, okAll, stAll, opsA, opA, dstOk, nilSliceOp, argFr, Nat.reduceLT, ↓reduceIte, reduceCtorEq, eq_self, Tryz.ntmps126]
 refine callK_pure (onesCount_tri s H hs) ?_
 simp only [vsAll, opA, dstOk, nilSliceOp, resA, retA.eq_1, Nat.reduceLT, ↓reduceIte, eq_self, Tryz.results126]
abbrev rT : RefT := ⟨179, false⟩
theorem within_tri (n low high : Int) (H : Hp) : PTri Tryz.prog (fnA 121) [i64 n, i64 low, i64 high] H (boo (decide (low ≤ n) && decide (n ≤ high))) := by
 refine tri_v0 (fun _ => false) Tryz.func121 (by kernel_rfl) rfl (by simp only [List.length_append, List.length_cons, List.length_nil, Tryz.ntmps121]; decide) ?_
 simp only [vsAll, binA, binLitA, intA, pickA, opA, guardV, dstOk, nilSliceOp, resA, argFr, retA.eq_1, Nat.reduceLT, Nat.reduceEqDiff, ↓reduceIte, reduceCtorEq, implies_true, eq_self, Tryz.ntmps121, Tryz.results121]

theorem ask_tri (b : Bool) (e : Int) (H : Hp) : Tri Tryz.prog (fnA 110) [boo b, i64 e] H fun r H' => H' = H ∧ r = if b then .ret (.tuple []) else .pan (.iface 179 (i64 e)) := by
 refine tri_v0 (fun _ => false) Tryz.func110 (by kernel_rfl) rfl (by simp only [List.length_append, List.length_cons, List.length_nil, Tryz.ntmps110]; decide) ?_
 simp only [vsAll, unA, opA, dstOk, argFr, Nat.reduceLT, ↓reduceIte, eq_self, Tryz.ntmps110]
 refine condV (fun hc => ?_) (fun hc => ?_)
 ·simp only [Bool.not_eq_true'] at hc
  subst hc
  simp only [vsAll, ifaceA, opA, dstOk, panA, argFr, Nat.reduceLT, Nat.reduceEqDiff, ↓reduceIte, eq_self, wtAll]
 ·simp only [Bool.not_eq_false'] at hc
  subst hc
  simp only [vsAll, resA, retA.eq_2, ↓reduceIte, eq_self, Tryz.results110]

theorem ask_call {b : Bool} {e : Int} {H : Hp} {K : AV → Hp → Prop} {Kp : AV → Hp → Prop} (h1 : b = true → K (.tuple []) H) (h2 : b = false → Kp (.iface 179 (i64 e)) H) :
  CallK Tryz.prog (fnA 110) [boo b, i64 e] H K Kp := by
 refine ⟨_, ask_tri b e H, ?_⟩
 rintro r H' ⟨rfl, rfl⟩
 cases b
 ·exact h2 rfl
 ·exact h1 rfl


theorem wps_of_vs {P : Program} {m : Option Tmp → Bool} {n : Nat} {c : Code} {s : Fr} {ds : List AD} {H : Hp} {Q : Post} (h : VS none P m n [.code c] s ds H Q) : WPS none P n c s ds H Q := vcC_sound c h
/-- What answer does. -/
-- tri_v0 (fun _ => false) Tryz.func102 (by kernel_rfl) rfl (by simp only [List.length_append, List.length_cons, List.length_nil, Tryz.ntmps102]; decide) ?_
theorem ans102 : AnsOk Tryz.prog 102 rT := by
 have hn : (1 : Nat) ≤ Tryz.f102.ntmps := by rw [Tryz.ntmps102]; decide
 refine ⟨fun H id f S vs ho hH ha => ?_, fun H id f c S vs ho hH ha => ?_, fun vs w => by kernel_rfl⟩
 ·refine (ansD (args := [.ref id 0 1 0 0]) (t5 := 5) (t2 := 2) (Q := fun H' => H' = H) (u' := .returning) (rv := .lit .nilIface) (cv := .nilIface) Tryz.func102 rfl rfl hn (fun c₀ cs hu => .inr ⟨by simp [recoverD, hu], rfl, rfl⟩) hH ha (.lit _) ?_ (by rw [Tryz.ntmps102]; decide) (by rw [Tryz.ntmps102]; decide)).mono ?_
  ·refine wps_of_vs (m := fun _ => false) ?_
   simp only [vsAll, binA, binLitA, nilA2, isConst, opA, dstOk, Nat.reduceLT, ↓reduceIte, reduceCtorEq, eq_self, wtAll, Tryz.ntmps102]
  ·rintro e u w ⟨h1, h2, S', H', h3, h4, h5, rfl⟩
   exact ⟨h1, h2, S', h3, h4, h5⟩
 ·refine (ansD (args := [.ref id 0 1 0 0]) (t5 := 5) (t2 := 2) (Q := fun H' => H' = H.set id (.box 1 1 fun _ => [i64 c])) (u' := .panicking [{ v := Go.V.refusal rT c, recovered := true }]) (rv := .iface 179 (i64 c)) (cv := Go.V.refusal rT c) Tryz.func102 rfl rfl hn (fun c₀ cs hu => .inl (by simp [recoverD, hu])) hH ha (.iface (.lit _)) ?_ (by rw [Tryz.ntmps102]; decide) (by rw [Tryz.ntmps102]; decide)).mono ?_
  ·refine wps_of_vs (m := fun _ => false) ?_
   obtain ⟨bb, cc, e, q1, q2, q3, q4⟩ := hH.obj id _ ho
   have q5 := q4.2.1 0 (by omega)
   simp only [vsAll, binA, nilA2, unA, extractA, nilCheckA, cellA, cellsA, opA, newCells, okCells, storeObj, taA, dstOk, nilSliceOp, argFr, Nat.reduceAdd, Nat.reduceLT, Nat.reduceEqDiff, ↓reduceIte, reduceCtorEq, eq_self, wtAll, Tryz.ntmps102, ho]
   have : (f 0).drop 1 = [] := List.drop_eq_nil_of_le (by omega)
   rw [this]
  ·rintro e u w ⟨h1, h2, S', H', h3, h4, h5, rfl⟩
   exact ⟨h1, h2, S', h3, h4, h5⟩


end Go.Proofs.YtdopkbldjagmlaaGreat
end
