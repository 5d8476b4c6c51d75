/- Helper lemmas of this claim, part 3. -/
import Derived.Test.YtclkjifgipcamaaChecked
import Derived.ChangeSame
import Derived.JoinedOf
import Derived.ProofKit
import Derived.Handed
import Derived.Test.YtclkjifgipcamaaRa2
section
namespace Go.Proofs.Ytclkjifgipcamaa
open Go.V
theorem wtAll : (((((((((boolT Try.prog 4 = true ∧ ifcT Try.prog 20 = true ∧ ifcT Try.prog 104 = true) ∧ ifcT Try.prog 105 = true ∧ ifcT Try.prog 197 = true ∧ ifcT Try.prog 198 = true) ∧ (ifcT Try.prog 227 = true ∧ ifcT Try.prog 228 = true ∧ ifcT Try.prog 232 = true) ∧
ifcT Try.prog 233 = true ∧ zT Try.prog 1 = false ∧ szT Try.prog 1 = some (1, false)) ∧ ((arT Try.prog 1 = none ∧ Try.prog.concrete 1 = true ∧ zT Try.prog 2 = false) ∧ szT Try.prog 2 = some (1, false) ∧ arT Try.prog 2 = none ∧ Try.prog.concrete 2 = true) ∧
((Try.prog.underlying 2).isSome = true ∧ intT Try.prog 2 = some .i64 ∧ elT Try.prog 2 = none) ∧ (azT Try.prog 2 = some (1, 1, [.int .i64 0]) ∧ zeroT Try.prog 2 = some [.int .i64 0]) ∧ zT Try.prog 3 = false ∧ szT Try.prog 3 = some (1, false)) ∧
(((arT Try.prog 3 = none ∧ Try.prog.concrete 3 = true ∧ (Try.prog.underlying 3).isSome = true) ∧ intT Try.prog 3 = some .i64 ∧ elT Try.prog 3 = none ∧ azT Try.prog 3 = some (1, 1, [.int .i64 0])) ∧ (zeroT Try.prog 3 = some [.int .i64 0] ∧ zT Try.prog 4 = false ∧
szT Try.prog 4 = some (1, false)) ∧ arT Try.prog 4 = none ∧ Try.prog.concrete 4 = true ∧ (Try.prog.underlying 4).isSome = true) ∧ ((elT Try.prog 4 = none ∧ azT Try.prog 4 = some (1, 1, [.bool false]) ∧ zeroT Try.prog 4 = some [.bool false]) ∧ zT Try.prog 5 = false ∧
szT Try.prog 5 = some (1, false) ∧ arT Try.prog 5 = none) ∧ (Try.prog.concrete 5 = true ∧ (Try.prog.underlying 5).isSome = true ∧ intT Try.prog 5 = some .u8) ∧ (elT Try.prog 5 = none ∧ azT Try.prog 5 = some (1, 1, [.int .u8 0])) ∧ zeroT Try.prog 5 = some [.int .u8 0] ∧
zT Try.prog 12 = false) ∧ ((((szT Try.prog 12 = some (1, false) ∧ arT Try.prog 12 = none ∧ Try.prog.concrete 12 = true) ∧ (Try.prog.underlying 12).isSome = true ∧ intT Try.prog 12 = some .u64 ∧ elT Try.prog 12 = none) ∧ (azT Try.prog 12 = some (1, 1, [.int .u64 0]) ∧
zeroT Try.prog 12 = some [.int .u64 0] ∧ zT Try.prog 13 = false) ∧ szT Try.prog 13 = some (2, true) ∧ arT Try.prog 13 = none ∧ Try.prog.concrete 13 = true) ∧ (((Try.prog.underlying 13).isSome = true ∧ elT Try.prog 13 = none ∧ azT Try.prog 13 = some (2, 1, [.string .empty, .int .u64 0])) ∧
zeroT Try.prog 13 = some [.string .empty, .int .u64 0] ∧ bT Try.prog 13 = true ∧ fldT Try.prog 13 0 = some (0, 1, false)) ∧ (fldT Try.prog 13 1 = some (1, 1, false) ∧ zT Try.prog 20 = false ∧ szT Try.prog 20 = some (1, false)) ∧ (arT Try.prog 20 = none ∧
zT Try.prog 21 = false) ∧ szT Try.prog 21 = some (1, false) ∧ arT Try.prog 21 = none) ∧ (((Try.prog.concrete 21 = true ∧ (Try.prog.underlying 21).isSome = true ∧ intT Try.prog 21 = some .i32) ∧ elT Try.prog 21 = none ∧ azT Try.prog 21 = some (1, 1, [.int .i32 0]) ∧
zeroT Try.prog 21 = some [.int .i32 0]) ∧ (zT Try.prog 22 = false ∧ szT Try.prog 22 = some (1, false) ∧ arT Try.prog 22 = none) ∧ Try.prog.concrete 22 = true ∧ (Try.prog.underlying 22).isSome = true ∧ elT Try.prog 22 = some (1, false)) ∧ ((elB Try.prog 22 = some (1, 2) ∧
bsT Try.prog 22 = some 1 ∧ mkT Try.prog 22 = some (1, 2, [.int .u16 0])) ∧ azT Try.prog 22 = some (1, 1, [.slice none 0 0]) ∧ zeroT Try.prog 22 = some [.slice none 0 0] ∧ zT Try.prog 23 = false) ∧ (szT Try.prog 23 = some (1, false) ∧ arT Try.prog 23 = none ∧
Try.prog.concrete 23 = true) ∧ (zT Try.prog 24 = false ∧ szT Try.prog 24 = some (1, false)) ∧ arT Try.prog 24 = none ∧ Try.prog.concrete 24 = true) ∧ (((((zT Try.prog 25 = false ∧ szT Try.prog 25 = some (1, false) ∧ arT Try.prog 25 = none) ∧ Try.prog.concrete 25 = true ∧
(Try.prog.underlying 25).isSome = true ∧ elT Try.prog 25 = some (3, true)) ∧ (elB Try.prog 25 = some (3, 24) ∧ bsT Try.prog 25 = some 3 ∧ mkT Try.prog 25 = some (3, 24, [.int .i64 0, .int .i64 0, .int .i64 0])) ∧ azT Try.prog 25 = some (1, 1, [.slice none 0 0]) ∧
zeroT Try.prog 25 = some [.slice none 0 0] ∧ zT Try.prog 26 = false) ∧ ((szT Try.prog 26 = some (1, false) ∧ arT Try.prog 26 = none ∧ Try.prog.concrete 26 = true) ∧ (Try.prog.underlying 26).isSome = true ∧ elT Try.prog 26 = some (4, true) ∧ elB Try.prog 26 = some (4, 32)) ∧
(bsT Try.prog 26 = some 4 ∧ mkT Try.prog 26 = some (4, 32, [.int .i64 0, .int .i64 0, .int .i64 0, .int .i64 0]) ∧ azT Try.prog 26 = some (1, 1, [.slice none 0 0])) ∧ (zeroT Try.prog 26 = some [.slice none 0 0] ∧ zT Try.prog 27 = false) ∧ szT Try.prog 27 = some (2, true) ∧
arT Try.prog 27 = none) ∧ (((Try.prog.concrete 27 = true ∧ (Try.prog.underlying 27).isSome = true ∧ elT Try.prog 27 = none) ∧ azT Try.prog 27 = some (2, 1, [.slice none 0 0, .slice none 0 0]) ∧ zeroT Try.prog 27 = some [.slice none 0 0, .slice none 0 0] ∧
bT Try.prog 27 = true) ∧ (fldT Try.prog 27 0 = some (0, 1, false) ∧ fldT Try.prog 27 1 = some (1, 1, false) ∧ zT Try.prog 28 = false) ∧ szT Try.prog 28 = some (2, true) ∧ arT Try.prog 28 = none ∧ Try.prog.concrete 28 = true) ∧ (((Try.prog.underlying 28).isSome = true ∧
elT Try.prog 28 = none ∧ azT Try.prog 28 = some (2, 1, [.slice none 0 0, .slice none 0 0])) ∧ zeroT Try.prog 28 = some [.slice none 0 0, .slice none 0 0] ∧ bT Try.prog 28 = true ∧ fldT Try.prog 28 0 = some (0, 1, false)) ∧ (fldT Try.prog 28 1 = some (1, 1, false) ∧
zT Try.prog 29 = false ∧ szT Try.prog 29 = some (1, false)) ∧ (arT Try.prog 29 = none ∧ Try.prog.concrete 29 = true) ∧ (Try.prog.underlying 29).isSome = true ∧ elT Try.prog 29 = some (1, false)) ∧ ((((elB Try.prog 29 = some (1, 8) ∧ bsT Try.prog 29 = some 1 ∧
mkT Try.prog 29 = some (1, 8, [.int .i64 0])) ∧ azT Try.prog 29 = some (1, 1, [.slice none 0 0]) ∧ zeroT Try.prog 29 = some [.slice none 0 0] ∧ zT Try.prog 30 = false) ∧ (szT Try.prog 30 = some (3, true) ∧ arT Try.prog 30 = none ∧ Try.prog.concrete 30 = true) ∧
(Try.prog.underlying 30).isSome = true ∧ elT Try.prog 30 = none ∧ azT Try.prog 30 = some (3, 1, [.int .i64 0, .int .i64 0, .int .i64 0])) ∧ ((zeroT Try.prog 30 = some [.int .i64 0, .int .i64 0, .int .i64 0] ∧ bT Try.prog 30 = true ∧ fldT Try.prog 30 0 = some (0, 1, false)) ∧
fldT Try.prog 30 1 = some (1, 1, false) ∧ fldT Try.prog 30 2 = some (2, 1, false) ∧ zT Try.prog 31 = false) ∧ (szT Try.prog 31 = some (3, true) ∧ arT Try.prog 31 = none ∧ Try.prog.concrete 31 = true) ∧ ((Try.prog.underlying 31).isSome = true ∧
elT Try.prog 31 = none) ∧ azT Try.prog 31 = some (3, 1, [.int .i64 0, .int .i64 0, .int .i64 0]) ∧ zeroT Try.prog 31 = some [.int .i64 0, .int .i64 0, .int .i64 0]) ∧ (((bT Try.prog 31 = true ∧ fldT Try.prog 31 0 = some (0, 1, false) ∧ fldT Try.prog 31 1 = some (1, 1, false)) ∧
fldT Try.prog 31 2 = some (2, 1, false) ∧ zT Try.prog 32 = false ∧ szT Try.prog 32 = some (1, false)) ∧ (arT Try.prog 32 = none ∧ Try.prog.concrete 32 = true ∧ zT Try.prog 33 = false) ∧ szT Try.prog 33 = some (2, true) ∧ arT Try.prog 33 = none ∧
Try.prog.concrete 33 = true) ∧ (((Try.prog.underlying 33).isSome = true ∧ elT Try.prog 33 = none ∧ azT Try.prog 33 = some (2, 1, [.int .i64 0, .int .i64 0])) ∧ zeroT Try.prog 33 = some [.int .i64 0, .int .i64 0] ∧ bT Try.prog 33 = true ∧ fldT Try.prog 33 0 = some (0, 1, false)) ∧
(fldT Try.prog 33 1 = some (1, 1, false) ∧ zT Try.prog 34 = false ∧ szT Try.prog 34 = some (2, true)) ∧ (arT Try.prog 34 = none ∧ Try.prog.concrete 34 = true) ∧ (Try.prog.underlying 34).isSome = true ∧ elT Try.prog 34 = none) ∧ ((((((azT Try.prog 34 = some (2, 1, [.int .i64 0, .int .i64 0]) ∧
zeroT Try.prog 34 = some [.int .i64 0, .int .i64 0] ∧ bT Try.prog 34 = true) ∧ fldT Try.prog 34 0 = some (0, 1, false) ∧ fldT Try.prog 34 1 = some (1, 1, false) ∧ zT Try.prog 35 = false) ∧ (szT Try.prog 35 = some (1, false) ∧ arT Try.prog 35 = none ∧
Try.prog.concrete 35 = true) ∧ zT Try.prog 36 = false ∧ szT Try.prog 36 = some (4, true) ∧ arT Try.prog 36 = none) ∧ ((Try.prog.concrete 36 = true ∧ (Try.prog.underlying 36).isSome = true ∧ elT Try.prog 36 = none) ∧ azT Try.prog 36 = some (4, 1, [.int .i64 0, .int .i64 0, .int .i64 0, .int .i64 0]) ∧
zeroT Try.prog 36 = some [.int .i64 0, .int .i64 0, .int .i64 0, .int .i64 0] ∧ bT Try.prog 36 = true) ∧ (fldT Try.prog 36 0 = some (0, 1, false) ∧ fldT Try.prog 36 1 = some (1, 1, false) ∧ fldT Try.prog 36 2 = some (2, 2, true)) ∧ (zT Try.prog 37 = false ∧
szT Try.prog 37 = some (4, true)) ∧ arT Try.prog 37 = none ∧ Try.prog.concrete 37 = true) ∧ ((((Try.prog.underlying 37).isSome = true ∧ elT Try.prog 37 = none ∧ azT Try.prog 37 = some (4, 1, [.int .i64 0, .int .i64 0, .int .i64 0, .int .i64 0])) ∧
zeroT Try.prog 37 = some [.int .i64 0, .int .i64 0, .int .i64 0, .int .i64 0] ∧ bT Try.prog 37 = true ∧ fldT Try.prog 37 0 = some (0, 1, false)) ∧ (fldT Try.prog 37 1 = some (1, 1, false) ∧ fldT Try.prog 37 2 = some (2, 2, true) ∧ zT Try.prog 38 = false) ∧
szT Try.prog 38 = some (1, false) ∧ arT Try.prog 38 = none ∧ Try.prog.concrete 38 = true) ∧ (((Try.prog.underlying 38).isSome = true ∧ elT Try.prog 38 = some (5, true) ∧ elB Try.prog 38 = some (5, 40)) ∧ bsT Try.prog 38 = some 5 ∧ mkT Try.prog 38 = some (5, 40, [.int .i64 0, .int .i64 0, .int .i64 0, .int .i64 0, .int .i64 0]) ∧
azT Try.prog 38 = some (1, 1, [.slice none 0 0])) ∧ (zeroT Try.prog 38 = some [.slice none 0 0] ∧ zT Try.prog 39 = false ∧ szT Try.prog 39 = some (2, true)) ∧ (arT Try.prog 39 = none ∧ Try.prog.concrete 39 = true) ∧ (Try.prog.underlying 39).isSome = true ∧
elT Try.prog 39 = none) ∧ ((((azT Try.prog 39 = some (2, 1, [.slice none 0 0, .slice none 0 0]) ∧ zeroT Try.prog 39 = some [.slice none 0 0, .slice none 0 0] ∧ bT Try.prog 39 = true) ∧ fldT Try.prog 39 0 = some (0, 1, false) ∧ fldT Try.prog 39 1 = some (1, 1, false) ∧
zT Try.prog 40 = false) ∧ (szT Try.prog 40 = some (2, true) ∧ arT Try.prog 40 = none ∧ Try.prog.concrete 40 = true) ∧ (Try.prog.underlying 40).isSome = true ∧ elT Try.prog 40 = none ∧ azT Try.prog 40 = some (2, 1, [.slice none 0 0, .slice none 0 0])) ∧
((zeroT Try.prog 40 = some [.slice none 0 0, .slice none 0 0] ∧ bT Try.prog 40 = true ∧ fldT Try.prog 40 0 = some (0, 1, false)) ∧ fldT Try.prog 40 1 = some (1, 1, false) ∧ zT Try.prog 41 = false ∧ szT Try.prog 41 = some (1, false)) ∧ (arT Try.prog 41 = none ∧
Try.prog.concrete 41 = true ∧ (Try.prog.underlying 41).isSome = true) ∧ (elT Try.prog 41 = some (2, true) ∧ elB Try.prog 41 = some (2, 16)) ∧ bsT Try.prog 41 = some 2 ∧ mkT Try.prog 41 = some (2, 16, [.int .i64 0, .int .i64 0])) ∧ (((azT Try.prog 41 = some (1, 1, [.slice none 0 0]) ∧
zeroT Try.prog 41 = some [.slice none 0 0] ∧ zT Try.prog 42 = false) ∧ szT Try.prog 42 = some (1, false) ∧ arT Try.prog 42 = none ∧ Try.prog.concrete 42 = true) ∧ ((Try.prog.underlying 42).isSome = true ∧ elT Try.prog 42 = some (4, true) ∧ elB Try.prog 42 = some (4, 32)) ∧
bsT Try.prog 42 = some 4 ∧ mkT Try.prog 42 = some (4, 32, [.int .i64 0, .int .i64 0, .int .i64 0, .int .i64 0]) ∧ azT Try.prog 42 = some (1, 1, [.slice none 0 0])) ∧ ((zeroT Try.prog 42 = some [.slice none 0 0] ∧ zT Try.prog 43 = false ∧ szT Try.prog 43 = some (5, true)) ∧
arT Try.prog 43 = none ∧ Try.prog.concrete 43 = true ∧ (Try.prog.underlying 43).isSome = true) ∧ (elT Try.prog 43 = none ∧ azT Try.prog 43 = some (5, 1, [.slice none 0 0, .int .i64 0, .slice none 0 0, .slice none 0 0, .slice none 0 0]) ∧ zeroT Try.prog 43 = some [.slice none 0 0, .int .i64 0, .slice none 0 0, .slice none 0 0, .slice none 0 0]) ∧
(bT Try.prog 43 = true ∧ fldT Try.prog 43 0 = some (0, 1, false)) ∧ fldT Try.prog 43 1 = some (1, 1, false) ∧ fldT Try.prog 43 2 = some (2, 1, false)) ∧ (((((fldT Try.prog 43 3 = some (3, 2, true) ∧ zT Try.prog 44 = false ∧ szT Try.prog 44 = some (5, true)) ∧
arT Try.prog 44 = none ∧ Try.prog.concrete 44 = true ∧ (Try.prog.underlying 44).isSome = true) ∧ (elT Try.prog 44 = none ∧ azT Try.prog 44 = some (5, 1, [.slice none 0 0, .int .i64 0, .slice none 0 0, .slice none 0 0, .slice none 0 0]) ∧ zeroT Try.prog 44 = some [.slice none 0 0, .int .i64 0, .slice none 0 0, .slice none 0 0, .slice none 0 0]) ∧
bT Try.prog 44 = true ∧ fldT Try.prog 44 0 = some (0, 1, false) ∧ fldT Try.prog 44 1 = some (1, 1, false)) ∧ ((fldT Try.prog 44 2 = some (2, 1, false) ∧ fldT Try.prog 44 3 = some (3, 2, true) ∧ zT Try.prog 45 = false) ∧ szT Try.prog 45 = some (1, false) ∧
arT Try.prog 45 = none ∧ Try.prog.concrete 45 = true) ∧ ((Try.prog.underlying 45).isSome = true ∧ intT Try.prog 45 = some .i64 ∧ elT Try.prog 45 = none) ∧ (azT Try.prog 45 = some (1, 1, [.int .i64 0]) ∧ zeroT Try.prog 45 = some [.int .i64 0]) ∧
zT Try.prog 47 = false ∧ szT Try.prog 47 = some (1, false)) ∧ (((arT Try.prog 47 = none ∧ Try.prog.concrete 47 = true ∧ zT Try.prog 48 = false) ∧ szT Try.prog 48 = some (5, true) ∧ arT Try.prog 48 = none ∧ Try.prog.concrete 48 = true) ∧ ((Try.prog.underlying 48).isSome = true ∧
elT Try.prog 48 = none ∧ azT Try.prog 48 = some (5, 1, [.int .i64 0, .int .i64 0, .int .i64 0, .int .i64 0, .int .i64 0])) ∧ zeroT Try.prog 48 = some [.int .i64 0, .int .i64 0, .int .i64 0, .int .i64 0, .int .i64 0] ∧ bT Try.prog 48 = true ∧ fldT Try.prog 48 0 = some (0, 1, false)) ∧
((fldT Try.prog 48 1 = some (1, 2, true) ∧ fldT Try.prog 48 2 = some (3, 2, true) ∧ zT Try.prog 49 = false) ∧ szT Try.prog 49 = some (5, true) ∧ arT Try.prog 49 = none ∧ Try.prog.concrete 49 = true) ∧ ((Try.prog.underlying 49).isSome = true ∧ elT Try.prog 49 = none ∧
azT Try.prog 49 = some (5, 1, [.int .i64 0, .int .i64 0, .int .i64 0, .int .i64 0, .int .i64 0])) ∧ (zeroT Try.prog 49 = some [.int .i64 0, .int .i64 0, .int .i64 0, .int .i64 0, .int .i64 0] ∧ bT Try.prog 49 = true) ∧ fldT Try.prog 49 0 = some (0, 1, false) ∧
fldT Try.prog 49 1 = some (1, 2, true)) ∧ ((((fldT Try.prog 49 2 = some (3, 2, true) ∧ zT Try.prog 51 = false ∧ szT Try.prog 51 = some (1, false)) ∧ arT Try.prog 51 = none ∧ Try.prog.concrete 51 = true ∧ zT Try.prog 52 = false) ∧ (szT Try.prog 52 = some (4, true) ∧
arT Try.prog 52 = none ∧ Try.prog.concrete 52 = true) ∧ (Try.prog.underlying 52).isSome = true ∧ elT Try.prog 52 = none ∧ azT Try.prog 52 = some (4, 1, [.int .i64 0, .int .i64 0, .int .i64 0, .int .i64 0])) ∧ ((zeroT Try.prog 52 = some [.int .i64 0, .int .i64 0, .int .i64 0, .int .i64 0] ∧
bT Try.prog 52 = true ∧ fldT Try.prog 52 0 = some (0, 2, true)) ∧ fldT Try.prog 52 1 = some (2, 1, false) ∧ fldT Try.prog 52 2 = some (3, 1, false) ∧ zT Try.prog 53 = false) ∧ (szT Try.prog 53 = some (4, true) ∧ arT Try.prog 53 = none ∧ Try.prog.concrete 53 = true) ∧
((Try.prog.underlying 53).isSome = true ∧ elT Try.prog 53 = none) ∧ azT Try.prog 53 = some (4, 1, [.int .i64 0, .int .i64 0, .int .i64 0, .int .i64 0]) ∧ zeroT Try.prog 53 = some [.int .i64 0, .int .i64 0, .int .i64 0, .int .i64 0]) ∧ (((bT Try.prog 53 = true ∧
fldT Try.prog 53 0 = some (0, 2, true) ∧ fldT Try.prog 53 1 = some (2, 1, false)) ∧ fldT Try.prog 53 2 = some (3, 1, false) ∧ zT Try.prog 55 = false ∧ szT Try.prog 55 = some (1, false)) ∧ (arT Try.prog 55 = none ∧ Try.prog.concrete 55 = true ∧
zT Try.prog 57 = false) ∧ (szT Try.prog 57 = some (1, false) ∧ arT Try.prog 57 = none) ∧ Try.prog.concrete 57 = true ∧ zT Try.prog 58 = false) ∧ ((szT Try.prog 58 = some (1, false) ∧ arT Try.prog 58 = none ∧ Try.prog.concrete 58 = true) ∧ zT Try.prog 59 = false ∧
szT Try.prog 59 = some (1, false) ∧ arT Try.prog 59 = none) ∧ (Try.prog.concrete 59 = true ∧ zT Try.prog 60 = false ∧ szT Try.prog 60 = some (1, false)) ∧ (arT Try.prog 60 = none ∧ Try.prog.concrete 60 = true) ∧ zT Try.prog 62 = false ∧ szT Try.prog 62 = some (1, false)) ∧
(((((((arT Try.prog 62 = none ∧ Try.prog.concrete 62 = true ∧ zT Try.prog 63 = false) ∧ szT Try.prog 63 = some (3, true) ∧ arT Try.prog 63 = none ∧ Try.prog.concrete 63 = true) ∧ ((Try.prog.underlying 63).isSome = true ∧ elT Try.prog 63 = none ∧
azT Try.prog 63 = some (3, 1, [.slice none 0 0, .slice none 0 0, .slice none 0 0])) ∧ zeroT Try.prog 63 = some [.slice none 0 0, .slice none 0 0, .slice none 0 0] ∧ bT Try.prog 63 = true ∧ fldT Try.prog 63 0 = some (0, 2, true)) ∧ ((fldT Try.prog 63 1 = some (2, 1, false) ∧
zT Try.prog 64 = false ∧ szT Try.prog 64 = some (3, true)) ∧ arT Try.prog 64 = none ∧ Try.prog.concrete 64 = true ∧ (Try.prog.underlying 64).isSome = true) ∧ (elT Try.prog 64 = none ∧ azT Try.prog 64 = some (3, 1, [.slice none 0 0, .slice none 0 0, .slice none 0 0]) ∧
zeroT Try.prog 64 = some [.slice none 0 0, .slice none 0 0, .slice none 0 0]) ∧ (bT Try.prog 64 = true ∧ fldT Try.prog 64 0 = some (0, 2, true)) ∧ fldT Try.prog 64 1 = some (2, 1, false) ∧ zT Try.prog 65 = false) ∧ (((szT Try.prog 65 = some (1, false) ∧
arT Try.prog 65 = none ∧ Try.prog.concrete 65 = true) ∧ zT Try.prog 66 = false ∧ szT Try.prog 66 = some (1, false) ∧ arT Try.prog 66 = none) ∧ (Try.prog.concrete 66 = true ∧ zT Try.prog 67 = false ∧ szT Try.prog 67 = some (1, false)) ∧ arT Try.prog 67 = none ∧
Try.prog.concrete 67 = true ∧ (Try.prog.underlying 67).isSome = true) ∧ ((elT Try.prog 67 = some (2, true) ∧ elB Try.prog 67 = some (2, 16) ∧ bsT Try.prog 67 = some 2) ∧ mkT Try.prog 67 = some (2, 16, [.int .i64 0, .bool false]) ∧ azT Try.prog 67 = some (1, 1, [.slice none 0 0]) ∧
zeroT Try.prog 67 = some [.slice none 0 0]) ∧ (zT Try.prog 69 = false ∧ szT Try.prog 69 = some (1, false) ∧ arT Try.prog 69 = none) ∧ (Try.prog.concrete 69 = true ∧ zT Try.prog 71 = false) ∧ szT Try.prog 71 = some (1, false) ∧ arT Try.prog 71 = none) ∧
((((Try.prog.concrete 71 = true ∧ zT Try.prog 73 = false ∧ szT Try.prog 73 = some (1, false)) ∧ arT Try.prog 73 = none ∧ Try.prog.concrete 73 = true ∧ zT Try.prog 74 = false) ∧ (szT Try.prog 74 = some (1, false) ∧ arT Try.prog 74 = none ∧ Try.prog.concrete 74 = true) ∧
zT Try.prog 75 = false ∧ szT Try.prog 75 = some (1, false) ∧ arT Try.prog 75 = none) ∧ ((Try.prog.concrete 75 = true ∧ zT Try.prog 76 = false ∧ szT Try.prog 76 = some (1, false)) ∧ arT Try.prog 76 = none ∧ Try.prog.concrete 76 = true ∧ (Try.prog.underlying 76).isSome = true) ∧
(intT Try.prog 76 = some .u16 ∧ elT Try.prog 76 = none ∧ azT Try.prog 76 = some (1, 1, [.int .u16 0])) ∧ (zeroT Try.prog 76 = some [.int .u16 0] ∧ zT Try.prog 77 = false) ∧ szT Try.prog 77 = some (1, false) ∧ arT Try.prog 77 = none) ∧ (((Try.prog.concrete 77 = true ∧
zT Try.prog 78 = false ∧ szT Try.prog 78 = some (1, false)) ∧ azT Try.prog 78 = some (1, 1, [.pointer none]) ∧ arT Try.prog 78 = none ∧ Try.prog.concrete 78 = true) ∧ (zT Try.prog 79 = false ∧ szT Try.prog 79 = some (1, false) ∧ azT Try.prog 79 = some (1, 1, [.pointer none])) ∧
arT Try.prog 79 = none ∧ Try.prog.concrete 79 = true ∧ zT Try.prog 80 = false) ∧ ((szT Try.prog 80 = some (1, false) ∧ arT Try.prog 80 = none ∧ Try.prog.concrete 80 = true) ∧ zT Try.prog 81 = false ∧ szT Try.prog 81 = some (1, false) ∧ arT Try.prog 81 = none) ∧
(Try.prog.concrete 81 = true ∧ zT Try.prog 82 = false ∧ szT Try.prog 82 = some (1, false)) ∧ (arT Try.prog 82 = none ∧ Try.prog.concrete 82 = true) ∧ zT Try.prog 83 = false ∧ szT Try.prog 83 = some (1, false)) ∧ (((((arT Try.prog 83 = none ∧ Try.prog.concrete 83 = true ∧
zT Try.prog 84 = false) ∧ szT Try.prog 84 = some (1, false) ∧ arT Try.prog 84 = none ∧ Try.prog.concrete 84 = true) ∧ (zT Try.prog 85 = false ∧ szT Try.prog 85 = some (2, true) ∧ arT Try.prog 85 = none) ∧ Try.prog.concrete 85 = true ∧ (Try.prog.underlying 85).isSome = true ∧
elT Try.prog 85 = none) ∧ ((azT Try.prog 85 = some (2, 1, [.int .i64 0, .int .i64 0]) ∧ zeroT Try.prog 85 = some [.int .i64 0, .int .i64 0] ∧ bT Try.prog 85 = true) ∧ fldT Try.prog 85 0 = some (0, 1, false) ∧ fldT Try.prog 85 1 = some (1, 1, false) ∧
zT Try.prog 86 = false) ∧ (szT Try.prog 86 = some (2, true) ∧ arT Try.prog 86 = none ∧ Try.prog.concrete 86 = true) ∧ ((Try.prog.underlying 86).isSome = true ∧ elT Try.prog 86 = none) ∧ azT Try.prog 86 = some (2, 1, [.int .i64 0, .int .i64 0]) ∧
zeroT Try.prog 86 = some [.int .i64 0, .int .i64 0]) ∧ (((bT Try.prog 86 = true ∧ fldT Try.prog 86 0 = some (0, 1, false) ∧ fldT Try.prog 86 1 = some (1, 1, false)) ∧ zT Try.prog 87 = false ∧ szT Try.prog 87 = some (1, false) ∧ azT Try.prog 87 = some (1, 1, [.pointer none])) ∧
(arT Try.prog 87 = none ∧ Try.prog.concrete 87 = true ∧ zT Try.prog 88 = false) ∧ szT Try.prog 88 = some (1, false) ∧ arT Try.prog 88 = none ∧ Try.prog.concrete 88 = true) ∧ ((zT Try.prog 89 = false ∧ szT Try.prog 89 = some (1, false) ∧ arT Try.prog 89 = none) ∧
Try.prog.concrete 89 = true ∧ zT Try.prog 90 = false ∧ szT Try.prog 90 = some (1, false)) ∧ (arT Try.prog 90 = none ∧ Try.prog.concrete 90 = true ∧ (Try.prog.underlying 90).isSome = true) ∧ (intT Try.prog 90 = some .u64 ∧ elT Try.prog 90 = none) ∧
azT Try.prog 90 = some (1, 1, [.int .u64 0]) ∧ zeroT Try.prog 90 = some [.int .u64 0]) ∧ ((((zT Try.prog 91 = false ∧ szT Try.prog 91 = some (1, false) ∧ arT Try.prog 91 = none) ∧ Try.prog.concrete 91 = true ∧ (Try.prog.underlying 91).isSome = true ∧
intT Try.prog 91 = some .u64) ∧ (elT Try.prog 91 = none ∧ azT Try.prog 91 = some (1, 1, [.int .u64 0]) ∧ zeroT Try.prog 91 = some [.int .u64 0]) ∧ zT Try.prog 92 = false ∧ szT Try.prog 92 = some (1, false) ∧ arT Try.prog 92 = none) ∧ ((Try.prog.concrete 92 = true ∧
zT Try.prog 93 = false ∧ szT Try.prog 93 = some (101, true)) ∧ Try.prog.concrete 93 = true ∧ (Try.prog.underlying 93).isSome = true ∧ elT Try.prog 93 = none) ∧ (arT Try.prog 93 = some (101, 1, false) ∧ azT Try.prog 93 = some (1, 101, [.bool false]) ∧
zT Try.prog 94 = false) ∧ (szT Try.prog 94 = some (101, true) ∧ Try.prog.concrete 94 = true) ∧ (Try.prog.underlying 94).isSome = true ∧ elT Try.prog 94 = none) ∧ (((arT Try.prog 94 = some (101, 1, false) ∧ azT Try.prog 94 = some (1, 101, [.bool false]) ∧
zT Try.prog 95 = false) ∧ szT Try.prog 95 = some (1, false) ∧ arT Try.prog 95 = none ∧ Try.prog.concrete 95 = true) ∧ (zT Try.prog 96 = false ∧ szT Try.prog 96 = some (1, false) ∧ azT Try.prog 96 = some (1, 1, [.pointer none])) ∧ arT Try.prog 96 = none ∧
Try.prog.concrete 96 = true ∧ zT Try.prog 97 = false) ∧ ((szT Try.prog 97 = some (1, false) ∧ arT Try.prog 97 = none ∧ Try.prog.concrete 97 = true) ∧ zT Try.prog 98 = false ∧ szT Try.prog 98 = some (1, false) ∧ arT Try.prog 98 = none) ∧ (Try.prog.concrete 98 = true ∧
zT Try.prog 99 = false ∧ szT Try.prog 99 = some (2, true)) ∧ (arT Try.prog 99 = none ∧ Try.prog.concrete 99 = true) ∧ (Try.prog.underlying 99).isSome = true ∧ elT Try.prog 99 = none) ∧ ((((((azT Try.prog 99 = some (2, 1, [.nilFunc, .nilFunc]) ∧
zeroT Try.prog 99 = some [.nilFunc, .nilFunc] ∧ bT Try.prog 99 = true) ∧ fldT Try.prog 99 0 = some (0, 1, false) ∧ fldT Try.prog 99 1 = some (1, 1, false) ∧ zT Try.prog 100 = false) ∧ (szT Try.prog 100 = some (2, true) ∧ arT Try.prog 100 = none ∧
Try.prog.concrete 100 = true) ∧ (Try.prog.underlying 100).isSome = true ∧ elT Try.prog 100 = none ∧ azT Try.prog 100 = some (2, 1, [.nilFunc, .nilFunc])) ∧ ((zeroT Try.prog 100 = some [.nilFunc, .nilFunc] ∧ bT Try.prog 100 = true ∧ fldT Try.prog 100 0 = some (0, 1, false)) ∧
fldT Try.prog 100 1 = some (1, 1, false) ∧ zT Try.prog 101 = false ∧ szT Try.prog 101 = some (1, false)) ∧ (arT Try.prog 101 = none ∧ Try.prog.concrete 101 = true ∧ zT Try.prog 102 = false) ∧ (szT Try.prog 102 = some (1, false) ∧ arT Try.prog 102 = none) ∧
Try.prog.concrete 102 = true ∧ zT Try.prog 103 = false) ∧ (((szT Try.prog 103 = some (1, false) ∧ arT Try.prog 103 = none ∧ Try.prog.concrete 103 = true) ∧ zT Try.prog 104 = false ∧ szT Try.prog 104 = some (1, false) ∧ arT Try.prog 104 = none) ∧
(zT Try.prog 105 = false ∧ szT Try.prog 105 = some (1, false) ∧ arT Try.prog 105 = none) ∧ zT Try.prog 106 = false ∧ szT Try.prog 106 = some (9, true) ∧ arT Try.prog 106 = none) ∧ ((Try.prog.concrete 106 = true ∧ (Try.prog.underlying 106).isSome = true ∧
elT Try.prog 106 = none) ∧ azT Try.prog 106 = some (9, 1, [.slice none 0 0, .int .i64 0, .slice none 0 0, .slice none 0 0, .slice none 0 0, .nilIface, .int .i64 0, .int .i64 0, .int .i64 0]) ∧ zeroT Try.prog 106 = some [.slice none 0 0, .int .i64 0, .slice none 0 0, .slice none 0 0, .slice none 0 0, .nilIface, .int .i64 0, .int .i64 0, .int .i64 0] ∧
bT Try.prog 106 = true) ∧ (fldT Try.prog 106 0 = some (0, 5, true) ∧ fldT Try.prog 106 1 = some (5, 1, false) ∧ fldT Try.prog 106 2 = some (6, 2, true)) ∧ (fldT Try.prog 106 3 = some (8, 1, false) ∧ zT Try.prog 107 = false) ∧ szT Try.prog 107 = some (9, true) ∧
arT Try.prog 107 = none) ∧ ((((Try.prog.concrete 107 = true ∧ (Try.prog.underlying 107).isSome = true ∧ elT Try.prog 107 = none) ∧ azT Try.prog 107 = some (9, 1, [.slice none 0 0, .int .i64 0, .slice none 0 0, .slice none 0 0, .slice none 0 0, .nilIface, .int .i64 0, .int .i64 0, .int .i64 0]) ∧
zeroT Try.prog 107 = some [.slice none 0 0, .int .i64 0, .slice none 0 0, .slice none 0 0, .slice none 0 0, .nilIface, .int .i64 0, .int .i64 0, .int .i64 0] ∧ bT Try.prog 107 = true) ∧ (fldT Try.prog 107 0 = some (0, 5, true) ∧ fldT Try.prog 107 1 = some (5, 1, false) ∧
fldT Try.prog 107 2 = some (6, 2, true)) ∧ fldT Try.prog 107 3 = some (8, 1, false) ∧ zT Try.prog 108 = false ∧ szT Try.prog 108 = some (1, false)) ∧ ((arT Try.prog 108 = none ∧ Try.prog.concrete 108 = true ∧ zT Try.prog 109 = false) ∧ szT Try.prog 109 = some (2, true) ∧
arT Try.prog 109 = none ∧ Try.prog.concrete 109 = true) ∧ ((Try.prog.underlying 109).isSome = true ∧ elT Try.prog 109 = none ∧ azT Try.prog 109 = some (2, 1, [.int .i64 0, .int .i64 0])) ∧ (zeroT Try.prog 109 = some [.int .i64 0, .int .i64 0] ∧
bT Try.prog 109 = true) ∧ fldT Try.prog 109 0 = some (0, 1, false) ∧ fldT Try.prog 109 1 = some (1, 1, false)) ∧ (((zT Try.prog 110 = false ∧ szT Try.prog 110 = some (2, true) ∧ arT Try.prog 110 = none) ∧ Try.prog.concrete 110 = true ∧ (Try.prog.underlying 110).isSome = true ∧
elT Try.prog 110 = none) ∧ (azT Try.prog 110 = some (2, 1, [.int .i64 0, .int .i64 0]) ∧ zeroT Try.prog 110 = some [.int .i64 0, .int .i64 0] ∧ bT Try.prog 110 = true) ∧ fldT Try.prog 110 0 = some (0, 1, false) ∧ fldT Try.prog 110 1 = some (1, 1, false) ∧
zT Try.prog 111 = false) ∧ ((szT Try.prog 111 = some (6, true) ∧ Try.prog.concrete 111 = true ∧ (Try.prog.underlying 111).isSome = true) ∧ elT Try.prog 111 = none ∧ arT Try.prog 111 = some (3, 2, true) ∧ azT Try.prog 111 = some (2, 3, [.int .i64 0, .int .i64 0])) ∧
(zeroT Try.prog 111 = some [.int .i64 0, .int .i64 0, .int .i64 0, .int .i64 0, .int .i64 0, .int .i64 0] ∧ zT Try.prog 112 = false ∧ szT Try.prog 112 = some (8, true)) ∧ (arT Try.prog 112 = none ∧ Try.prog.concrete 112 = true) ∧ (Try.prog.underlying 112).isSome = true ∧
elT Try.prog 112 = none) ∧ (((((azT Try.prog 112 = some (8, 1, [.int .i64 0, .int .i64 0, .int .i64 0, .int .i64 0, .int .i64 0, .int .i64 0, .int .i64 0, .int .i64 0]) ∧ zeroT Try.prog 112 = some [.int .i64 0, .int .i64 0, .int .i64 0, .int .i64 0, .int .i64 0, .int .i64 0, .int .i64 0, .int .i64 0] ∧
bT Try.prog 112 = true) ∧ fldT Try.prog 112 0 = some (0, 1, false) ∧ fldT Try.prog 112 1 = some (1, 6, true) ∧ fldT Try.prog 112 2 = some (7, 1, false)) ∧ (zT Try.prog 113 = false ∧ szT Try.prog 113 = some (8, true) ∧ arT Try.prog 113 = none) ∧
Try.prog.concrete 113 = true ∧ (Try.prog.underlying 113).isSome = true ∧ elT Try.prog 113 = none) ∧ ((azT Try.prog 113 = some (8, 1, [.int .i64 0, .int .i64 0, .int .i64 0, .int .i64 0, .int .i64 0, .int .i64 0, .int .i64 0, .int .i64 0]) ∧ zeroT Try.prog 113 = some [.int .i64 0, .int .i64 0, .int .i64 0, .int .i64 0, .int .i64 0, .int .i64 0, .int .i64 0, .int .i64 0] ∧
bT Try.prog 113 = true) ∧ fldT Try.prog 113 0 = some (0, 1, false) ∧ fldT Try.prog 113 1 = some (1, 6, true) ∧ fldT Try.prog 113 2 = some (7, 1, false)) ∧ (zT Try.prog 114 = false ∧ szT Try.prog 114 = some (1, false) ∧ arT Try.prog 114 = none) ∧
(Try.prog.concrete 114 = true ∧ zT Try.prog 116 = false) ∧ szT Try.prog 116 = some (1, false) ∧ arT Try.prog 116 = none) ∧ (((Try.prog.concrete 116 = true ∧ zT Try.prog 117 = false ∧ szT Try.prog 117 = some (8, true)) ∧ Try.prog.concrete 117 = true ∧
(Try.prog.underlying 117).isSome = true ∧ elT Try.prog 117 = none) ∧ (arT Try.prog 117 = some (8, 1, false) ∧ azT Try.prog 117 = some (1, 8, [.int .i64 0]) ∧ zeroT Try.prog 117 = some [.int .i64 0, .int .i64 0, .int .i64 0, .int .i64 0, .int .i64 0, .int .i64 0, .int .i64 0, .int .i64 0]) ∧
zT Try.prog 118 = false ∧ szT Try.prog 118 = some (1, false) ∧ arT Try.prog 118 = none) ∧ ((Try.prog.concrete 118 = true ∧ zT Try.prog 119 = false ∧ szT Try.prog 119 = some (1, false)) ∧ arT Try.prog 119 = none ∧ Try.prog.concrete 119 = true ∧
zT Try.prog 120 = false) ∧ (szT Try.prog 120 = some (1, false) ∧ arT Try.prog 120 = none ∧ Try.prog.concrete 120 = true) ∧ (zT Try.prog 121 = false ∧ szT Try.prog 121 = some (1, false)) ∧ arT Try.prog 121 = none ∧ Try.prog.concrete 121 = true) ∧
((((zT Try.prog 122 = false ∧ szT Try.prog 122 = some (1, false) ∧ arT Try.prog 122 = none) ∧ Try.prog.concrete 122 = true ∧ zT Try.prog 123 = false ∧ szT Try.prog 123 = some (1, false)) ∧ (arT Try.prog 123 = none ∧ Try.prog.concrete 123 = true ∧
zT Try.prog 124 = false) ∧ szT Try.prog 124 = some (1, false) ∧ arT Try.prog 124 = none ∧ Try.prog.concrete 124 = true) ∧ ((zT Try.prog 125 = false ∧ szT Try.prog 125 = some (1, false) ∧ arT Try.prog 125 = none) ∧ Try.prog.concrete 125 = true ∧
zT Try.prog 126 = false ∧ szT Try.prog 126 = some (1, false)) ∧ (arT Try.prog 126 = none ∧ Try.prog.concrete 126 = true ∧ zT Try.prog 127 = true) ∧ (szT Try.prog 127 = some (0, true) ∧ arT Try.prog 127 = none) ∧ Try.prog.concrete 127 = true ∧ (Try.prog.underlying 127).isSome = true) ∧
(((elT Try.prog 127 = none ∧ azT Try.prog 127 = some (0, 1, []) ∧ zeroT Try.prog 127 = some []) ∧ bT Try.prog 127 = true ∧ zT Try.prog 128 = true ∧ szT Try.prog 128 = some (0, true)) ∧ (arT Try.prog 128 = none ∧ Try.prog.concrete 128 = true ∧ (Try.prog.underlying 128).isSome = true) ∧
(elT Try.prog 128 = none ∧ azT Try.prog 128 = some (0, 1, [])) ∧ zeroT Try.prog 128 = some [] ∧ bT Try.prog 128 = true) ∧ ((zT Try.prog 129 = false ∧ szT Try.prog 129 = some (1, false) ∧ arT Try.prog 129 = none) ∧ Try.prog.concrete 129 = true ∧
zT Try.prog 130 = false ∧ szT Try.prog 130 = some (1, false)) ∧ (azT Try.prog 130 = some (1, 1, [.pointer none]) ∧ arT Try.prog 130 = none ∧ Try.prog.concrete 130 = true) ∧ (zT Try.prog 131 = false ∧ szT Try.prog 131 = some (2, true)) ∧ arT Try.prog 131 = none ∧
Try.prog.concrete 131 = true) ∧ (((((((((Try.prog.underlying 131).isSome = true ∧ elT Try.prog 131 = none ∧ azT Try.prog 131 = some (2, 1, [.int .i64 0, .int .i64 0])) ∧ zeroT Try.prog 131 = some [.int .i64 0, .int .i64 0] ∧ bT Try.prog 131 = true ∧
fldT Try.prog 131 0 = some (0, 1, false)) ∧ (fldT Try.prog 131 1 = some (1, 1, false) ∧ zT Try.prog 132 = false ∧ szT Try.prog 132 = some (2, true)) ∧ arT Try.prog 132 = none ∧ Try.prog.concrete 132 = true ∧ (Try.prog.underlying 132).isSome = true) ∧
((elT Try.prog 132 = none ∧ azT Try.prog 132 = some (2, 1, [.int .i64 0, .int .i64 0]) ∧ zeroT Try.prog 132 = some [.int .i64 0, .int .i64 0]) ∧ bT Try.prog 132 = true ∧ fldT Try.prog 132 0 = some (0, 1, false) ∧ fldT Try.prog 132 1 = some (1, 1, false)) ∧
(zT Try.prog 134 = false ∧ szT Try.prog 134 = some (1, false) ∧ arT Try.prog 134 = none) ∧ (Try.prog.concrete 134 = true ∧ zT Try.prog 136 = false) ∧ szT Try.prog 136 = some (1, false) ∧ arT Try.prog 136 = none) ∧ (((Try.prog.concrete 136 = true ∧
zT Try.prog 137 = false ∧ szT Try.prog 137 = some (1, false)) ∧ arT Try.prog 137 = none ∧ Try.prog.concrete 137 = true ∧ zT Try.prog 138 = true) ∧ (szT Try.prog 138 = some (0, true) ∧ arT Try.prog 138 = none ∧ Try.prog.concrete 138 = true) ∧ (Try.prog.underlying 138).isSome = true ∧
elT Try.prog 138 = none ∧ azT Try.prog 138 = some (0, 1, [])) ∧ ((zeroT Try.prog 138 = some [] ∧ bT Try.prog 138 = true ∧ zT Try.prog 139 = false) ∧ szT Try.prog 139 = some (1, false) ∧ arT Try.prog 139 = none ∧ Try.prog.concrete 139 = true) ∧
(zT Try.prog 140 = false ∧ szT Try.prog 140 = some (2, true) ∧ arT Try.prog 140 = none) ∧ (Try.prog.concrete 140 = true ∧ (Try.prog.underlying 140).isSome = true) ∧ elT Try.prog 140 = none ∧ azT Try.prog 140 = some (2, 1, [.int .i64 0, .bool false])) ∧
((((zeroT Try.prog 140 = some [.int .i64 0, .bool false] ∧ bT Try.prog 140 = true ∧ fldT Try.prog 140 0 = some (0, 1, false)) ∧ fldT Try.prog 140 1 = some (1, 1, false) ∧ zT Try.prog 141 = false ∧ szT Try.prog 141 = some (2, true)) ∧ (arT Try.prog 141 = none ∧
Try.prog.concrete 141 = true ∧ (Try.prog.underlying 141).isSome = true) ∧ elT Try.prog 141 = none ∧ azT Try.prog 141 = some (2, 1, [.int .i64 0, .bool false]) ∧ zeroT Try.prog 141 = some [.int .i64 0, .bool false]) ∧ ((bT Try.prog 141 = true ∧
fldT Try.prog 141 0 = some (0, 1, false) ∧ fldT Try.prog 141 1 = some (1, 1, false)) ∧ zT Try.prog 142 = false ∧ szT Try.prog 142 = some (1, false) ∧ arT Try.prog 142 = none) ∧ (Try.prog.concrete 142 = true ∧ zT Try.prog 143 = false ∧ szT Try.prog 143 = some (1, false)) ∧
(arT Try.prog 143 = none ∧ Try.prog.concrete 143 = true) ∧ (Try.prog.underlying 143).isSome = true ∧ elT Try.prog 143 = some (6, true)) ∧ (((elB Try.prog 143 = some (6, 48) ∧ bsT Try.prog 143 = some 6 ∧ mkT Try.prog 143 = some (6, 48, [.int .i64 0, .int .i64 0, .int .i64 0, .int .i64 0, .int .i64 0, .int .i64 0])) ∧
azT Try.prog 143 = some (1, 1, [.slice none 0 0]) ∧ zeroT Try.prog 143 = some [.slice none 0 0] ∧ zT Try.prog 144 = false) ∧ (szT Try.prog 144 = some (1, false) ∧ arT Try.prog 144 = none ∧ Try.prog.concrete 144 = true) ∧ zT Try.prog 145 = false ∧
szT Try.prog 145 = some (6, true) ∧ Try.prog.concrete 145 = true) ∧ (((Try.prog.underlying 145).isSome = true ∧ elT Try.prog 145 = none ∧ arT Try.prog 145 = some (6, 1, false)) ∧ azT Try.prog 145 = some (1, 6, [.int .i64 0]) ∧ zeroT Try.prog 145 = some [.int .i64 0, .int .i64 0, .int .i64 0, .int .i64 0, .int .i64 0, .int .i64 0] ∧
zT Try.prog 146 = false) ∧ (szT Try.prog 146 = some (6, true) ∧ Try.prog.concrete 146 = true ∧ (Try.prog.underlying 146).isSome = true) ∧ (elT Try.prog 146 = none ∧ arT Try.prog 146 = some (6, 1, false)) ∧ azT Try.prog 146 = some (1, 6, [.int .i64 0]) ∧
zeroT Try.prog 146 = some [.int .i64 0, .int .i64 0, .int .i64 0, .int .i64 0, .int .i64 0, .int .i64 0]) ∧ (((((zT Try.prog 147 = false ∧ szT Try.prog 147 = some (1, false) ∧ arT Try.prog 147 = none) ∧ Try.prog.concrete 147 = true ∧ zT Try.prog 148 = false ∧
szT Try.prog 148 = some (1, false)) ∧ (arT Try.prog 148 = none ∧ Try.prog.concrete 148 = true ∧ zT Try.prog 149 = false) ∧ szT Try.prog 149 = some (1, false) ∧ arT Try.prog 149 = none ∧ Try.prog.concrete 149 = true) ∧ ((zT Try.prog 150 = false ∧
szT Try.prog 150 = some (1, false) ∧ arT Try.prog 150 = none) ∧ Try.prog.concrete 150 = true ∧ (Try.prog.underlying 150).isSome = true ∧ intT Try.prog 150 = some .i64) ∧ (elT Try.prog 150 = none ∧ azT Try.prog 150 = some (1, 1, [.int .i64 0]) ∧
zeroT Try.prog 150 = some [.int .i64 0]) ∧ (zT Try.prog 152 = false ∧ szT Try.prog 152 = some (1, false)) ∧ arT Try.prog 152 = none ∧ Try.prog.concrete 152 = true) ∧ (((zT Try.prog 153 = false ∧ szT Try.prog 153 = some (1, false) ∧ arT Try.prog 153 = none) ∧
Try.prog.concrete 153 = true ∧ zT Try.prog 154 = false ∧ szT Try.prog 154 = some (3, true)) ∧ (arT Try.prog 154 = none ∧ Try.prog.concrete 154 = true ∧ (Try.prog.underlying 154).isSome = true) ∧ elT Try.prog 154 = none ∧ azT Try.prog 154 = some (3, 1, [.slice none 0 0, .slice none 0 0, .map none]) ∧
zeroT Try.prog 154 = some [.slice none 0 0, .slice none 0 0, .map none]) ∧ ((bT Try.prog 154 = true ∧ fldT Try.prog 154 0 = some (0, 2, true) ∧ fldT Try.prog 154 1 = some (2, 1, false)) ∧ zT Try.prog 155 = false ∧ szT Try.prog 155 = some (3, true) ∧
arT Try.prog 155 = none) ∧ (Try.prog.concrete 155 = true ∧ (Try.prog.underlying 155).isSome = true ∧ elT Try.prog 155 = none) ∧ (azT Try.prog 155 = some (3, 1, [.slice none 0 0, .slice none 0 0, .map none]) ∧ zeroT Try.prog 155 = some [.slice none 0 0, .slice none 0 0, .map none]) ∧
bT Try.prog 155 = true ∧ fldT Try.prog 155 0 = some (0, 2, true)) ∧ ((((fldT Try.prog 155 1 = some (2, 1, false) ∧ zT Try.prog 156 = false ∧ szT Try.prog 156 = some (1, false)) ∧ arT Try.prog 156 = none ∧ Try.prog.concrete 156 = true ∧ zT Try.prog 157 = false) ∧
(szT Try.prog 157 = some (1, true) ∧ arT Try.prog 157 = none ∧ Try.prog.concrete 157 = true) ∧ (Try.prog.underlying 157).isSome = true ∧ elT Try.prog 157 = none ∧ azT Try.prog 157 = some (1, 1, [.int .i64 0])) ∧ ((zeroT Try.prog 157 = some [.int .i64 0] ∧
bT Try.prog 157 = true ∧ fldT Try.prog 157 0 = some (0, 1, false)) ∧ zT Try.prog 158 = false ∧ szT Try.prog 158 = some (1, true) ∧ arT Try.prog 158 = none) ∧ (Try.prog.concrete 158 = true ∧ (Try.prog.underlying 158).isSome = true ∧ elT Try.prog 158 = none) ∧
(azT Try.prog 158 = some (1, 1, [.int .i64 0]) ∧ zeroT Try.prog 158 = some [.int .i64 0]) ∧ bT Try.prog 158 = true ∧ fldT Try.prog 158 0 = some (0, 1, false)) ∧ (((zT Try.prog 159 = false ∧ szT Try.prog 159 = some (2, true) ∧ arT Try.prog 159 = none) ∧
Try.prog.concrete 159 = true ∧ (Try.prog.underlying 159).isSome = true ∧ elT Try.prog 159 = none) ∧ (azT Try.prog 159 = some (2, 1, [.int .i64 0, .int .i64 0]) ∧ zeroT Try.prog 159 = some [.int .i64 0, .int .i64 0] ∧ bT Try.prog 159 = true) ∧ fldT Try.prog 159 0 = some (0, 1, true) ∧
fldT Try.prog 159 1 = some (1, 1, false) ∧ zT Try.prog 160 = false) ∧ ((szT Try.prog 160 = some (2, true) ∧ arT Try.prog 160 = none ∧ Try.prog.concrete 160 = true) ∧ (Try.prog.underlying 160).isSome = true ∧ elT Try.prog 160 = none ∧ azT Try.prog 160 = some (2, 1, [.int .i64 0, .int .i64 0])) ∧
(zeroT Try.prog 160 = some [.int .i64 0, .int .i64 0] ∧ bT Try.prog 160 = true ∧ fldT Try.prog 160 0 = some (0, 1, true)) ∧ (fldT Try.prog 160 1 = some (1, 1, false) ∧ zT Try.prog 161 = false) ∧ szT Try.prog 161 = some (1, false) ∧ arT Try.prog 161 = none) ∧
((((((Try.prog.concrete 161 = true ∧ zT Try.prog 162 = false ∧ szT Try.prog 162 = some (1, true)) ∧ arT Try.prog 162 = none ∧ Try.prog.concrete 162 = true ∧ (Try.prog.underlying 162).isSome = true) ∧ (elT Try.prog 162 = none ∧ azT Try.prog 162 = some (1, 1, [.int .i64 0]) ∧
zeroT Try.prog 162 = some [.int .i64 0]) ∧ bT Try.prog 162 = true ∧ fldT Try.prog 162 0 = some (0, 1, false) ∧ zT Try.prog 163 = false) ∧ ((szT Try.prog 163 = some (1, true) ∧ arT Try.prog 163 = none ∧ Try.prog.concrete 163 = true) ∧ (Try.prog.underlying 163).isSome = true ∧
elT Try.prog 163 = none ∧ azT Try.prog 163 = some (1, 1, [.int .i64 0])) ∧ (zeroT Try.prog 163 = some [.int .i64 0] ∧ bT Try.prog 163 = true ∧ fldT Try.prog 163 0 = some (0, 1, false)) ∧ (zT Try.prog 165 = false ∧ szT Try.prog 165 = some (1, false)) ∧
arT Try.prog 165 = none ∧ Try.prog.concrete 165 = true) ∧ (((zT Try.prog 166 = false ∧ szT Try.prog 166 = some (4, true) ∧ arT Try.prog 166 = none) ∧ Try.prog.concrete 166 = true ∧ (Try.prog.underlying 166).isSome = true ∧ elT Try.prog 166 = none) ∧
(azT Try.prog 166 = some (4, 1, [.slice none 0 0, .slice none 0 0, .slice none 0 0, .map none]) ∧ zeroT Try.prog 166 = some [.slice none 0 0, .slice none 0 0, .slice none 0 0, .map none] ∧ bT Try.prog 166 = true) ∧ fldT Try.prog 166 0 = some (0, 2, true) ∧
fldT Try.prog 166 1 = some (2, 1, false) ∧ fldT Try.prog 166 2 = some (3, 1, false)) ∧ ((zT Try.prog 167 = false ∧ szT Try.prog 167 = some (4, true) ∧ arT Try.prog 167 = none) ∧ Try.prog.concrete 167 = true ∧ (Try.prog.underlying 167).isSome = true ∧
elT Try.prog 167 = none) ∧ (azT Try.prog 167 = some (4, 1, [.slice none 0 0, .slice none 0 0, .slice none 0 0, .map none]) ∧ zeroT Try.prog 167 = some [.slice none 0 0, .slice none 0 0, .slice none 0 0, .map none] ∧ bT Try.prog 167 = true) ∧ (fldT Try.prog 167 0 = some (0, 2, true) ∧
fldT Try.prog 167 1 = some (2, 1, false)) ∧ fldT Try.prog 167 2 = some (3, 1, false) ∧ zT Try.prog 168 = false) ∧ ((((szT Try.prog 168 = some (1, false) ∧ arT Try.prog 168 = none ∧ Try.prog.concrete 168 = true) ∧ zT Try.prog 169 = false ∧ szT Try.prog 169 = some (1, false) ∧
arT Try.prog 169 = none) ∧ (Try.prog.concrete 169 = true ∧ zT Try.prog 170 = false ∧ szT Try.prog 170 = some (1, false)) ∧ arT Try.prog 170 = none ∧ Try.prog.concrete 170 = true ∧ zT Try.prog 171 = false) ∧ ((szT Try.prog 171 = some (1, false) ∧
arT Try.prog 171 = none ∧ Try.prog.concrete 171 = true) ∧ zT Try.prog 173 = false ∧ szT Try.prog 173 = some (1, false) ∧ arT Try.prog 173 = none) ∧ (Try.prog.concrete 173 = true ∧ zT Try.prog 174 = false ∧ szT Try.prog 174 = some (1, false)) ∧
(arT Try.prog 174 = none ∧ Try.prog.concrete 174 = true) ∧ zT Try.prog 175 = false ∧ szT Try.prog 175 = some (1, false)) ∧ (((arT Try.prog 175 = none ∧ Try.prog.concrete 175 = true ∧ (Try.prog.underlying 175).isSome = true) ∧ intT Try.prog 175 = some .i64 ∧
elT Try.prog 175 = none ∧ azT Try.prog 175 = some (1, 1, [.int .i64 0])) ∧ (zeroT Try.prog 175 = some [.int .i64 0] ∧ zT Try.prog 177 = false ∧ szT Try.prog 177 = some (1, false)) ∧ arT Try.prog 177 = none ∧ Try.prog.concrete 177 = true ∧ zT Try.prog 178 = true) ∧
((szT Try.prog 178 = some (0, true) ∧ arT Try.prog 178 = none ∧ Try.prog.concrete 178 = true) ∧ (Try.prog.underlying 178).isSome = true ∧ elT Try.prog 178 = none ∧ azT Try.prog 178 = some (0, 1, [])) ∧ (zeroT Try.prog 178 = some [] ∧ bT Try.prog 178 = true ∧
zT Try.prog 179 = false) ∧ (szT Try.prog 179 = some (1, false) ∧ arT Try.prog 179 = none) ∧ Try.prog.concrete 179 = true ∧ zT Try.prog 180 = false) ∧ (((((szT Try.prog 180 = some (2, true) ∧ arT Try.prog 180 = none ∧ Try.prog.concrete 180 = true) ∧
(Try.prog.underlying 180).isSome = true ∧ elT Try.prog 180 = none ∧ azT Try.prog 180 = some (2, 1, [.int .i64 0, .bool false])) ∧ (zeroT Try.prog 180 = some [.int .i64 0, .bool false] ∧ bT Try.prog 180 = true ∧ fldT Try.prog 180 0 = some (0, 1, false)) ∧
fldT Try.prog 180 1 = some (1, 1, false) ∧ zT Try.prog 181 = false ∧ szT Try.prog 181 = some (2, true)) ∧ ((arT Try.prog 181 = none ∧ Try.prog.concrete 181 = true ∧ (Try.prog.underlying 181).isSome = true) ∧ elT Try.prog 181 = none ∧ azT Try.prog 181 = some (2, 1, [.int .i64 0, .bool false]) ∧
zeroT Try.prog 181 = some [.int .i64 0, .bool false]) ∧ (bT Try.prog 181 = true ∧ fldT Try.prog 181 0 = some (0, 1, false) ∧ fldT Try.prog 181 1 = some (1, 1, false)) ∧ (zT Try.prog 183 = false ∧ szT Try.prog 183 = some (1, false)) ∧ arT Try.prog 183 = none ∧
Try.prog.concrete 183 = true) ∧ (((zT Try.prog 184 = false ∧ szT Try.prog 184 = some (1, false) ∧ arT Try.prog 184 = none) ∧ Try.prog.concrete 184 = true ∧ zT Try.prog 185 = false ∧ szT Try.prog 185 = some (1, false)) ∧ (arT Try.prog 185 = none ∧
Try.prog.concrete 185 = true ∧ zT Try.prog 186 = false) ∧ szT Try.prog 186 = some (1, false) ∧ arT Try.prog 186 = none ∧ Try.prog.concrete 186 = true) ∧ ((zT Try.prog 187 = false ∧ szT Try.prog 187 = some (1, false) ∧ arT Try.prog 187 = none) ∧
Try.prog.concrete 187 = true ∧ zT Try.prog 188 = false ∧ szT Try.prog 188 = some (1, false)) ∧ (arT Try.prog 188 = none ∧ Try.prog.concrete 188 = true ∧ zT Try.prog 189 = false) ∧ (szT Try.prog 189 = some (1, true) ∧ arT Try.prog 189 = none) ∧
Try.prog.concrete 189 = true ∧ (Try.prog.underlying 189).isSome = true) ∧ ((((elT Try.prog 189 = none ∧ azT Try.prog 189 = some (1, 1, [.int .i64 0]) ∧ zeroT Try.prog 189 = some [.int .i64 0]) ∧ bT Try.prog 189 = true ∧ fldT Try.prog 189 0 = some (0, 1, false) ∧
zT Try.prog 190 = false) ∧ (szT Try.prog 190 = some (1, true) ∧ arT Try.prog 190 = none ∧ Try.prog.concrete 190 = true) ∧ (Try.prog.underlying 190).isSome = true ∧ elT Try.prog 190 = none ∧ azT Try.prog 190 = some (1, 1, [.int .i64 0])) ∧ ((zeroT Try.prog 190 = some [.int .i64 0] ∧
bT Try.prog 190 = true ∧ fldT Try.prog 190 0 = some (0, 1, false)) ∧ zT Try.prog 192 = false ∧ szT Try.prog 192 = some (1, false) ∧ arT Try.prog 192 = none) ∧ (Try.prog.concrete 192 = true ∧ zT Try.prog 193 = false ∧ szT Try.prog 193 = some (6, true)) ∧
(Try.prog.concrete 193 = true ∧ (Try.prog.underlying 193).isSome = true) ∧ elT Try.prog 193 = none ∧ arT Try.prog 193 = some (6, 1, false)) ∧ (((azT Try.prog 193 = some (1, 6, [.int .i64 0]) ∧ zeroT Try.prog 193 = some [.int .i64 0, .int .i64 0, .int .i64 0, .int .i64 0, .int .i64 0, .int .i64 0] ∧
zT Try.prog 194 = false) ∧ szT Try.prog 194 = some (8, true) ∧ arT Try.prog 194 = none ∧ Try.prog.concrete 194 = true) ∧ ((Try.prog.underlying 194).isSome = true ∧ elT Try.prog 194 = none ∧ azT Try.prog 194 = some (8, 1, [.int .i64 0, .int .i64 0, .int .i64 0, .int .i64 0, .int .i64 0, .int .i64 0, .int .i64 0, .slice none 0 0])) ∧
(zeroT Try.prog 194 = some [.int .i64 0, .int .i64 0, .int .i64 0, .int .i64 0, .int .i64 0, .int .i64 0, .int .i64 0, .slice none 0 0] ∧ bT Try.prog 194 = true) ∧ fldT Try.prog 194 0 = some (0, 6, true) ∧ fldT Try.prog 194 1 = some (6, 1, false)) ∧
((fldT Try.prog 194 2 = some (7, 1, false) ∧ zT Try.prog 195 = false ∧ szT Try.prog 195 = some (8, true)) ∧ arT Try.prog 195 = none ∧ Try.prog.concrete 195 = true ∧ (Try.prog.underlying 195).isSome = true) ∧ (elT Try.prog 195 = none ∧ azT Try.prog 195 = some (8, 1, [.int .i64 0, .int .i64 0, .int .i64 0, .int .i64 0, .int .i64 0, .int .i64 0, .int .i64 0, .slice none 0 0]) ∧
zeroT Try.prog 195 = some [.int .i64 0, .int .i64 0, .int .i64 0, .int .i64 0, .int .i64 0, .int .i64 0, .int .i64 0, .slice none 0 0]) ∧ (bT Try.prog 195 = true ∧ fldT Try.prog 195 0 = some (0, 6, true)) ∧ fldT Try.prog 195 1 = some (6, 1, false) ∧
fldT Try.prog 195 2 = some (7, 1, false)) ∧ (((((((zT Try.prog 196 = false ∧ szT Try.prog 196 = some (1, false) ∧ arT Try.prog 196 = none) ∧ Try.prog.concrete 196 = true ∧ zT Try.prog 197 = false ∧ szT Try.prog 197 = some (1, false)) ∧ (arT Try.prog 197 = none ∧
zT Try.prog 198 = false ∧ szT Try.prog 198 = some (1, false)) ∧ arT Try.prog 198 = none ∧ zT Try.prog 199 = false ∧ szT Try.prog 199 = some (1, false)) ∧ ((arT Try.prog 199 = none ∧ Try.prog.concrete 199 = true ∧ zT Try.prog 200 = false) ∧ szT Try.prog 200 = some (1, false) ∧
arT Try.prog 200 = none ∧ Try.prog.concrete 200 = true) ∧ (zT Try.prog 201 = false ∧ szT Try.prog 201 = some (2, true) ∧ arT Try.prog 201 = none) ∧ (Try.prog.concrete 201 = true ∧ (Try.prog.underlying 201).isSome = true) ∧ elT Try.prog 201 = none ∧
azT Try.prog 201 = some (2, 1, [.int .i64 0, .int .i64 0])) ∧ (((zeroT Try.prog 201 = some [.int .i64 0, .int .i64 0] ∧ bT Try.prog 201 = true ∧ fldT Try.prog 201 0 = some (0, 1, false)) ∧ fldT Try.prog 201 1 = some (1, 1, false) ∧ zT Try.prog 202 = false ∧
szT Try.prog 202 = some (2, true)) ∧ (arT Try.prog 202 = none ∧ Try.prog.concrete 202 = true ∧ (Try.prog.underlying 202).isSome = true) ∧ elT Try.prog 202 = none ∧ azT Try.prog 202 = some (2, 1, [.int .i64 0, .int .i64 0]) ∧ zeroT Try.prog 202 = some [.int .i64 0, .int .i64 0]) ∧
((bT Try.prog 202 = true ∧ fldT Try.prog 202 0 = some (0, 1, false) ∧ fldT Try.prog 202 1 = some (1, 1, false)) ∧ zT Try.prog 204 = false ∧ szT Try.prog 204 = some (1, false) ∧ arT Try.prog 204 = none) ∧ (Try.prog.concrete 204 = true ∧ zT Try.prog 205 = false ∧
szT Try.prog 205 = some (4, true)) ∧ (arT Try.prog 205 = none ∧ Try.prog.concrete 205 = true) ∧ (Try.prog.underlying 205).isSome = true ∧ elT Try.prog 205 = none) ∧ ((((azT Try.prog 205 = some (4, 1, [.bool false, .int .i64 0, .int .i64 0, .nilFunc]) ∧
zeroT Try.prog 205 = some [.bool false, .int .i64 0, .int .i64 0, .nilFunc] ∧ bT Try.prog 205 = true) ∧ fldT Try.prog 205 0 = some (0, 1, false) ∧ fldT Try.prog 205 1 = some (1, 1, false) ∧ fldT Try.prog 205 2 = some (2, 1, false)) ∧ (fldT Try.prog 205 3 = some (3, 1, false) ∧
zT Try.prog 206 = false ∧ szT Try.prog 206 = some (4, true)) ∧ arT Try.prog 206 = none ∧ Try.prog.concrete 206 = true ∧ (Try.prog.underlying 206).isSome = true) ∧ ((elT Try.prog 206 = none ∧ azT Try.prog 206 = some (4, 1, [.bool false, .int .i64 0, .int .i64 0, .nilFunc]) ∧
zeroT Try.prog 206 = some [.bool false, .int .i64 0, .int .i64 0, .nilFunc]) ∧ bT Try.prog 206 = true ∧ fldT Try.prog 206 0 = some (0, 1, false) ∧ fldT Try.prog 206 1 = some (1, 1, false)) ∧ (fldT Try.prog 206 2 = some (2, 1, false) ∧ fldT Try.prog 206 3 = some (3, 1, false) ∧
zT Try.prog 207 = false) ∧ (szT Try.prog 207 = some (1, false) ∧ arT Try.prog 207 = none) ∧ Try.prog.concrete 207 = true ∧ zT Try.prog 208 = false) ∧ (((szT Try.prog 208 = some (1, false) ∧ arT Try.prog 208 = none ∧ Try.prog.concrete 208 = true) ∧
zT Try.prog 209 = false ∧ szT Try.prog 209 = some (1, false) ∧ arT Try.prog 209 = none) ∧ (Try.prog.concrete 209 = true ∧ zT Try.prog 210 = false ∧ szT Try.prog 210 = some (1, false)) ∧ arT Try.prog 210 = none ∧ Try.prog.concrete 210 = true ∧ zT Try.prog 211 = false) ∧
((szT Try.prog 211 = some (1, false) ∧ arT Try.prog 211 = none ∧ Try.prog.concrete 211 = true) ∧ zT Try.prog 212 = false ∧ szT Try.prog 212 = some (1, false) ∧ arT Try.prog 212 = none) ∧ (Try.prog.concrete 212 = true ∧ zT Try.prog 213 = false ∧
szT Try.prog 213 = some (1, false)) ∧ (arT Try.prog 213 = none ∧ Try.prog.concrete 213 = true) ∧ zT Try.prog 214 = false ∧ szT Try.prog 214 = some (1, false)) ∧ (((((arT Try.prog 214 = none ∧ Try.prog.concrete 214 = true ∧ zT Try.prog 215 = false) ∧
szT Try.prog 215 = some (1, false) ∧ arT Try.prog 215 = none ∧ Try.prog.concrete 215 = true) ∧ (zT Try.prog 216 = false ∧ szT Try.prog 216 = some (5, true) ∧ arT Try.prog 216 = none) ∧ Try.prog.concrete 216 = true ∧ (Try.prog.underlying 216).isSome = true ∧
elT Try.prog 216 = none) ∧ ((azT Try.prog 216 = some (5, 1, [.int .i64 0, .int .i64 0, .int .i64 0, .int .i64 0, .int .i64 0]) ∧ zeroT Try.prog 216 = some [.int .i64 0, .int .i64 0, .int .i64 0, .int .i64 0, .int .i64 0] ∧ bT Try.prog 216 = true) ∧
fldT Try.prog 216 0 = some (0, 5, true) ∧ zT Try.prog 217 = false ∧ szT Try.prog 217 = some (5, true)) ∧ (arT Try.prog 217 = none ∧ Try.prog.concrete 217 = true ∧ (Try.prog.underlying 217).isSome = true) ∧ (elT Try.prog 217 = none ∧ azT Try.prog 217 = some (5, 1, [.int .i64 0, .int .i64 0, .int .i64 0, .int .i64 0, .int .i64 0])) ∧
zeroT Try.prog 217 = some [.int .i64 0, .int .i64 0, .int .i64 0, .int .i64 0, .int .i64 0] ∧ bT Try.prog 217 = true) ∧ (((fldT Try.prog 217 0 = some (0, 5, true) ∧ zT Try.prog 218 = false ∧ szT Try.prog 218 = some (1, false)) ∧ arT Try.prog 218 = none ∧
Try.prog.concrete 218 = true ∧ zT Try.prog 219 = false) ∧ (szT Try.prog 219 = some (1, false) ∧ arT Try.prog 219 = none ∧ Try.prog.concrete 219 = true) ∧ zT Try.prog 220 = false ∧ szT Try.prog 220 = some (1, false) ∧ arT Try.prog 220 = none) ∧
((Try.prog.concrete 220 = true ∧ zT Try.prog 221 = false ∧ szT Try.prog 221 = some (1, false)) ∧ azT Try.prog 221 = some (1, 1, [.pointer none]) ∧ arT Try.prog 221 = none ∧ Try.prog.concrete 221 = true) ∧ (zT Try.prog 222 = false ∧ szT Try.prog 222 = some (1, false) ∧
arT Try.prog 222 = none) ∧ (Try.prog.concrete 222 = true ∧ zT Try.prog 223 = false) ∧ szT Try.prog 223 = some (1, false) ∧ arT Try.prog 223 = none) ∧ ((((Try.prog.concrete 223 = true ∧ (Try.prog.underlying 223).isSome = true ∧ elT Try.prog 223 = some (1, false)) ∧
elB Try.prog 223 = some (1, 16) ∧ bsT Try.prog 223 = some 1 ∧ mkT Try.prog 223 = some (1, 16, [.nilIface])) ∧ (azT Try.prog 223 = some (1, 1, [.slice none 0 0]) ∧ zeroT Try.prog 223 = some [.slice none 0 0] ∧ zT Try.prog 224 = false) ∧ szT Try.prog 224 = some (1, false) ∧
arT Try.prog 224 = none ∧ Try.prog.concrete 224 = true) ∧ ((zT Try.prog 225 = false ∧ szT Try.prog 225 = some (1, false) ∧ arT Try.prog 225 = none) ∧ Try.prog.concrete 225 = true ∧ zT Try.prog 226 = false ∧ szT Try.prog 226 = some (1, false)) ∧
(arT Try.prog 226 = none ∧ Try.prog.concrete 226 = true ∧ zT Try.prog 227 = false) ∧ (szT Try.prog 227 = some (1, false) ∧ arT Try.prog 227 = none) ∧ zT Try.prog 228 = false ∧ szT Try.prog 228 = some (1, false)) ∧ (((arT Try.prog 228 = none ∧ zT Try.prog 229 = false ∧
szT Try.prog 229 = some (1, false)) ∧ arT Try.prog 229 = none ∧ Try.prog.concrete 229 = true ∧ zT Try.prog 230 = false) ∧ (szT Try.prog 230 = some (1, false) ∧ arT Try.prog 230 = none ∧ Try.prog.concrete 230 = true) ∧ (zT Try.prog 231 = false ∧
szT Try.prog 231 = some (1, false)) ∧ arT Try.prog 231 = none ∧ Try.prog.concrete 231 = true) ∧ ((zT Try.prog 232 = false ∧ szT Try.prog 232 = some (1, false) ∧ arT Try.prog 232 = none) ∧ zT Try.prog 233 = false ∧ szT Try.prog 233 = some (1, false) ∧
arT Try.prog 233 = none) ∧ (zT Try.prog 234 = false ∧ szT Try.prog 234 = some (1, false) ∧ arT Try.prog 234 = none) ∧ (Try.prog.concrete 234 = true ∧ zT Try.prog 235 = false) ∧ szT Try.prog 235 = some (1, false) ∧ arT Try.prog 235 = none) ∧ ((((((Try.prog.concrete 235 = true ∧
zT Try.prog 236 = true ∧ szT Try.prog 236 = some (0, true)) ∧ arT Try.prog 236 = none ∧ Try.prog.concrete 236 = true ∧ (Try.prog.underlying 236).isSome = true) ∧ (elT Try.prog 236 = none ∧ azT Try.prog 236 = some (0, 1, []) ∧ zeroT Try.prog 236 = some []) ∧
bT Try.prog 236 = true ∧ zT Try.prog 237 = false ∧ szT Try.prog 237 = some (1, true)) ∧ ((arT Try.prog 237 = none ∧ Try.prog.concrete 237 = true ∧ (Try.prog.underlying 237).isSome = true) ∧ elT Try.prog 237 = none ∧ azT Try.prog 237 = some (1, 1, [.int .u64 0]) ∧
zeroT Try.prog 237 = some [.int .u64 0]) ∧ (bT Try.prog 237 = true ∧ fldT Try.prog 237 0 = some (0, 1, false) ∧ zT Try.prog 238 = false) ∧ (szT Try.prog 238 = some (1, true) ∧ arT Try.prog 238 = none) ∧ Try.prog.concrete 238 = true ∧ (Try.prog.underlying 238).isSome = true) ∧
(((elT Try.prog 238 = none ∧ azT Try.prog 238 = some (1, 1, [.int .u64 0]) ∧ zeroT Try.prog 238 = some [.int .u64 0]) ∧ bT Try.prog 238 = true ∧ fldT Try.prog 238 0 = some (0, 1, false) ∧ zT Try.prog 239 = false) ∧ (szT Try.prog 239 = some (3, true) ∧
arT Try.prog 239 = none ∧ Try.prog.concrete 239 = true) ∧ (Try.prog.underlying 239).isSome = true ∧ elT Try.prog 239 = none ∧ azT Try.prog 239 = some (3, 1, [.int .u64 0, .int .i64 0, .int .i64 0])) ∧ ((zeroT Try.prog 239 = some [.int .u64 0, .int .i64 0, .int .i64 0] ∧
bT Try.prog 239 = true ∧ fldT Try.prog 239 0 = some (0, 1, true)) ∧ fldT Try.prog 239 1 = some (1, 2, true) ∧ zT Try.prog 240 = false ∧ szT Try.prog 240 = some (3, true)) ∧ (arT Try.prog 240 = none ∧ Try.prog.concrete 240 = true ∧ (Try.prog.underlying 240).isSome = true) ∧
(elT Try.prog 240 = none ∧ azT Try.prog 240 = some (3, 1, [.int .u64 0, .int .i64 0, .int .i64 0])) ∧ zeroT Try.prog 240 = some [.int .u64 0, .int .i64 0, .int .i64 0] ∧ bT Try.prog 240 = true) ∧ ((((fldT Try.prog 240 0 = some (0, 1, true) ∧ fldT Try.prog 240 1 = some (1, 2, true) ∧
zT Try.prog 241 = false) ∧ szT Try.prog 241 = some (1, false) ∧ arT Try.prog 241 = none ∧ Try.prog.concrete 241 = true) ∧ (zT Try.prog 242 = false ∧ szT Try.prog 242 = some (1, false) ∧ arT Try.prog 242 = none) ∧ Try.prog.concrete 242 = true ∧
(Try.prog.underlying 242).isSome = true ∧ intT Try.prog 242 = some .i64) ∧ ((elT Try.prog 242 = none ∧ azT Try.prog 242 = some (1, 1, [.int .i64 0]) ∧ zeroT Try.prog 242 = some [.int .i64 0]) ∧ zT Try.prog 244 = false ∧ szT Try.prog 244 = some (1, false) ∧
arT Try.prog 244 = none) ∧ (Try.prog.concrete 244 = true ∧ zT Try.prog 245 = false ∧ szT Try.prog 245 = some (1, false)) ∧ (arT Try.prog 245 = none ∧ Try.prog.concrete 245 = true) ∧ zT Try.prog 246 = false ∧ szT Try.prog 246 = some (1, false)) ∧
(((arT Try.prog 246 = none ∧ Try.prog.concrete 246 = true ∧ zT Try.prog 247 = false) ∧ szT Try.prog 247 = some (1, false) ∧ arT Try.prog 247 = none ∧ Try.prog.concrete 247 = true) ∧ (zT Try.prog 248 = false ∧ szT Try.prog 248 = some (1, false) ∧
arT Try.prog 248 = none) ∧ Try.prog.concrete 248 = true ∧ zT Try.prog 249 = false ∧ szT Try.prog 249 = some (1, false)) ∧ ((arT Try.prog 249 = none ∧ Try.prog.concrete 249 = true ∧ (Try.prog.underlying 249).isSome = true) ∧ intT Try.prog 249 = some .u32 ∧
elT Try.prog 249 = none ∧ azT Try.prog 249 = some (1, 1, [.int .u32 0])) ∧ (zeroT Try.prog 249 = some [.int .u32 0] ∧ zT Try.prog 250 = false ∧ szT Try.prog 250 = some (1, false)) ∧ (arT Try.prog 250 = none ∧ Try.prog.concrete 250 = true) ∧ zT Try.prog 251 = false ∧
szT Try.prog 251 = some (1, false)) ∧ (((((arT Try.prog 251 = none ∧ Try.prog.concrete 251 = true ∧ (Try.prog.underlying 251).isSome = true) ∧ intT Try.prog 251 = some .u64 ∧ elT Try.prog 251 = none ∧ azT Try.prog 251 = some (1, 1, [.int .u64 0])) ∧
(zeroT Try.prog 251 = some [.int .u64 0] ∧ zT Try.prog 252 = false ∧ szT Try.prog 252 = some (1, false)) ∧ arT Try.prog 252 = none ∧ Try.prog.concrete 252 = true ∧ (Try.prog.underlying 252).isSome = true) ∧ ((intT Try.prog 252 = some .u64 ∧ elT Try.prog 252 = none ∧
azT Try.prog 252 = some (1, 1, [.int .u64 0])) ∧ zeroT Try.prog 252 = some [.int .u64 0] ∧ zT Try.prog 253 = false ∧ szT Try.prog 253 = some (1, false)) ∧ (arT Try.prog 253 = none ∧ Try.prog.concrete 253 = true ∧ zT Try.prog 254 = false) ∧ (szT Try.prog 254 = some (1, false) ∧
arT Try.prog 254 = none) ∧ Try.prog.concrete 254 = true ∧ zT Try.prog 255 = false) ∧ (((szT Try.prog 255 = some (1, false) ∧ arT Try.prog 255 = none ∧ Try.prog.concrete 255 = true) ∧ zT Try.prog 256 = false ∧ szT Try.prog 256 = some (1, false) ∧
azT Try.prog 256 = some (1, 1, [.pointer none])) ∧ (arT Try.prog 256 = none ∧ Try.prog.concrete 256 = true ∧ zT Try.prog 257 = false) ∧ szT Try.prog 257 = some (1, false) ∧ arT Try.prog 257 = none ∧ Try.prog.concrete 257 = true) ∧ ((zT Try.prog 258 = false ∧
szT Try.prog 258 = some (1, false) ∧ azT Try.prog 258 = some (1, 1, [.pointer none])) ∧ arT Try.prog 258 = none ∧ Try.prog.concrete 258 = true ∧ zT Try.prog 259 = false) ∧ (szT Try.prog 259 = some (1, false) ∧ arT Try.prog 259 = none ∧ Try.prog.concrete 259 = true) ∧
(zT Try.prog 260 = false ∧ szT Try.prog 260 = some (1, false)) ∧ arT Try.prog 260 = none ∧ Try.prog.concrete 260 = true) ∧ ((((zT Try.prog 266 = false ∧ szT Try.prog 266 = some (1, false) ∧ arT Try.prog 266 = none) ∧ Try.prog.concrete 266 = true ∧
zT Try.prog 269 = false ∧ szT Try.prog 269 = some (1, false)) ∧ (arT Try.prog 269 = none ∧ Try.prog.concrete 269 = true ∧ zT Try.prog 270 = false) ∧ szT Try.prog 270 = some (1, false) ∧ azT Try.prog 270 = some (1, 1, [.pointer none]) ∧ arT Try.prog 270 = none) ∧
((Try.prog.concrete 270 = true ∧ zT Try.prog 275 = false ∧ szT Try.prog 275 = some (1, false)) ∧ arT Try.prog 275 = none ∧ Try.prog.concrete 275 = true ∧ zT Try.prog 276 = false) ∧ (szT Try.prog 276 = some (6, true) ∧ arT Try.prog 276 = none ∧
Try.prog.concrete 276 = true) ∧ ((Try.prog.underlying 276).isSome = true ∧ elT Try.prog 276 = none) ∧ azT Try.prog 276 = some (6, 1, [.int .i64 0, .int .i64 0, .int .i64 0, .int .i64 0, .int .i64 0, .int .i64 0]) ∧ zeroT Try.prog 276 = some [.int .i64 0, .int .i64 0, .int .i64 0, .int .i64 0, .int .i64 0, .int .i64 0]) ∧
(((bT Try.prog 276 = true ∧ fldT Try.prog 276 0 = some (0, 5, true) ∧ fldT Try.prog 276 1 = some (5, 1, false)) ∧ zT Try.prog 277 = false ∧ szT Try.prog 277 = some (6, true) ∧ arT Try.prog 277 = none) ∧ (Try.prog.concrete 277 = true ∧ (Try.prog.underlying 277).isSome = true ∧
elT Try.prog 277 = none) ∧ (azT Try.prog 277 = some (6, 1, [.int .i64 0, .int .i64 0, .int .i64 0, .int .i64 0, .int .i64 0, .int .i64 0]) ∧ zeroT Try.prog 277 = some [.int .i64 0, .int .i64 0, .int .i64 0, .int .i64 0, .int .i64 0, .int .i64 0]) ∧
bT Try.prog 277 = true ∧ fldT Try.prog 277 0 = some (0, 5, true)) ∧ ((fldT Try.prog 277 1 = some (5, 1, false) ∧ zT Try.prog 278 = false ∧ szT Try.prog 278 = some (1, false)) ∧ arT Try.prog 278 = none ∧ Try.prog.concrete 278 = true ∧ zT Try.prog 279 = false) ∧
(szT Try.prog 279 = some (1, false) ∧ arT Try.prog 279 = none ∧ Try.prog.concrete 279 = true) ∧ ((Try.prog.underlying 279).isSome = true ∧ elT Try.prog 279 = none) ∧ azT Try.prog 279 = some (1, 1, [.pointer none]) ∧ zeroT Try.prog 279 = some [.pointer none] := by
 and_intros <;> kernel_rfl

end Go.Proofs.Ytclkjifgipcamaa
end
section
set_option linter.unusedVariables false
set_option linter.unusedSimpArgs false
namespace Go.V
set_option linter.unusedSectionVars false
variable [Inhabited GivT]
theorem mapM_move {α β : Type} {f g : α → Option β} {Q : β → Prop} : ∀ (l : List α) (ys : List β), (∀ x ∈ l, ∀ y, f x = some y → Q y → g x = some y) → l.mapM f = some ys → (∀ y ∈ ys, Q y) → l.mapM g = some ys
 | [], ys, _, h, _ => by simpa using h
 | x :: l, ys, hfg, h, hq => by
   rw [List.mapM_cons] at h ⊢
   simp only [Option.bind_eq_bind, Option.bind_eq_some_iff, Option.pure_def, Option.some.injEq] at h ⊢
   obtain ⟨y, hy, zs, hz, rfl⟩ := h
   exact ⟨y, hfg x (by simp) y hy (hq y (by simp)), zs, mapM_move l zs (fun a ha => hfg a (by simp [ha])) hz (fun a ha => hq a (by simp [ha])), rfl⟩

theorem mapM_get {α β : Type} {f : α → Option β} : ∀ (l : List α) (ys : List β), l.mapM f = some ys → ys.length = l.length ∧ ∀ (i : Nat) (x : α), l[i]? = some x → ∃ y, ys[i]? = some y ∧ f x = some y
 | [], ys, h => by
   simp at h; subst h; simp
 | x :: l, ys, h => by
   rw [List.mapM_cons] at h
   simp only [Option.bind_eq_bind, Option.bind_eq_some_iff, Option.pure_def, Option.some.injEq] at h
   obtain ⟨y, hy, zs, hz, rfl⟩ := h
   obtain ⟨h1, h2⟩ := mapM_get l zs hz
   refine ⟨by simp [h1], fun i a ha => ?_⟩
   cases i with
   | zero => simp at ha; subst ha; exact ⟨y, by simp, hy⟩
   | succ i => simpa using h2 i a (by simpa using ha)

/-- Types of numbers, truths, structs and slices of such. -/
def goodT (P : Program) : Nat → TypeId → Bool
 | 0, _ => false
 | d + 1, t => match P.underlying t with
   | some .bool => true
   | some (.int _) => true
   | some (.struct fs) => fs.toList.all fun f => goodT P d f.type
   | some (.slice e) => decide (0 < P.cellsOf e) && goodT P d e
   | _ => false

theorem cell_move {W W' : World} (hh : ∀ b, b < W.heap.size → W'.heap[b]? = W.heap[b]?) {a : Addr} {v : Value} (h : W.cell? a = some v) : W'.cell? a = some v := by
 unfold World.cell? at h ⊢
 split at h
 ·rename_i c e fz hb
  rw [hh _ (Array.getElem?_eq_some_iff.1 hb).1, hb]
  exact h
 ·cases h

theorem cells_move {W W' : World} (hh : ∀ b, b < W.heap.size → W'.heap[b]? = W.heap[b]?) {base : Nat} {a : Addr} {n : Nat} {vs : List Value} (h : W.cells? base a n = some vs) : W'.cells? base a n = some vs := by
 unfold World.cells? at h ⊢
 split at h
 ·rename_i hb
  rw [if_pos hb]
  exact mapM_move (Q := fun _ => True) _ _ (fun i _ y hy _ => cell_move hh hy) h (fun _ _ => trivial)
 ·cases h

theorem trod_move {H : Type} {enc : TypeId × Value → H} {P : Program} {W W' : World} {held : Bool} (hh : ∀ b, b < W.heap.size → W'.heap[b]? = W.heap[b]?) {sp : Nat → Bool} :
  ∀ (d fuel : Nat) (t : TypeId) (cs : List Value) (x : DataW H × List MemPlace), goodT P d t = true → DataW.trod enc P W 0 (fun _ => true) held fuel t cs = some x → (∀ p ∈ x.2, sp p.block = true) →
    DataW.trod enc P W' 0 sp held fuel t cs = some x := by
 intro d
 induction d with
 | zero => intro fuel t cs x hg; cases hg
 | succ d ih =>
   intro fuel t cs x hg h hs
   cases fuel with
   | zero => cases h
   | succ fuel =>
     unfold goodT at hg
     unfold DataW.trod at h ⊢
     cases hu : P.underlying t with
     | none => rw [hu] at hg; cases hg
     | some td =>
       rw [hu] at hg h
       cases td <;> simp only at hg <;> try (exact absurd hg Bool.false_ne_true)
       case bool =>
        split at h <;> simp_all
       case int k =>
        split at h <;> simp_all
       case struct fs =>
        split at h <;> try (simp_all; done)
        case _ fs' heq =>
         simp only [Option.some.injEq, TypeDesc.struct.injEq] at heq
         subst heq
         split at h
         case isTrue hl =>
          rw [if_pos hl]
          rw [Option.map_eq_some_iff] at h ⊢
          obtain ⟨ys, hy, rfl⟩ := h
          refine ⟨ys, ?_, rfl⟩
          refine mapM_move (Q := fun y => ∀ p ∈ y.2, sp p.block = true) _ _ (fun f hf y hy hq => ?_) hy (fun y hy p hp => hs p (List.mem_flatMap.2 ⟨y, hy, hp⟩))
          exact ih fuel f.type _ y (List.all_eq_true.1 hg f hf) hy hq
         case isFalse hl => cases h
       case slice e =>
        simp only [Bool.and_eq_true, decide_eq_true_eq] at hg
        obtain ⟨hpos, hg⟩ := hg
        split at h <;> try (simp_all; done)
        case _ e' a len cap heq =>
         simp only [Option.some.injEq, TypeDesc.slice.injEq] at heq
         subst heq
         have hel : ∀ i y, (W.cells? 0 (a.add (i * P.cellsOf e)) (P.cellsOf e)).bind (DataW.trod enc P W 0 (fun _ => true) held fuel e) = some y → (∀ p ∈ y.2, sp p.block = true) →
           (W'.cells? 0 (a.add (i * P.cellsOf e)) (P.cellsOf e)).bind (DataW.trod enc P W' 0 sp held fuel e) = some y := by
          intro i y hy hq
          rw [Option.bind_eq_some_iff] at hy ⊢
          obtain ⟨c, h1, h2⟩ := hy
          exact ⟨c, cells_move hh h1, ih fuel e c y hg h2 hq⟩
         simp only at h ⊢
         split at h
         case isFalse hl => cases h
         case isTrue hl =>
          rw [if_pos hl]
          rw [Option.bind_eq_some_iff] at h ⊢
          obtain ⟨es, he, h⟩ := h
          rw [if_pos trivial, Option.map_eq_some_iff] at h
          obtain ⟨rs, hr, rfl⟩ := h
          have hs2 : ∀ y ∈ es ++ rs, ∀ p ∈ y.2, sp p.block = true := fun y hy p hp => hs p (List.mem_append.2 (.inr (List.mem_flatMap.2 ⟨y, hy, hp⟩)))
          refine ⟨es, mapM_move (Q := fun y => ∀ p ∈ y.2, sp p.block = true) _ _ (fun i _ y hy hq => hel i y hy hq) he (fun y hy => hs2 y (by simp [hy])), ?_⟩
          rw [Option.map_eq_some_iff]
          refine ⟨rs, ?_, rfl⟩
          have hrl := (mapM_get _ _ hr).1
          by_cases hz : es.length + rs.length = 0
          ·have : rs = [] := List.eq_nil_of_length_eq_zero (by omega)
           subst this
           have hc : cap - len = 0 := by simpa using hrl.symm
           split
           ·rw [hc]; rfl
           ·rfl
          ·have hsp : sp a.block = true := by
            refine hs (.cell a.block (a.off + 0)) (List.mem_append.2 (.inl ?_))
            unfold MemPlace.row
            refine List.mem_map.2 ⟨0, List.mem_range.2 ?_, rfl⟩
            exact Nat.mul_pos (by omega) hpos
           rw [if_pos hsp]
           exact mapM_move (Q := fun y => ∀ p ∈ y.2, sp p.block = true) _ _ (fun j _ y hy hq => hel _ y hy hq) hr (fun y hy => hs2 y (by simp [hy]))

theorem trodAll_move {H : Type} {enc : TypeId × Value → H} {P : Program} {W W' : World} {held : Bool} (hh : ∀ b, b < W.heap.size → W'.heap[b]? = W.heap[b]?) {sp : Nat → Bool} (d : Nat) :
  ∀ (ts : List TypeId) (vs : List Value) (ds : List (DataW H)) (ps : List MemPlace), (∀ t ∈ ts, goodT P d t = true) → DataW.TrodAll enc P W 0 (fun _ => true) held ts vs ds ps → (∀ p ∈ ps, sp p.block = true) →
    DataW.TrodAll enc P W' 0 sp held ts vs ds ps
 | [], [], [], ps, _, h, _ => h
 | t :: ts, v :: vs, x :: ds, ps, hg, h, hs => by
   obtain ⟨p, q, ⟨fuel, h1⟩, h2, rfl⟩ := h
   exact ⟨p, q, ⟨fuel, trod_move hh d fuel t _ (x, p) (hg t (by simp)) h1 (fun z hz => hs z (by simp [hz]))⟩, trodAll_move hh d ts vs ds q (fun u hu => hg u (by simp [hu])) h2 (fun z hz => hs z (by simp [hz])), rfl⟩
 | [], _ :: _, _, _, _, h, _ => h.elim
 | [], [], _ :: _, _, _, h, _ => h.elim
 | _ :: _, [], _, _, _, h, _ => h.elim
 | _ :: _, _ :: _, [], _, _, h, _ => h.elim

/-- The state in which a call begins: all memory that is there is never written. -/
def st0 (W : World) : St := { w := W, imm := fun b => b < W.heap.size, loc := fun _ _ => .unk, next := 0 }
def H0 : Hp := fun _ => none
theorem st0_rel (W : World) (hg : ∀ p ∈ (default : GivT).l, VRel (st0 W) p.1 p.2) : HRel (st0 W) H0 := ⟨fun i _ => ⟨rfl, fun _ => rfl⟩, fun b h => h, fun i o h => (by cases h), fun i j o o' b h => (by cases h), hg⟩

inductive LitK where
 | int (k : IntKind)
 | bool
 deriving DecidableEq

def LitK.ok : LitK → Value → Prop
 | .int k, v => ∃ n, v = .int k n ∧ (Lit.int k n).wf = true
 | .bool, v => ∃ b, v = .bool b

/-- A type whose values are so many numbers and truths. -/
def litsT (P : Program) : Nat → TypeId → Option (List LitK)
 | 0, _ => none
 | d + 1, t => match P.underlying t with
   | some .bool => some [.bool]
   | some (.int k) => some [.int k]
   | some (.struct fs) => match fs.toList.foldl (fun acc f => match acc with
     | some ks => match litsT P d f.type with
       | some l => if f.offset = ks.length ∧ P.cellsOf f.type = l.length then some (ks ++ l) else none
       | none => none
     | none => none) (some []) with
     | some ks => if P.cellsOf t = ks.length then some ks else none
     | none => none
   | _ => none

def LitsOk (ks : List LitK) (cs : List Value) : Prop := cs.length = ks.length ∧ ∀ (i : Nat) (k : LitK) (v : Value), ks[i]? = some k → cs[i]? = some v → k.ok v

theorem LitsOk.append {ks ls : List LitK} {cs ds : List Value} (h : LitsOk ks cs) (h' : LitsOk ls ds) : LitsOk (ks ++ ls) (cs ++ ds) := by
 refine ⟨by simp [h.1, h'.1], fun i k v hk hv => ?_⟩
 by_cases hi : i < ks.length
 ·rw [List.getElem?_append_left hi] at hk
  rw [List.getElem?_append_left (by rw [h.1]; exact hi)] at hv
  exact h.2 i k v hk hv
 ·rw [List.getElem?_append_right (by omega)] at hk
  rw [List.getElem?_append_right (by rw [h.1]; omega), h.1] at hv
  exact h'.2 _ k v hk hv

theorem trod_lits {H : Type} {enc : TypeId × Value → H} {P : Program} {W : World} {held : Bool} {sp : Nat → Bool} :
  ∀ (d fuel : Nat) (t : TypeId) (cs : List Value) (x : DataW H × List MemPlace) (ks : List LitK), litsT P d t = some ks → DataW.trod enc P W 0 sp held fuel t cs = some x → LitsOk ks cs := by
 intro d
 induction d with
 | zero => intro fuel t cs x ks hg; cases hg
 | succ d ih =>
   intro fuel t cs x ks hg h
   cases fuel with
   | zero => cases h
   | succ fuel =>
     unfold litsT at hg
     unfold DataW.trod at h
     cases hu : P.underlying t with
     | none => rw [hu] at hg; cases hg
     | some td =>
       rw [hu] at hg h
       cases td <;> simp only at hg <;> try (cases hg; done)
       case bool =>
        cases hg
        split at h <;> simp_all
        rename_i b
        exact ⟨rfl, fun i k v hk hv => by cases i <;> simp at hk hv; subst hk hv; exact ⟨_, rfl⟩⟩
       case int k =>
        cases hg
        split at h <;> simp_all
        rename_i n hh
        exact ⟨rfl, fun i k v hk hv => by cases i <;> simp at hk hv; subst hk hv; exact ⟨_, rfl, h.1.2⟩⟩
       case struct fs =>
        split at h <;> try (simp_all; done)
        case _ fs' heq =>
         simp only [Option.some.injEq, TypeDesc.struct.injEq] at heq
         subst heq
         split at h
         case isFalse hl => cases h
         case isTrue hl =>
          rw [Option.map_eq_some_iff] at h
          obtain ⟨ys, hy, rfl⟩ := h
          have key : ∀ (c : List Value) (l : List Field) (acc ks : List LitK), (∀ f ∈ l, ∃ y, DataW.trod enc P W 0 sp held fuel f.type ((c.drop f.offset).take (P.cellsOf f.type)) = some y) → LitsOk acc (c.take acc.length) →
            l.foldl (fun acc f => match acc with
             | some ks => match litsT P d f.type with
               | some l => if f.offset = ks.length ∧ P.cellsOf f.type = l.length then some (ks ++ l) else none
               | none => none
             | none => none) (some acc) = some ks → LitsOk ks (c.take ks.length) := by
           intro c l
           induction l with
           | nil => intro acc ks _ ha he; simp at he; subst he; exact ha
           | cons f l ih2 =>
             intro acc ks hf ha he
             simp only [List.foldl_cons] at he
             have hnone : ∀ l : List Field, l.foldl (fun acc f => match acc with
              | some ks => match litsT P d f.type with
                | some l => if f.offset = ks.length ∧ P.cellsOf f.type = l.length then some (ks ++ l) else none
                | none => none
              | none => none) none = (none : Option (List LitK)) := by
              intro l; induction l with
              | nil => rfl
              | cons a l ih => simpa using ih
             cases hl2 : litsT P d f.type with
             | none => rw [hl2] at he; simp only at he; rw [hnone] at he; cases he
             | some lk =>
               rw [hl2] at he
               simp only at he
               by_cases hc : f.offset = acc.length ∧ P.cellsOf f.type = lk.length
               ·rw [if_pos hc] at he
                obtain ⟨y, hy⟩ := hf f (by simp)
                have := ih fuel f.type _ y lk hl2 hy
                rw [hc.1, hc.2] at this
                have hap := ha.append this
                refine ih2 (acc ++ lk) ks (fun g hg => hf g (by simp [hg])) ?_ he
                rw [List.length_append, List.take_add]
                exact hap
               ·rw [if_neg hc, hnone] at he; cases he
          split at hg
          case h_2 => cases hg
          case h_1 ks' he =>
           split at hg
           case isFalse => cases hg
           case isTrue hc =>
            cases hg
            have := key _ fs.toList [] ks (fun f hf => by
             obtain ⟨i, hi⟩ := List.getElem?_of_mem hf
             obtain ⟨y, _, h2⟩ := (mapM_get _ _ hy).2 i f hi
             exact ⟨y, h2⟩) ⟨by simp, fun i k v hk => by simp at hk⟩ he
            rw [List.take_of_length_le (by rw [hl, hc]; exact Nat.le_refl _)] at this
            exact this

end Go.V
end
section
set_option linter.unusedVariables false
set_option linter.unusedSimpArgs false
namespace Go.V
set_option linter.unusedSectionVars false
variable [Inhabited GivT]
theorem trod_slice_rel {H : Type} {enc : TypeId × Value → H} {P : Program} {W : World} {held : Bool} {sp : Nat → Bool} {d fuel : Nat} {t e : TypeId} {v : Value} {x : DataW H × List MemPlace} {ks : List LitK}
  (ht : P.underlying t = some (.slice e)) (hk : litsT P d e = some ks) (hsz : P.cellsOf e = ks.length) (hpos : 0 < ks.length) (h : DataW.trod enc P W 0 sp held fuel t [v] = some x) :
  ∃ (n : Nat) (g : Nat → List Value), n ≤ maxLen ∧ (∀ i, i < n → LitsOk ks (g i)) ∧ VRel (st0 W) (.rsl n ks.length (fun i => (g i).map AV.lit)) v := by
 cases fuel with
 | zero => cases h
 | succ fuel =>
   unfold DataW.trod at h
   rw [ht] at h
   split at h <;> try (simp_all; done)
   ·rename_i heq heq2
    simp only [List.cons.injEq, and_true] at heq2
    subst heq2
    exact ⟨0, fun _ => [], Nat.zero_le _, fun i hi => by omega, .rsl0⟩
   ·rename_i e' a len cap heq heq2
    simp only [Option.some.injEq, TypeDesc.slice.injEq] at heq
    simp only [List.cons.injEq, and_true] at heq2
    subst heq heq2
    simp only at h
    split at h
    case isFalse hl => cases h
    case isTrue hl =>
     rw [Option.bind_eq_some_iff] at h
     obtain ⟨es, he, -⟩ := h
     let g : Nat → List Value := fun i => match W.cells? 0 (a.add (i * P.cellsOf e)) (P.cellsOf e) with
      | some c => c
      | none => []
     have hel : ∀ i, i < len → W.cells? 0 (a.add (i * P.cellsOf e)) (P.cellsOf e) = some (g i) ∧ LitsOk ks (g i) := by
      intro i hi
      obtain ⟨y, _, hy⟩ := (mapM_get _ _ he).2 i i (by simp [hi])
      rw [Option.bind_eq_some_iff] at hy
      obtain ⟨c, h1, h2⟩ := hy
      have : g i = c := by simp only [g, h1]
      rw [this]
      exact ⟨h1, trod_lits d fuel _ c y ks hk h2⟩
     refine ⟨len, g, Nat.le_trans hl.2.1 hl.2.2, fun i hi => (hel i hi).2, ?_⟩
     by_cases h0 : len = 0
     ·subst h0; exact .rsl0
     have hcell : ∀ i j, i < len → j < ks.length → ∃ u, (g i)[j]? = some u ∧ W.cell? ((a.add (i * P.cellsOf e)).add j) = some u := by
      intro i j hi hj
      have h1 := (hel i hi).1
      unfold World.cells? at h1
      rw [if_pos (Nat.zero_le _)] at h1
      exact (mapM_get _ _ h1).2 j j (by simp [hsz, hj])
     obtain ⟨b, off, spot⟩ := a
     obtain ⟨u0, _, hc0⟩ := hcell 0 0 (by omega) hpos
     rw [show ((⟨b, off, spot⟩ : Addr).add (0 * P.cellsOf e)).add 0 = ⟨b, off, spot⟩ from by simp [Addr.add]] at hc0
     unfold World.cell? at hc0
     split at hc0
     case h_2 => cases hc0
     case h_1 c ct fz hb =>
      have hspot : spot = none := by
       cases spot with
       | none => rfl
       | some s => simp at hc0
      subst hspot
      have hadd : ∀ i j, (((⟨b, off, none⟩ : Addr).add (i * P.cellsOf e)).add j) = ⟨b, off + i * P.cellsOf e + j, none⟩ := fun i j => by rw [addr_add, addr_add]
      have hall : ∀ i j, i < len → j < ks.length → ∃ u, (g i)[j]? = some u ∧ c[off + i * ks.length + j]? = some u := by
       intro i j hi hj
       obtain ⟨u, h1, h2⟩ := hcell i j hi hj
       rw [hadd] at h2
       unfold World.cell? at h2
       simp only at hb
       rw [show W.heap[(⟨b, off + i * P.cellsOf e + j, none⟩ : Addr).block]? = some (.cells c ct fz) from hb] at h2
       simp only [Option.isSome_none, Bool.false_eq_true, if_false, hsz] at h2
       exact ⟨u, h1, h2⟩
      refine .rsl (c := c) (e := ct) (fz := fz) ?_ hb ?_ (fun i hi => by simpa using (hel i hi).2.1) (fun i j hi hj => ?_) hl.2.1
      ·exact (Array.getElem?_eq_some_iff.1 hb).1
      ·obtain ⟨u, _, h2⟩ := hall (len - 1) (ks.length - 1) (by omega) (by omega)
       have := (Array.getElem?_eq_some_iff.1 h2).1
       have e1 : len * ks.length = (len - 1) * ks.length + ks.length := by
        obtain ⟨q, rfl⟩ : ∃ q, len = q + 1 := ⟨len - 1, by omega⟩
        rw [Nat.add_sub_cancel, Nat.succ_mul]
       omega
      ·obtain ⟨u, h1, h2⟩ := hall i j hi hj
       rw [List.getD_eq_getElem?_getD, List.getElem?_map, h1, Array.getD_eq_getD_getElem?, h2]
       exact .lit _

end Go.V
end
section
set_option linter.unusedVariables false
set_option linter.unusedSimpArgs false
namespace Go.V
set_option linter.unusedSectionVars false
variable [Inhabited GivT]
open Go.ChangeShapes Go.WideShapes
theorem law_post {H : Type} {enc : TypeId × Value → H} {P : Program} {f : Func} {s : ChangeSpec} {apart fresh handsOn again : Bool} {W W' : World} {args : Array Value} {ds gs : List (DataW H)} {before : List MemPlace} {tb : TypeId} {d : Nat}
  (hv0 : s.vars = []) (hrt : f.resultTypes = #[tb]) (hb : P.underlying tb = some .bool) (hgood : ∀ t ∈ f.params.toList, goodT P d t = true)
  (hW : DataW.Whole enc P f.params.toList s.vars apart W args.toList ds gs before)
  (hfn : s.fn H (ds ++ gs) = { results := [.lit (.bool true)], args := ds })
  (hh : ∀ b, b < W.heap.size → W'.heap[b]? = W.heap[b]?) (hos : W'.os = W.os) (hout : W'.output = W.output) : s.post enc P f apart fresh handsOn again W args (.bool true) W' := by
 have hW' := hW
 obtain ⟨p, q, hA, hV, rfl, hz, hn⟩ := hW
 rw [hv0] at hV
 have hgq : gs = [] ∧ q = [] := by
  cases gs with
  | nil => exact ⟨rfl, hV⟩
  | cons _ _ => exact hV.elim
 obtain ⟨rfl, rfl⟩ := hgq
 have hlt : ∀ z ∈ p ++ [], z.block < W.heap.size := fun z hz => hW'.lt z hz
 have hold : ∀ z ∈ p, (fun b => decide (b < W.heap.size)) z.block = true := fun z hz => by simpa using hlt z (by simpa using hz)
 have hres : ∀ (b : Nat) (sp : Nat → Bool) (hd : Bool), DataW.TrodAll enc P W' b sp hd f.resultTypes.toList ((Value.bool true).resultList f.resultTypes.size) (s.fn H (ds ++ [])).results [] := by
  intro b sp hd
  rw [hfn, hrt]
  exact ⟨[], [], ⟨1, by simp [DataW.trod, hb, Value.cells]⟩, rfl, rfl⟩
 have hargs : ∀ sp : Nat → Bool, (∀ z ∈ p, sp z.block = true) → DataW.TrodAll enc P W' 0 sp true f.params.toList args.toList (s.fn H (ds ++ [])).args p := by
  intro sp hs
  rw [hfn]
  exact trodAll_move hh d _ _ _ _ hgood hA hs
 refine ⟨ds, [], p ++ [], [], p, [], hW', hres _ _ _, hargs _ hold, ?_, ⟨hos, hout, fun i hi => ?_⟩, fun _ => ?_⟩
 ·rw [hv0, hfn]; exact rfl
 ·rw [hh i hi]
  cases W.heap[i]? with
  | none => rfl
  | some o => cases o <;> first | exact ⟨rfl, rfl, rfl, fun _ _ => rfl⟩ | exact .inr ⟨rfl, rfl⟩ | rfl
 ·refine ⟨fun j t r h1 h2 => ?_, _, [], ([] ++ p) ++ [], ⟨[] ++ p, [], trodAll_append (hargs _ (fun _ _ => rfl)) (hres _ _ _), ?_, rfl, ?_, ?_⟩, ?_⟩
  ·rw [hrt] at h1 h2
   have hj : j = 0 := by
    have := (Array.getElem?_eq_some_iff.1 h1).1
    simp at this; omega
   subst hj
   simp [Value.resultList] at h1 h2
   subst h1 h2
   simp [Value.okWide, hb, Cell.okWide, Cell.ok]
  ·rw [hv0]; exact rfl
  ·intro b off hm
   have hm' : MemPlace.cell b off ∈ p ++ [] := by simpa using hm
   have := hz b off hm'
   have hb' : b < W.heap.size := hlt _ hm'
   unfold World.frozen? at this ⊢
   simp only [hh b hb']
   exact this
  ·intro ha
   have := hn ha
   simpa using this
  ·intro z hz _
   simpa using hz

end Go.V
end
section
set_option linter.unusedVariables false
set_option linter.unusedSimpArgs false
namespace Go.V
set_option linter.unusedSectionVars false
variable [Inhabited GivT]
theorem law_calls {P : Program} {f : FuncId} {fn : Func} {c : Code} {W : World} {args : Array Value} {avs : List AV} (hf : P.funcs[f]? = some fn) (hname : (fn.name == "runtime.NumGoroutine") = false) (hb : fn.body = some c)
  (hT : Tri P (.func (.func f) [] []) avs H0 fun r _ => r = .ret (.lit (.bool true))) (hg : ∀ p ∈ (default : GivT).l, VRel (st0 W) p.1 p.2) (ha : VRels (st0 W) avs args.toList) :
  Calls P f args W fun e W' => e = .returned (.bool true) ∧ (∀ b, b < W.heap.size → W'.heap[b]? = W.heap[b]?) ∧ W'.os = W.os ∧ W'.output = W.output := by
 obtain ⟨nx, h1, h2⟩ := hT (st0 W) (.func (.func f) #[] #[]) args.toList (st0_rel W hg) (.func rfl rfl (fun k hk => absurd hk (by simp)) (fun k hk => absurd hk (by simp))) ha
 have hcf : (callFunc f args).run P W = .ok (.enter f args) W := by
  simp only [callFunc, Sem.run_bind, run_program, Result.andThen_ok, hf, hname, hb]
  simp
 simp only [Deferred.ofValue, Sem.run_bind, Sem.run_pure, Result.andThen_ok, invoke] at h1
 have e : (#[] : Array Value) ++ args.toList.toArray ++ #[] = args := by simp
 rw [e] at h1
 have h1' : (callFunc f args).run P W = .ok nx W := h1
 rw [hcf] at h1'
 injection h1' with h1' _
 subst h1'
 refine Calls.mono h2 ?_
 rintro e w ⟨S', r, H', rfl, hle, hH', hrr, hr⟩
 subst hr
 refine ⟨?_, fun b hb => hle.keep b hb, hle.os, hle.output⟩
 cases e with
 | returned v => rw [VRel.lit_inv hrr]
 | panicked ch => exact hrr.elim
 | outgrown => exact hrr.elim

end Go.V
end
section
set_option linter.unusedVariables false
set_option linter.unusedSimpArgs false
namespace Go.V
set_option linter.unusedSectionVars false
variable [Inhabited GivT]
open Go.ChangeShapes
def st2 (P : Program) (t a oa b ob : Nat) : Bool := match P.underlying t with
 | some (.struct fs) => (match fs.toList with
   | [f0, f1] => f0.type == a && f0.offset == oa && f1.type == b && f1.offset == ob
   | _ => false)
 | _ => false
end Go.V
end
section
set_option linter.unusedVariables false
namespace Go.V
set_option linter.unusedSectionVars false
variable [Inhabited GivT]
theorem frz_step {S : St} {H : Hp} {id st n : Nat} {f : Nat → List AV} (hH : HRel S H) (ho : H id = some (.row st n f)) :
  ∃ S2, S2.w = S.w ∧ Le S S2 ∧ HRel S2 (H.del id) ∧ ∀ v, VRel S (.sl id st n) v → VRel S2 (.rsl n st f) v := by
 obtain ⟨hg, hcase⟩ := hH.obj id _ ho
 rcases hcase with ⟨rfl, hnil⟩ | ⟨b, c, e, hl, hb, hni, hc⟩
 ·refine ⟨S, rfl, Le.refl S, hH.sub ?_, ?_⟩
  ·intro j o' hj
   by_cases ej : j = id
   ·simp [Hp.del, ej] at hj
   ·exact ⟨o', by rw [Hp.del_ne _ ej] at hj; exact hj, .refl _⟩
  ·intro v this
   cases this with
   | sl hl => rw [hnil] at hl; cases hl
   | slnil _ => exact .rsl0
 ·have hle := S.frz_le b
  refine ⟨S.frz b, rfl, hle, ?_, ?_⟩
  ·refine ⟨fun i hi => ⟨?_, (hH.fresh i hi).2⟩, ?_, ?_, ?_, fun p hp => (hH.giv p hp).mono hle⟩
   ·simp only [Hp.del]; split
    ·rfl
    ·exact (hH.fresh i hi).1
   ·rintro x (hx | rfl)
    ·exact hH.immlt x hx
    ·exact (Array.getElem?_eq_some_iff.1 hb).1
   ·intro i o hi
    have ne : i ≠ id := by intro e; simp [Hp.del, e] at hi
    rw [Hp.del_ne _ ne] at hi
    have old := hH.obj i o hi
    have hne : ∀ x, S.loc i o.gen = .blk x → x ≠ b := fun x hx e => ne (hH.inj i id o _ x hi ho hx (by subst e; exact hl))
    cases o with
    | box st' n' f' =>
      obtain ⟨b', c', e', h1, h2, h3, h4⟩ := old
      exact ⟨b', c', e', h1, h2, fun hx => hx.elim h3 (hne b' h1), h4.1, h4.2.1, fun i j hi hj => (h4.2.2 i j hi hj).mono hle⟩
    | row st' n' f' =>
      obtain ⟨g1, old⟩ := old
      refine ⟨g1, old.imp (fun x => x) ?_⟩
      rintro ⟨b', c', e', h1, h2, h3, h4⟩
      exact ⟨b', c', e', h1, h2, fun hx => hx.elim h3 (hne b' h1), h4.1, h4.2.1, fun i j hi hj => (h4.2.2 i j hi hj).mono hle⟩
    | memo F =>
      obtain ⟨b', es, k, h1, h2, h3, h4⟩ := old
      exact ⟨b', es, k, h1, h2, fun hx => hx.elim h3 (hne b' h1), h4⟩
    | raw o =>
      obtain ⟨b', h1, h2, h3, h4⟩ := old
      exact ⟨b', h1, h2, h3, fun hx => hx.elim h4 (hne b' h1)⟩
    | iter mid since seen c0 =>
      obtain ⟨r', b', h1, h2, h3, h4⟩ := old
      exact ⟨r', b', h1, h2, h3, fun hx => hx.elim h4 (hne r' h1)⟩
    | loop l n s ps assign body st pend did =>
      obtain ⟨h1, h2, fn, tmps, D, h3, h4, h5, h6⟩ := old
      exact ⟨h1, fun hx => hx.elim h2 (hne l h1), fn, tmps, D, h3, h4, h5.mono hle, h6⟩
   ·intro i j o o' x hi hj
    have ne : i ≠ id := by intro e; simp [Hp.del, e] at hi
    have ne' : j ≠ id := by intro e; simp [Hp.del, e] at hj
    rw [Hp.del_ne _ ne] at hi
    rw [Hp.del_ne _ ne'] at hj
    exact hH.inj i j o o' x hi hj
  ·intro v this
   cases this with
   | sl hl' hb' _ hlen' =>
     rw [hl] at hl'; cases hl'
     exact .rsl (off := 0) (.inr rfl) hb (by rw [Nat.zero_add]; exact hc.1) hc.2.1 (fun i j hi hj => by rw [Nat.zero_add]; exact (hc.2.2 i j hi hj).mono hle) hlen'
   | slnil hl' => rw [hl] at hl'; cases hl'

/-- What is frozen: the row's slices become its data. -/
def Frz (id st n : Nat) (f : Nat → List AV) (x y : AV) : Prop := y = x ∨ (x = .sl id st n ∧ y = .rsl n st f)
theorem Frz.rfl {id st n : Nat} {f : Nat → List AV} {x : AV} : Frz id st n f x x := .inl (Eq.refl x)
theorem Frz.hit {id st n : Nat} {f : Nat → List AV} : Frz id st n f (.sl id st n) (.rsl n st f) := .inr ⟨Eq.refl _, Eq.refl _⟩

/-- A row that is written no more, of which a box tells. -/
theorem Ent.freezeBox {s s' : Fr} {ds : List AD} {H : Hp} {K : Fr → List AD → Hp → Prop} {id st n j st' n' : Nat} {f g g' : Nat → List AV} (ho : H id = some (.row st n f)) (hj : H j = some (.box st' n' g))
  (hs : ∀ t, Frz id st n f (s t) (s' t)) (hl : ∀ k, k < n' → (g' k).length = st') (hg : ∀ k c, k < n' → c < st' → Frz id st n f ((g k).getD c .any) ((g' k).getD c .any))
  (h : K s' ds ((H.del id).set j (.box st' n' g'))) : Ent s ds H K := by
 intro S a hH hF hD
 obtain ⟨S2, hw, hle, h2, hc⟩ := frz_step hH ho
 have hne : j ≠ id := fun e => by rw [e, ho] at hj; cases hj
 have conv : ∀ x y v, Frz id st n f x y → VRel S x v → VRel S2 y v := fun x y v hxy hv => by
  rcases hxy with rfl | ⟨rfl, rfl⟩
  ·exact hv.mono hle
  ·exact hc v hv
 have hj2 : (H.del id) j = some (.box st' n' g) := by rw [Hp.del_ne _ hne]; exact hj
 refine ⟨S2, s', ds, _, hw, hle, ?_, fun t => conv _ _ _ (hs t) (hF t), hD.mono hle, h⟩
 obtain ⟨b, c, e, a1, a2, a3, a4⟩ := hH.obj j _ hj
 obtain ⟨b2, c2, e2, q1, q2, q3, q4⟩ := h2.obj j _ hj2
 have eb : b2 = b := by
  have := hle.locBlk a1
  rw [this] at q1
  cases q1; rfl
 subst eb
 rw [hw, a2] at q2
 cases q2
 refine ⟨fun i hi => ⟨?_, (h2.fresh i hi).2⟩, h2.immlt, ?_, ?_, h2.giv⟩
 ·have hi' := (h2.fresh i hi).1
  by_cases ei : i = j
  ·subst ei; rw [hj2] at hi'; cases hi'
  ·rw [Hp.set_ne _ _ ei]; exact hi'
 ·intro i o hi
  by_cases ei : i = j
  ·subst ei
   rw [Hp.set_same] at hi
   cases hi
   exact ⟨b2, c, e, q1, by rw [hw]; exact a2, q3, a4.1, hl, fun k d hk hd => conv _ _ _ (hg k d hk hd) (a4.2.2 k d hk hd)⟩
  ·rw [Hp.set_ne _ _ ei] at hi
   exact h2.obj i o hi
 ·intro i i' o o' x hi hi' hx hx'
  have back : ∀ k o, ((H.del id).set j (.box st' n' g')) k = some o → ∃ p, (H.del id) k = some p ∧ p.gen = o.gen := fun k o hk => by
   by_cases ek : k = j
   ·subst ek
    rw [Hp.set_same] at hk
    cases hk
    exact ⟨_, hj2, Eq.refl _⟩
   ·rw [Hp.set_ne _ _ ek] at hk
    exact ⟨o, hk, Eq.refl _⟩
  obtain ⟨p, p1, p2⟩ := back i o hi
  obtain ⟨p', p1', p2'⟩ := back i' o' hi'
  exact h2.inj i i' p p' x p1 p1' (by rw [p2]; exact hx) (by rw [p2']; exact hx')

end Go.V
end
section
set_option linter.unusedVariables false
namespace Go.V
set_option linter.unusedSectionVars false
variable [Inhabited GivT]
theorem HRel.boxUpd {S : St} {H : Hp} {j st n : Nat} {g g' : Nat → List AV} (hH : HRel S H) (hj : H j = some (.box st n g)) (hl : ∀ k, k < n → (g' k).length = st)
  (hg : ∀ k d v, k < n → d < st → VRel S ((g k).getD d .any) v → VRel S ((g' k).getD d .any) v) : HRel S (H.set j (.box st n g')) := by
 obtain ⟨b, c, e, q1, q2, q3, q4⟩ := hH.obj j _ hj
 refine ⟨fun i hi => ⟨?_, (hH.fresh i hi).2⟩, hH.immlt, ?_, ?_, hH.giv⟩
 ·have hi' := (hH.fresh i hi).1
  by_cases ei : i = j
  ·subst ei; rw [hj] at hi'; cases hi'
  ·rw [Hp.set_ne _ _ ei]; exact hi'
 ·intro i o hi
  by_cases ei : i = j
  ·subst ei
   rw [Hp.set_same] at hi
   cases hi
   exact ⟨b, c, e, q1, q2, q3, q4.1, hl, fun k d hk hd => hg k d _ hk hd (q4.2.2 k d hk hd)⟩
  ·rw [Hp.set_ne _ _ ei] at hi
   exact hH.obj i o hi
 ·intro i i' o o' x hi hi' hx hx'
  have back : ∀ k o, (H.set j (.box st n g')) k = some o → ∃ p, H k = some p ∧ p.gen = o.gen := fun k o hk => by
   by_cases ek : k = j
   ·subst ek
    rw [Hp.set_same] at hk
    cases hk
    exact ⟨_, hj, Eq.refl _⟩
   ·rw [Hp.set_ne _ _ ek] at hk
    exact ⟨o, hk, Eq.refl _⟩
  obtain ⟨p, p1, p2⟩ := back i o hi
  obtain ⟨p', p1', p2'⟩ := back i' o' hi'
  exact hH.inj i i' p p' x p1 p1' (by rw [p2]; exact hx) (by rw [p2']; exact hx')

/-- Nil becomes a row of none. -/
def Nld (id st : Nat) (x y : AV) : Prop := y = x ∨ (x = .lit (.slice none 0 0) ∧ y = .sl id st 0)
theorem Nld.rfl {id st : Nat} {x : AV} : Nld id st x x := .inl (Eq.refl x)
theorem Nld.hit {id st : Nat} : Nld id st (.lit (.slice none 0 0)) (.sl id st 0) := .inr ⟨Eq.refl _, Eq.refl _⟩

theorem Ent.nilBox {s : Fr} {ds : List AD} {H : Hp} {K : Fr → List AD → Hp → Prop} {j st' n' : Nat} {g : Nat → List AV} (st : Nat) (f : Nat → List AV) (g' : Nat → Nat → List AV) (hj : H j = some (.box st' n' g))
  (hl : ∀ id k, k < n' → (g' id k).length = st') (hg : ∀ id k c, k < n' → c < st' → Nld id st ((g k).getD c .any) ((g' id k).getD c .any))
  (h : ∀ id, H id = none → K s ds ((H.set id (.row st 0 f)).set j (.box st' n' (g' id)))) : Ent s ds H K := by
 intro S a hH hF hD
 have hnone := St.next_none hH
 have hle := S.layNil_le hH
 have hne : j ≠ S.next := fun e => by rw [← e, hj] at hnone; cases hnone
 have h2 := hH.layNil st f
 have hj2 : (H.set S.next (.row st 0 f)) j = some (.box st' n' g) := by rw [Hp.set_ne _ _ hne]; exact hj
 refine ⟨S.layNil, s, ds, _, rfl, hle, h2.boxUpd hj2 (hl S.next) (fun k d v hk hd hv => ?_), fun t => (hF t).mono hle, hD.mono hle, h S.next hnone⟩
 rcases hg S.next k d hk hd with e | ⟨e1, e2⟩
 ·rw [e]; exact hv
 ·rw [e2]
  rw [e1] at hv
  have := hv.lit_inv
  subst this
  exact .slnil (by simp [St.layNil])

end Go.V
end
section
set_option linter.unusedVariables false
namespace Go.V
set_option linter.unusedSectionVars false
variable [Inhabited GivT]
/-- A value in which a row is now data. -/
inductive FrzD (id st n : Nat) (f : Nat → List AV) : AV → AV → Prop
 | same (x : AV) : FrzD id st n f x x
 | hit {g : Nat → List AV} (h : ∀ i, i < n → f i = g i) : FrzD id st n f (.sl id st n) (.rsl n st g)
 | agg {cs cs' : List AV} (hl : cs'.length = cs.length) (h : ∀ k, k < cs.length → FrzD id st n f (cs.getD k .any) (cs'.getD k .any)) : FrzD id st n f (.agg cs) (.agg cs')
 | tuple {cs cs' : List AV} (hl : cs'.length = cs.length) (h : ∀ k, k < cs.length → FrzD id st n f (cs.getD k .any) (cs'.getD k .any)) : FrzD id st n f (.tuple cs) (.tuple cs')

theorem FrzD.conv {S S2 : St} {id st n : Nat} {f : Nat → List AV} (hle : Le S S2) (hc : ∀ v, VRel S (.sl id st n) v → VRel S2 (.rsl n st f) v) {x y : AV} (hxy : FrzD id st n f x y) : ∀ v, VRel S x v → VRel S2 y v := by
 induction hxy with
 | same x => intro v hv; exact hv.mono hle
 | hit h => intro v hv; exact AV.Le.rsl h _ _ (hc v hv)
 | agg hl h ih =>
   intro v hv
   cases hv with
   | agg hn hv => exact .agg (hn.trans hl.symm) fun k hk => ih k (by omega) _ (hv k (by omega))
 | tuple hl h ih =>
   intro v hv
   cases hv with
   | tuple hn hv => exact .tuple (hn.trans hl.symm) fun k hk => ih k (by omega) _ (hv k (by omega))

end Go.V
end
section
set_option linter.unusedVariables false
namespace Go.V
set_option linter.unusedSectionVars false
variable [Inhabited GivT]
section
variable {r : Option Nat} {P : Program} {m : Option Tmp → Bool} {n : Nat} {k : List It} {s : Fr} {ds : List AD} {H : Hp} {Q : Post}
theorem vs_entL {c : Code} (h : Ent s ds H fun s ds H => VS r P m n (.code (.loop c) :: k) s ds H Q) : VS r P m n (.code (.loop c) :: k) s ds H Q :=
 (wps_ent h : WPS r P n (.loop c) s ds H (TK r P m n k Q))
theorem vs_entR {id : Nat} {l : Array Oper} (h : Ent s ds H fun s ds H => VS r P m n (.code (.region id l true) :: k) s ds H Q) : VS r P m n (.code (.region id l true) :: k) s ds H Q :=
 (wps_ent h : WPS r P n (.region id l true) s ds H (TK r P m n k Q))
end
end Go.V
end
section
set_option linter.unusedVariables false
set_option linter.unusedSimpArgs false
namespace Go.V
set_option linter.unusedSectionVars false
variable [Inhabited GivT]
abbrev i64 (n : Int) : AV := .lit (.int .i64 n)
abbrev u64 (n : Int) : AV := .lit (.int .u64 n)
abbrev u8 (n : Int) : AV := .lit (.int .u8 n)
abbrev u16 (n : Int) : AV := .lit (.int .u16 n)
abbrev boo (b : Bool) : AV := .lit (.bool b)
abbrev bx (n : Int) : AV := .rptr 1 1 (fun _ => [i64 n]) 0 0

theorem getD_snoc {α : Type} (l : List α) (x d : α) (k : Nat) : (l ++ [x]).getD k d = if k = l.length then x else l.getD k d := by
 by_cases h : k = l.length
 ·subst h; simp
 ·rw [if_neg h]
  by_cases h2 : k < l.length
  ·rw [List.getD_eq_getElem?_getD, List.getD_eq_getElem?_getD, List.getElem?_append_left h2]
  ·rw [List.getD_eq_getElem?_getD, List.getD_eq_getElem?_getD, List.getElem?_eq_none (by simp; omega), List.getElem?_eq_none (by omega)]
theorem getD_mem {α : Type} {l : List α} {x : α} (d : α) (h : x ∈ l) : ∃ i, i < l.length ∧ l.getD i d = x := by
 obtain ⟨i, hi, e⟩ := List.getElem_of_mem h
 exact ⟨i, hi, by rw [List.getD_eq_getElem?_getD, List.getElem?_eq_getElem hi]; exact e⟩
/-- A list, each thing of which is so many cells. -/
def lF {α : Type} (en : α → List AV) (d : α) (l : List α) : Nat → List AV := fun i => en (l.getD i d)
theorem app_lF {α : Type} (en : α → List AV) (d : α) (l : List α) (x : α) (g : Nat → List AV) (hg : g 0 = en x) : appF l.length 1 (lF en d l) g = lF en d (l ++ [x]) := by
 funext k
 simp only [appF, lF, hg, getD_snoc]
 split <;> rfl
abbrev enI (z : Int) : List AV := [i64 z]
abbrev enN (z : Nat) : List AV := [i64 (z : Int)]
abbrev enU (z : Nat) : List AV := [u64 (z : Int)]
def intF (l : List Int) : Nat → List AV := fun i => [i64 (l.getD i 0)]
abbrev intsAV (l : List Int) : AV := .rsl l.length 1 (intF l)
theorem intF_at (l : List Int) (i : Nat) : intF l i = [i64 (l.getD i 0)] := rfl
theorem app_ints (l : List Int) (w : Int) (g : Nat → List AV) (hg : g 0 = [i64 w]) : appF l.length 1 (intF l) g = intF (l ++ [w]) := app_lF enI 0 l w g hg
def llF (l : List (List Int)) : Nat → List AV := fun i => [intsAV (l.getD i [])]
abbrev llAV (l : List (List Int)) : AV := .rsl l.length 1 (llF l)
theorem bit_eq (S i : Nat) : decide ((((S : Int) / 2 ^ i).toNat &&& Int.toNat 1 : Nat) = (1 : Int)) = S.testBit i := by
 have e : ((S : Int) / 2 ^ i).toNat = S / 2 ^ i := by
  have : (S : Int) / 2 ^ i = ((S / 2 ^ i : Nat) : Int) := by simp
  rw [this]; rfl
 rw [e, Nat.testBit_eq_decide_div_mod_eq]
 show decide (((S / 2 ^ i &&& 1 : Nat) : Int) = 1) = _
 rw [Nat.and_one_is_mod]
 congr 1
 apply propext
 omega
/-- How many bits there are. -/
def popN : Nat → Nat → Nat
 | 0, _ => 0
 | f + 1, s => s % 2 + popN f (s / 2)
def pop (s : Nat) : Nat := popN 64 s
theorem thn_normal {K : Fr → List AD → Hp → Prop} {Q : Post} {s : Fr} {ds : List AD} {H : Hp} : Post.thn K Q .normal s ds H = K s ds H := rfl

end Go.V
end
section
set_option linter.unusedVariables false
namespace Go.V
set_option linter.unusedSectionVars false
variable [Inhabited GivT]
theorem AV.Le.nil (st : Nat) (f : Nat → List AV) : AV.Le (.lit (.slice none 0 0)) (.rsl 0 st f) := by
 intro S v hv
 have := hv.lit_inv
 subst this
 exact .rsl0
end Go.V
end
section
set_option linter.unusedVariables false
set_option linter.unusedSimpArgs false
namespace Go.V
set_option linter.unusedSectionVars false
variable [Inhabited GivT]
theorem tri_inv {P : Program} {T : TypeId} {nm : String} {f : FuncId} {recv : AV} {args : List AV} {H : Hp} {R : Res → Hp → Prop} (hm : methT P T nm f) (h : Tri P (fnA f) (recv :: args) H R) :
  Tri P (.func (.method nm) [] []) (.iface T recv :: args) H R := by
 intro S vf vs hH hvf ha
 cases hvf with
 | @func _ _ _ ws us hn hu h1 h2 =>
   have hws : ws = #[] := by simpa using hn
   subst hws
   have hus : us = #[] := by simpa using hu
   subst hus
   obtain ⟨hlen, hall⟩ := ha
   cases vs with
   | nil => simp at hlen
   | cons x vs =>
     have hx := hall 0 (by simp)
     simp only [List.getD_cons_zero] at hx
     cases hx with
     | @iface _ _ cv hcv =>
       obtain ⟨nx, e1, e2⟩ := h S (.func (.func f) #[] #[]) (cv :: vs) hH (.func rfl rfl (fun k hk => absurd hk (by simp)) (fun k hk => absurd hk (by simp)))
        ⟨by simpa using hlen, fun k hk => by
         cases k with
         | zero => exact hcv
         | succ k => simpa using hall (k+1) (by simpa using hk)⟩
       refine ⟨nx, ?_, e2⟩
       rw [← e1]
       simp only [Deferred.ofValue, Sem.run_bind, Sem.run_pure, Result.andThen_ok, invoke]
       have a1 : (#[] ++ (Value.iface T cv :: vs).toArray : Array Value)[0]? = some (.iface T cv) := by simp
       have a2 : (#[] ++ (Value.iface T cv :: vs).toArray : Array Value).extract 1 (#[] ++ (Value.iface T cv :: vs).toArray : Array Value).size = vs.toArray := by
        apply Array.toList_inj.1; simp
       simp only [a1, a2, hm cv vs.toArray S.w]
       congr 2
       simp
end Go.V
end
section
set_option linter.unusedVariables false
namespace Go.V
set_option linter.unusedSectionVars false
variable [Inhabited GivT]
theorem frz_stepB {S : St} {H : Hp} {id st n : Nat} {f : Nat → List AV} (hH : HRel S H) (ho : H id = some (.box st n f)) :
  ∃ S2, S2.w = S.w ∧ Le S S2 ∧ HRel S2 (H.del id) ∧ ∀ i j v, VRel S (.ref id 0 st i j) v → VRel S2 (.rptr n st f i j) v := by
 obtain ⟨b, c, e, hl, hb, hni, hc⟩ := hH.obj id _ ho
 have hle := S.frz_le b
 refine ⟨S.frz b, rfl, hle, ?_, ?_⟩
 ·refine ⟨fun i hi => ⟨?_, (hH.fresh i hi).2⟩, ?_, ?_, ?_, fun p hp => (hH.giv p hp).mono hle⟩
  ·simp only [Hp.del]; split
   ·rfl
   ·exact (hH.fresh i hi).1
  ·rintro x (hx | rfl)
   ·exact hH.immlt x hx
   ·exact (Array.getElem?_eq_some_iff.1 hb).1
  ·intro i o hi
   have ne : i ≠ id := by intro e; simp [Hp.del, e] at hi
   rw [Hp.del_ne _ ne] at hi
   have old := hH.obj i o hi
   have hne : ∀ x, S.loc i o.gen = .blk x → x ≠ b := fun x hx e => ne (hH.inj i id o _ x hi ho hx (by subst e; exact hl))
   cases o with
   | box st' n' f' =>
     obtain ⟨b', c', e', h1, h2, h3, h4⟩ := old
     exact ⟨b', c', e', h1, h2, fun hx => hx.elim h3 (hne b' h1), h4.1, h4.2.1, fun i j hi hj => (h4.2.2 i j hi hj).mono hle⟩
   | row st' n' f' =>
     obtain ⟨g1, old⟩ := old
     refine ⟨g1, old.imp (fun x => x) ?_⟩
     rintro ⟨b', c', e', h1, h2, h3, h4⟩
     exact ⟨b', c', e', h1, h2, fun hx => hx.elim h3 (hne b' h1), h4.1, h4.2.1, fun i j hi hj => (h4.2.2 i j hi hj).mono hle⟩
   | memo F =>
     obtain ⟨b', es, k, h1, h2, h3, h4⟩ := old
     exact ⟨b', es, k, h1, h2, fun hx => hx.elim h3 (hne b' h1), h4⟩
   | raw o =>
     obtain ⟨b', h1, h2, h3, h4⟩ := old
     exact ⟨b', h1, h2, h3, fun hx => hx.elim h4 (hne b' h1)⟩
   | iter mid since seen c0 =>
     obtain ⟨r', b', h1, h2, h3, h4⟩ := old
     exact ⟨r', b', h1, h2, h3, fun hx => hx.elim h4 (hne r' h1)⟩
   | loop l n s ps assign body st pend did =>
     obtain ⟨h1, h2, fn, tmps, D, h3, h4, h5, h6⟩ := old
     exact ⟨h1, fun hx => hx.elim h2 (hne l h1), fn, tmps, D, h3, h4, h5.mono hle, h6⟩
  ·intro i j o o' x hi hj
   have ne : i ≠ id := by intro e; simp [Hp.del, e] at hi
   have ne' : j ≠ id := by intro e; simp [Hp.del, e] at hj
   rw [Hp.del_ne _ ne] at hi
   rw [Hp.del_ne _ ne'] at hj
   exact hH.inj i j o o' x hi hj
 ·intro i j v this
  cases this with
  | ref hl' =>
    rw [hl] at hl'; cases hl'
    have := VRel.rptr (S := S.frz b) (i := i) (j := j) (off := 0) (.inr rfl) hb (by rw [Nat.zero_add]; exact hc.1) hc.2.1 (fun i j hi hj => by rw [Nat.zero_add]; exact (hc.2.2 i j hi hj).mono hle)
    rw [Nat.zero_add] at this
    exact this

/-- The box becomes its data in every slot that points to it. -/
theorem Ent.freezeB {s s' : Fr} {ds : List AD} {H : Hp} {K : Fr → List AD → Hp → Prop} {id st n : Nat} {f : Nat → List AV} (ho : H id = some (.box st n f))
  (hs : ∀ t, s' t = s t ∨ ∃ i j, s t = .ref id 0 st i j ∧ s' t = .rptr n st f i j) (h : K s' ds (H.del id)) : Ent s ds H K := by
 intro S a hH hF hD
 obtain ⟨S2, hw, hle, h2, hc⟩ := frz_stepB hH ho
 refine ⟨S2, s', ds, H.del id, hw, hle, h2, fun t => ?_, hD.mono hle, h⟩
 rcases hs t with e | ⟨i, j, e1, e2⟩
 ·rw [e]; exact (hF t).mono hle
 ·rw [e2]
  have := hF t
  rw [e1] at this
  exact hc _ _ _ this

/-- A rule for a smaller heap holds for the larger one. -/
theorem Tri.less {P : Program} {fv : AV} {args : List AV} {H H' : Hp} {R : Res → Hp → Prop} (hs : HSub H H') (h : Tri P fv args H' R) : Tri P fv args H R :=
 fun S vf vs hH => h S vf vs (hH.sub hs)
end Go.V
end
section
namespace Go.V
set_option linter.unusedSectionVars false
variable [Inhabited GivT]
variable {α : Type}
/-- What is told of two, where either may be missing. -/
def comb (join : α → α → α) : Option α → Option α → Option α
 | none, y => y
 | some a, none => some a
 | some a, some b => some (join a b)
/-- Of all of a list. -/
def foldJ (join : α → α → α) : List α → Option α
 | [] => none
 | a :: l => comb join (some a) (foldJ join l)
end Go.V
end
section
set_option linter.unusedVariables false
set_option linter.unusedSimpArgs false
namespace Go.V
set_option linter.unusedSectionVars false
/-- The first set of a size, from one on, that suits. -/
def inn (f : Nat → Bool) (z : Nat) : Nat → Nat → Option Nat
 | 0, _ => none
 | n + 1, j => if (decide (pop j = z) && f j) = true then some j else inn f z n (j + 1)
def outF (f : Nat → Bool) (m : Nat) : Nat → Nat → Option Nat
 | 0, _ => none
 | n + 1, z => match inn f z (2 ^ m) 0 with
   | some j => some j
   | none => outF f m n (z + 1)
def fewV (f : Nat → Bool) (m : Nat) : Option Nat := outF f m (m + 1) 0
/-- The last of all sets that are smaller than those before. -/
def bsN (f : Nat → Bool) (b : Nat) : Nat → Nat
 | 0 => b
 | j + 1 => if (decide (pop j < pop (bsN f b j)) && f j) = true then j else bsN f b j
def rset (f : Nat → Bool) (m : Nat) : Option Nat := if f (2 ^ m - 1) = true then some (bsN f (2 ^ m - 1) (2 ^ m)) else none
def setE (e : Int) (r : Option Nat) : Int := if e = 0 then (if r.isSome = true then 0 else 4) else e
def setV (e : Int) (r : Option Nat) : Nat := if setE e r = 0 then r.getD 0 else 0
/-- The least set that suits. -/
structure LeastSet (f : Nat → Bool) (m r : Nat) : Prop where
 lt : r < 2 ^ m
 is : f r = true
 le : ∀ i, i < 2 ^ m → f i = true → pop r < pop i ∨ pop r = pop i ∧ r ≤ i
theorem LeastSet.uniq {f : Nat → Bool} {m r r' : Nat} (h : LeastSet f m r) (h' : LeastSet f m r') : r = r' := by
 have h1 := h.le r' h'.lt h'.is
 have h2 := h'.le r h.lt h.is
 omega
section
variable [Inhabited GivT]
noncomputable def cdec (p : Prop) : Bool := @decide p (Classical.propDecidable p)
noncomputable def filP {α : Type} (p : α → Prop) (l : List α) : List α := l.filter fun a => cdec (p a)
/-- The least number with a property, if there is one. -/
structure MinS (o : Option Int) (S : Int → Prop) : Prop where
 le : ∀ x, S x → ∃ m, o = some m ∧ m ≤ x
 is : ∀ m, o = some m → S m
theorem MinS.uniq {o o' : Option Int} {S : Int → Prop} (h : MinS o S) (h' : MinS o' S) : o = o' := by
 cases ho : o with
 | none =>
   cases ho' : o' with
   | none => rfl
   | some m =>
     obtain ⟨q, hq, _⟩ := h.le m (h'.is m ho')
     rw [ho] at hq; cases hq
 | some m =>
   obtain ⟨q, hq, h1⟩ := h'.le m (h.is m ho)
   obtain ⟨q2, hq2, h2⟩ := h.le q (h'.is q hq)
   rw [ho] at hq2
   cases hq2
   rw [hq]
   congr 1
   omega
theorem MinS.congr {o : Option Int} {S S' : Int → Prop} (h : MinS o S) (e : ∀ x, S x ↔ S' x) : MinS o S' :=
 ⟨fun x hx => h.le x ((e x).2 hx), fun m hm => (e m).1 (h.is m hm)⟩
def mnG {α : Type} (f : α → Int) (L : List α) (d : α) : Nat → α
 | 0 => L.getD 0 d
 | i + 1 => if f (L.getD i d) < f (mnG f L d i) then L.getD i d else mnG f L d i
end
end Go.V
end
section
set_option linter.unusedVariables false
set_option linter.unusedSimpArgs false
namespace Go.Proofs.Ytclkjifgipcamaa
open Go.V
/-- A sum of the first so many. -/
def smZ (f : Nat → Int) : Nat → Int
 | 0 => 0
 | n + 1 => smZ f n + f n
theorem smZ_le {f g : Nat → Int} : ∀ n, (∀ i, i < n → f i ≤ g i) → smZ f n ≤ smZ g n
 | 0, _ => Int.le_refl _
 | n + 1, h => by
   have := smZ_le n fun i hi => h i (by omega)
   have := h n (by omega)
   simp only [smZ]; omega
theorem smZ_congr {f g : Nat → Int} (n : Nat) (h : ∀ i, i < n → f i = g i) : smZ f n = smZ g n :=
 Int.le_antisymm (smZ_le n fun i hi => by rw [h i hi]; exact Int.le_refl _) (smZ_le n fun i hi => by rw [h i hi]; exact Int.le_refl _)
theorem smZ_add (f g : Nat → Int) : ∀ n, smZ (fun i => f i + g i) n = smZ f n + smZ g n
 | 0 => rfl
 | n + 1 => by simp only [smZ, smZ_add f g n]; omega
/-- Seams, how many blows each opens at, and how often each has another one beside it. -/
structure Dv where
 n : Nat
 lim : Nat → Int
 cnt : Nat → Nat → Int
structure Dv.Ok (d : Dv) : Prop where
 c0 : ∀ i j, 0 ≤ d.cnt i j
 self : ∀ i, d.cnt i i = 0
 less : ∀ i, i < d.n → smZ (d.cnt i) d.n + 1 ≤ d.lim i
/-- What is left if each seam has opened so often. -/
def Dv.res (d : Dv) (b u : Nat → Int) (j : Nat) : Int := b j - u j * d.lim j + smZ (fun i => u i * d.cnt i j) d.n
/-- So many more on one seam. -/
def upZ (u : Nat → Int) (i : Nat) (k : Int) : Nat → Int := fun j => if j = i then u j + k else u j
def Dv.fire (d : Dv) (b : Nat → Int) (i : Nat) (k : Int) : Nat → Int := fun j => (if j = i then b j - k * d.lim j else b j) + k * d.cnt i j
/-- Seams that open, one after another, each when it can. -/
inductive Dv.Run (d : Dv) (b : Nat → Int) : (Nat → Int) → Prop
 | start : Dv.Run d b fun _ => 0
 | step {u : Nat → Int} {i : Nat} (h : Dv.Run d b u) (hi : i < d.n) (hl : d.lim i ≤ d.res b u i) : Dv.Run d b (upZ u i 1)
def Dv.Still (d : Dv) (b u : Nat → Int) : Prop := ∀ i, i < d.n → d.res b u i < d.lim i
theorem Dv.Run.nonneg {d : Dv} {b u : Nat → Int} (h : d.Run b u) : ∀ i, 0 ≤ u i := by
 induction h with
 | start => exact fun _ => Int.le_refl _
 | step h hi hl ih =>
   intro j
   have := ih j
   unfold upZ
   split <;> omega
theorem Dv.Run.out {d : Dv} {b u : Nat → Int} (h : d.Run b u) : ∀ i, d.n ≤ i → u i = 0 := by
 induction h with
 | start => exact fun _ _ => rfl
 | @step u i h hi hl ih =>
   intro j hj
   unfold upZ
   rw [if_neg (by omega)]
   exact ih j hj
/-- No seam opens more often than in any way that ends at rest. -/
theorem Dv.least {d : Dv} (ok : d.Ok) {b u v : Nat → Int} (h : d.Run b u) (hv : d.Still b v) (h0 : ∀ i, 0 ≤ v i) : ∀ i, i < d.n → u i ≤ v i := by
 induction h with
 | start => exact fun i _ => h0 i
 | @step u i h hi hl ih =>
   intro j hj
   unfold upZ
   by_cases e : j = i
   ·subst e
    rw [if_pos rfl]
    have h1 := ih j hj
    rcases Int.lt_or_le (u j) (v j) with q | q
    ·omega
    ·have e2 : u j = v j := by omega
     have h2 := hv j hj
     have h3 : smZ (fun i => u i * d.cnt i j) d.n ≤ smZ (fun i => v i * d.cnt i j) d.n := smZ_le d.n fun q hq => Int.mul_le_mul_of_nonneg_right (ih q hq) (ok.c0 q j)
     unfold Dv.res at hl h2
     rw [e2] at hl
     omega
   ·rw [if_neg e]; exact ih j hj
theorem Dv.uniq {d : Dv} (ok : d.Ok) {b u v : Nat → Int} (h1 : d.Run b u) (s1 : d.Still b u) (h2 : d.Run b v) (s2 : d.Still b v) : ∀ i, u i = v i := fun i => by
 by_cases hi : i < d.n
 ·have a := Dv.least ok h1 s2 h2.nonneg i hi
  have c := Dv.least ok h2 s1 h1.nonneg i hi
  omega
 ·rw [h1.out i (by omega), h2.out i (by omega)]
/-- What opens with more blows begins with what opens with fewer. -/
theorem Dv.Run.more {d : Dv} {b b' u : Nat → Int} (hb : ∀ i, b i ≤ b' i) (h : d.Run b u) : d.Run b' u := by
 induction h with
 | start => exact .start
 | @step u i h hi hl ih =>
   refine .step ih hi ?_
   have := hb i
   unfold Dv.res at hl ⊢
   omega
theorem Dv.res_add (d : Dv) (b u w : Nat → Int) : d.res (d.res b u) w = d.res b (fun i => u i + w i) := by
 funext j
 have : smZ (fun i => (u i + w i) * d.cnt i j) d.n = smZ (fun i => u i * d.cnt i j) d.n + smZ (fun i => w i * d.cnt i j) d.n := by
  rw [← smZ_add]
  exact smZ_congr d.n fun i _ => Int.add_mul _ _ _
 unfold Dv.res
 rw [this, Int.add_mul]
 omega
theorem Dv.Run.join {d : Dv} {b u w : Nat → Int} (h : d.Run b u) (h2 : d.Run (d.res b u) w) : d.Run b (fun i => u i + w i) := by
 induction h2 with
 | start =>
   have : (fun i => u i + (0 : Int)) = u := by funext i; omega
   rw [this]; exact h
 | @step w i h2 hi hl ih =>
   rw [Dv.res_add] at hl
   have h3 := Dv.Run.step ih hi hl
   have : upZ (fun i => u i + w i) i 1 = fun j => u j + upZ w i 1 j := by
    funext j; dsimp only [upZ]
    split <;> omega
   rw [this] at h3
   exact h3
/-- One blow more: what opens then is what opened, and what this blow opens. -/
theorem Dv.chain {d : Dv} (ok : d.Ok) {b u w v : Nat → Int} {s : Nat} (h1 : d.Run b u) (h2 : d.Run (upZ (d.res b u) s 1) w) (s2 : d.Still (upZ (d.res b u) s 1) w) (h3 : d.Run (upZ b s 1) v) (s3 : d.Still (upZ b s 1) v) :
  ∀ i, v i = u i + w i := by
 have e : d.res (upZ b s 1) u = upZ (d.res b u) s 1 := by
  funext j
  dsimp only [Dv.res, upZ]
  split <;> omega
 have hm : d.Run (upZ b s 1) u := h1.more fun i => by unfold upZ; split <;> omega
 rw [← e] at h2 s2
 have hj := hm.join h2
 refine Dv.uniq ok h3 s3 hj fun i hi => ?_
 rw [← Dv.res_add]
 exact s2 i hi
def Dv.tot (d : Dv) (b : Nat → Int) : Int := smZ b d.n
end Go.Proofs.Ytclkjifgipcamaa
end
section
set_option linter.unusedVariables false
set_option linter.unusedSimpArgs false
namespace Go.Proofs.Ytclkjifgipcamaa
open Go.V
/-- A seam: its height, side, and what it lets in at most; a sounding: draught, list, and the flow. -/
structure Lk where
 ht : Int
 sd : Int
 mo : Int
structure Ls where
 dr : Int
 li : Int
 lo : Int
 hi : Int
structure Hl where
 sm : List Lk
 so : List Ls
def lk0 : Lk := ⟨0, 0, 0⟩
def ls0 : Ls := ⟨0, 0, 0, 0⟩
def Hl.N (h : Hl) : Nat := h.sm.length
def Hl.seam (h : Hl) (i : Nat) : Lk := h.sm.getD i lk0
def Hl.snd (h : Hl) (q : Nat) : Ls := h.so.getD q ls0
def Hl.M (h : Hl) (i : Nat) : Nat := (h.seam i).mo.toNat
/-- Which seams are under water. -/
def wetB (h : Hl) (dr li : Int) (i : Nat) : Bool := decide ((h.seam i).ht ≤ dr + (h.seam i).sd * li)
def wetN (h : Hl) (dr li : Int) : Nat → Nat
 | 0 => 0
 | i + 1 => if wetB h dr li i = true then wetN h dr li i ||| 2 ^ i else wetN h dr li i
def wetS (h : Hl) (dr li : Int) : Nat := wetN h dr li h.N
theorem wetN_bit (h : Hl) (dr li : Int) (j : Nat) : ∀ i, (wetN h dr li i).testBit j = (decide (j < i) && wetB h dr li j)
 | 0 => by simp [wetN]
 | i + 1 => by
   simp only [wetN]
   have ih := wetN_bit h dr li j i
   split
   ·rename_i hb
    rw [Nat.testBit_or, ih, Nat.testBit_two_pow]
    by_cases e : i = j
    ·subst e; simp [hb]
    ·have : decide (j < i + 1) = decide (j < i) := decide_eq_decide.2 (by omega)
     simp [e, this]
   ·rename_i hb
    rw [ih]
    by_cases e : i = j
    ·subst e; simp at hb; simp [hb]
    ·have : decide (j < i + 1) = decide (j < i) := decide_eq_decide.2 (by omega)
     rw [this]
theorem wetN_lt (h : Hl) (dr li : Int) (i : Nat) : wetN h dr li i < 2 ^ i := by
 refine Nat.lt_pow_two_of_testBit _ fun j hj => ?_
 rw [wetN_bit, decide_eq_false (by omega)]; rfl
theorem wetS_bit (h : Hl) (dr li : Int) {j : Nat} (hj : j < h.N) : (wetS h dr li).testBit j = wetB h dr li j := by
 unfold wetS; rw [wetN_bit, decide_eq_true hj, Bool.true_and]
/-- What the first seams of a set let in. -/
def inn (S : Nat) (b : List Int) (i : Nat) : Int := if S.testBit i = true then b.getD i 0 else 0
def lsN (S : Nat) (b : List Int) (n : Nat) : Int := smZ (inn S b) n
/-- What seams behind the first ones let in at most. -/
def mos (h : Hl) (S : Nat) (a i : Nat) : Int := if a ≤ i ∧ S.testBit i = true then (h.M i : Int) else 0
def moN (h : Hl) (S : Nat) (a n : Nat) : Int := smZ (mos h S a) n
def okQ (h : Hl) (b : List Int) (q : Nat) : Bool :=
 decide (lsN (wetS h (h.snd q).dr (h.snd q).li) b b.length ≤ (h.snd q).hi) && decide ((h.snd q).lo ≤ lsN (wetS h (h.snd q).dr (h.snd q).li) b b.length + moN h (wetS h (h.snd q).dr (h.snd q).li) b.length h.N)
def okP (h : Hl) (b : List Int) : Bool := (List.range h.so.length).all (okQ h b)
def infl (h : Hl) : Nat → List Int → List (List Int)
 | 0, b => [b]
 | n + 1, b => (List.range (h.M b.length + 1)).flatMap fun x : Nat => if okP h (b ++ [(x : Int)]) = true then infl h n (b ++ [(x : Int)]) else []
def allT (h : Hl) : List (List Int) := infl h h.N []
/-- What seams can let in. -/
structure Tru (h : Hl) (l : List Int) : Prop where
 len : l.length = h.N
 at_ : ∀ i, i < h.N → 0 ≤ l.getD i 0 ∧ l.getD i 0 ≤ h.M i
 so : ∀ q, q < h.so.length → (h.snd q).lo ≤ lsN (wetS h (h.snd q).dr (h.snd q).li) l h.N ∧ lsN (wetS h (h.snd q).dr (h.snd q).li) l h.N ≤ (h.snd q).hi
theorem smZ_shift {f g : Nat → Int} {a : Nat} : ∀ n, a ≤ n → (∀ i, i < a → f i = g i) → (∀ i, a ≤ i → i < n → f i = 0) → smZ f n = smZ g a
 | 0, h, _, _ => by rw [show a = 0 by omega]; rfl
 | n + 1, h, h1, h2 => by
   by_cases e : a = n + 1
   ·subst e; exact smZ_congr _ fun i hi => h1 i hi
   ·have := smZ_shift n (by omega) h1 fun i hi hn => h2 i hi (by omega)
    simp only [smZ]
    rw [this, h2 n (by omega) (by omega)]
    omega
theorem lsN_congr {S : Nat} {b l : List Int} {n : Nat} (h : ∀ i, i < n → b.getD i 0 = l.getD i 0) : lsN S b n = lsN S l n :=
 smZ_congr n fun i hi => by unfold inn; rw [h i hi]
theorem moN_end (h : Hl) (S : Nat) {a n : Nat} (hn : n ≤ a) : moN h S a n = 0 := by
 have : moN h S a n = smZ (fun _ => 0) 0 := smZ_shift (g := fun _ => 0) (a := 0) n (Nat.zero_le _) (fun i hi => by omega) fun i _ hi => by
  unfold mos; rw [if_neg (by omega)]
 rw [this]; rfl
/-- What is so of all is so of the first ones. -/
theorem okQ_pre {h : Hl} {b l : List Int} {q : Nat} (hb : b.length ≤ l.length) (hl : l.length ≤ h.N) (he : ∀ i, i < b.length → b.getD i 0 = l.getD i 0) (hr : ∀ i, i < l.length → 0 ≤ l.getD i 0 ∧ l.getD i 0 ≤ h.M i) (hq : okQ h l q = true) : okQ h b q = true := by
 unfold okQ at hq ⊢
 generalize wetS h (h.snd q).dr (h.snd q).li = S at *
 rw [Bool.and_eq_true, decide_eq_true_eq, decide_eq_true_eq] at hq ⊢
 have e1 : lsN S b b.length = lsN S l b.length := lsN_congr he
 have h1 : lsN S l b.length ≤ lsN S l l.length := by
  have : lsN S l b.length = smZ (fun i => if i < b.length then inn S l i else 0) l.length := by
   refine (smZ_shift l.length hb (fun i hi => if_pos hi) fun i hi _ => if_neg (by omega)).symm
  rw [this]
  refine smZ_le _ fun i hi => ?_
  have := hr i hi
  unfold inn
  split <;> split <;> omega
 have h2 : lsN S l l.length + moN h S l.length h.N ≤ lsN S l b.length + moN h S b.length h.N := by
  have e2 : lsN S l l.length = smZ (fun i => if i < l.length then inn S l i else 0) h.N := (smZ_shift h.N hl (fun i hi => if_pos hi) fun i hi _ => if_neg (by omega)).symm
  have e3 : lsN S l b.length = smZ (fun i => if i < b.length then inn S l i else 0) h.N := (smZ_shift h.N (by omega) (fun i hi => if_pos hi) fun i hi _ => if_neg (by omega)).symm
  unfold moN
  rw [e2, e3, ← smZ_add, ← smZ_add]
  refine smZ_le _ fun i hi => ?_
  by_cases hS : S.testBit i = true
  ·have e4 : inn S l i = l.getD i 0 := if_pos hS
   have e5 : ∀ a, mos h S a i = if a ≤ i then (h.M i : Int) else 0 := fun a => by
    unfold mos
    by_cases ha : a ≤ i
    ·rw [if_pos ⟨ha, hS⟩, if_pos ha]
    ·rw [if_neg (fun q => ha q.1), if_neg ha]
   rw [e4, e5, e5]
   by_cases h1 : i < b.length
   ·rw [if_pos (by omega), if_neg (by omega), if_pos h1, if_neg (by omega)]; omega
   ·by_cases h3 : i < l.length
    ·have := hr i h3
     rw [if_pos h3, if_neg (by omega), if_neg h1, if_pos (by omega)]; omega
    ·rw [if_neg h3, if_pos (by omega), if_neg h1, if_pos (by omega)]; omega
  ·have e4 : inn S l i = 0 := if_neg hS
   have e5 : ∀ a, mos h S a i = 0 := fun a => if_neg (fun q => hS q.2)
   rw [e4, e5, e5]
   split <;> split <;> omega
 omega
theorem okP_pre {h : Hl} {b l : List Int} (hb : b.length ≤ l.length) (hl : l.length ≤ h.N) (he : ∀ i, i < b.length → b.getD i 0 = l.getD i 0) (hr : ∀ i, i < l.length → 0 ≤ l.getD i 0 ∧ l.getD i 0 ≤ h.M i) (hq : okP h l = true) : okP h b = true := by
 unfold okP at hq ⊢
 rw [List.all_eq_true] at hq ⊢
 exact fun q hm => okQ_pre hb hl he hr (hq q hm)
theorem lapp {α : Type} (b m : List α) (d : α) {i : Nat} (h : i < b.length) : (b ++ m).getD i d = b.getD i d := by simp [List.getD_eq_getElem?_getD, List.getElem?_append_left h]
theorem lappR {α : Type} (b m : List α) (d : α) (i : Nat) : (b ++ m).getD (b.length + i) d = m.getD i d := by simp [List.getD_eq_getElem?_getD, List.getElem?_append_right]
theorem mem_infl {h : Hl} : ∀ (n : Nat) (b l : List Int), b.length + n = h.N → (∀ i, i < b.length → 0 ≤ b.getD i 0 ∧ b.getD i 0 ≤ h.M i) →
  (l ∈ infl h n b ↔ ∃ m, l = b ++ m ∧ m.length = n ∧ (∀ i, i < h.N → 0 ≤ l.getD i 0 ∧ l.getD i 0 ≤ h.M i) ∧ (0 < n → okP h l = true)) := by
 intro n
 induction n with
 | zero =>
   intro b l hb hr
   simp only [infl, List.mem_singleton]
   constructor
   ·rintro rfl
    exact ⟨[], by simp, rfl, fun i hi => hr i (by omega), fun q => absurd q (Nat.lt_irrefl _)⟩
   ·rintro ⟨m, e, hm, _⟩
    rw [e, List.length_eq_zero_iff.1 hm, List.append_nil]
 | succ n ih =>
   intro b l hb hr
   have hbx : ∀ x : Int, (b ++ [x]).length = b.length + 1 := fun x => by simp
   have hrx : ∀ x : Nat, x < h.M b.length + 1 → ∀ i, i < (b ++ [(x : Int)]).length → 0 ≤ (b ++ [(x : Int)]).getD i 0 ∧ (b ++ [(x : Int)]).getD i 0 ≤ h.M i := fun x hx i hi => by
    rw [hbx] at hi
    by_cases e : i < b.length
    ·rw [lapp _ _ _ e]; exact hr i e
    ·have e2 : i = b.length + 0 := by omega
     rw [e2, lappR]
     show 0 ≤ (x : Int) ∧ (x : Int) ≤ h.M (b.length + 0)
     rw [Nat.add_zero]
     omega
   simp only [infl, List.mem_flatMap, List.mem_range]
   constructor
   ·rintro ⟨x, hx, hl⟩
    split at hl
    ·rename_i hok
     obtain ⟨m, e, h1, h2, h3⟩ := (ih (b ++ [(x : Int)]) l (by rw [hbx]; omega) (hrx x hx)).1 hl
     refine ⟨(x : Int) :: m, by rw [e]; simp, by simp [h1], h2, fun _ => ?_⟩
     rcases Nat.eq_zero_or_pos n with q | q
     ·subst q
      rw [e, List.length_eq_zero_iff.1 h1, List.append_nil]
      exact hok
     ·exact h3 q
    ·cases hl
   ·rintro ⟨m, e, h1, h2, h3⟩
    obtain ⟨y, m', rfl⟩ : ∃ y m', m = y :: m' := by
     cases m with
     | nil => simp at h1
     | cons y m' => exact ⟨y, m', rfl⟩
    have hy := h2 b.length (by omega)
    have ey : l.getD b.length 0 = y := by
     have := lappR b (y :: m') 0 0
     rw [← e, Nat.add_zero] at this
     exact this
    rw [ey] at hy
    obtain ⟨x, rfl⟩ : ∃ x : Nat, y = (x : Int) := ⟨y.toNat, by omega⟩
    have hm' : m'.length = n := by simpa using h1
    have el : l = (b ++ [(x : Int)]) ++ m' := by rw [e]; simp
    have hll : l.length = h.N := by rw [e, List.length_append, h1]; omega
    have hok : okP h (b ++ [(x : Int)]) = true := okP_pre (l := l) (by rw [hbx, hll]; omega) (by omega) (fun i hi => by rw [el, lapp _ _ _ hi]) (fun i hi => h2 i (by omega)) (h3 (by omega))
    refine ⟨x, by omega, ?_⟩
    rw [if_pos hok]
    exact (ih (b ++ [(x : Int)]) l (by rw [hbx]; omega) (hrx x (by omega))).2 ⟨m', el, hm', h2, fun _ => h3 (by omega)⟩
theorem mem_all {h : Hl} (hN : 0 < h.N) {l : List Int} : l ∈ allT h ↔ Tru h l := by
 unfold allT
 rw [mem_infl h.N [] l (Nat.zero_add _) fun i hi => absurd hi (Nat.not_lt_zero _)]
 have key : l.length = h.N → (okP h l = true ↔ ∀ q, q < h.so.length → (h.snd q).lo ≤ lsN (wetS h (h.snd q).dr (h.snd q).li) l h.N ∧ lsN (wetS h (h.snd q).dr (h.snd q).li) l h.N ≤ (h.snd q).hi) := fun hl => by
  unfold okP okQ
  rw [List.all_eq_true, hl]
  constructor
  ·intro hq q hs
   have := hq q (List.mem_range.2 hs)
   rw [Bool.and_eq_true, decide_eq_true_eq, decide_eq_true_eq, moN_end h _ (Nat.le_refl _)] at this
   omega
  ·intro hq q hs
   have := hq q (List.mem_range.1 hs)
   rw [Bool.and_eq_true, decide_eq_true_eq, decide_eq_true_eq, moN_end h _ (Nat.le_refl _)]
   omega
 constructor
 ·rintro ⟨m, e, h1, h2, h3⟩
  rw [List.nil_append] at e
  subst e
  exact ⟨h1, h2, (key h1).1 (h3 hN)⟩
 ·intro t
  exact ⟨l, rfl, t.len, t.at_, fun _ => (key t.len).2 t.so⟩
def spnL (f : List Int → Int) (L : List (List Int)) : Nat → Int × Int
 | 0 => (f (L.getD 0 []), f (L.getD 0 []))
 | i + 1 => (min (spnL f L i).1 (f (L.getD i [])), max (spnL f L i).2 (f (L.getD i [])))
theorem spnL_spec (f : List Int → Int) (L : List (List Int)) (h : 0 < L.length) : ∀ i, i ≤ L.length → (∀ q, q < i → (spnL f L i).1 ≤ f (L.getD q []) ∧ f (L.getD q []) ≤ (spnL f L i).2) ∧ (∃ p, p < L.length ∧ (spnL f L i).1 = f (L.getD p [])) ∧ ∃ p, p < L.length ∧ (spnL f L i).2 = f (L.getD p [])
 | 0, _ => ⟨fun q hq => absurd hq (Nat.not_lt_zero _), ⟨0, h, rfl⟩, 0, h, rfl⟩
 | i + 1, hi => by
   obtain ⟨h1, ⟨p, hp, e1⟩, r, hr, e2⟩ := spnL_spec f L h i (by omega)
   refine ⟨fun q hq => ?_, ?_, ?_⟩
   ·simp only [spnL]
    by_cases e : q = i
    ·subst e; omega
    ·have := h1 q (by omega); omega
   ·simp only [spnL]
    rcases Int.le_total (spnL f L i).1 (f (L.getD i [])) with q | q
    ·exact ⟨p, hp, by rw [← e1]; omega⟩
    ·exact ⟨i, by omega, by omega⟩
   ·simp only [spnL]
    rcases Int.le_total (spnL f L i).2 (f (L.getD i [])) with q | q
    ·exact ⟨i, by omega, by omega⟩
    ·exact ⟨r, hr, by rw [← e2]; omega⟩
def spnV (f : List Int → Int) (L : List (List Int)) : Int × Int := spnL f L L.length
theorem spnV_in {f : List Int → Int} {L : List (List Int)} {l : List Int} (h : l ∈ L) : (spnV f L).1 ≤ f l ∧ f l ≤ (spnV f L).2 := by
 obtain ⟨i, hi, e⟩ := List.getElem_of_mem h
 have hp : 0 < L.length := by omega
 have := (spnL_spec f L hp L.length (Nat.le_refl _)).1 i hi
 have e2 : L.getD i [] = l := by rw [List.getD_eq_getElem?_getD, List.getElem?_eq_getElem hi, ← e]; rfl
 rw [e2] at this
 exact this
theorem spnV_sub {f : List Int → Int} {L M : List (List Int)} (hp : 0 < M.length) (h : ∀ l ∈ M, l ∈ L) : (spnV f L).1 ≤ (spnV f M).1 ∧ (spnV f M).2 ≤ (spnV f L).2 := by
 obtain ⟨_, ⟨p, hp1, e1⟩, r, hr, e2⟩ := spnL_spec f M hp M.length (Nat.le_refl _)
 have hm : ∀ i, i < M.length → M.getD i [] ∈ M := fun i hi => by
  rw [List.getD_eq_getElem?_getD, List.getElem?_eq_getElem hi]; exact List.getElem_mem hi
 have a := spnV_in (f := f) (h _ (hm p hp1))
 have b := spnV_in (f := f) (h _ (hm r hr))
 unfold spnV at a b ⊢
 rw [e1, e2]
 exact ⟨a.1, b.2⟩
end Go.Proofs.Ytclkjifgipcamaa
end
section
set_option linter.unusedVariables false
set_option linter.unusedSimpArgs false
namespace Go.Proofs.Ytclkjifgipcamaa
open Go.V
/-- The sets that agree with what is known: which were raked, and which of these leak. -/
def agr (L : List Nat) (r q : Nat) : List Nat := L.filter fun s => decide (s &&& r = q)
/-- The first seam that is not raked of which a number is least. -/
def bsS (r : Nat) (val : Nat → Int) : Nat → Option (Nat × Int)
 | 0 => none
 | i + 1 => if r.testBit i = true then bsS r val i else match bsS r val i with
   | none => some (i, val i)
   | some (x, n) => if val i < n then some (i, val i) else some (x, n)
theorem bsS_val {r : Nat} {val : Nat → Int} {x : Nat} {n : Int} : ∀ i, bsS r val i = some (x, n) → x < i ∧ r.testBit x = false ∧ n = val x
 | 0, h => by cases h
 | i + 1, h => by
   simp only [bsS] at h
   split at h
   ·have := bsS_val i h
    exact ⟨by omega, this.2⟩
   ·rename_i hr
    have hr : r.testBit i = false := by simpa using hr
    cases hb : bsS r val i with
    | none =>
      rw [hb] at h
      simp only [Option.some.injEq, Prod.mk.injEq] at h
      obtain ⟨rfl, rfl⟩ := h
      exact ⟨by omega, hr, rfl⟩
    | some p =>
      obtain ⟨y, m⟩ := p
      rw [hb] at h
      dsimp only at h
      split at h
      ·simp only [Option.some.injEq, Prod.mk.injEq] at h
       obtain ⟨rfl, rfl⟩ := h
       exact ⟨by omega, hr, rfl⟩
      ·simp only [Option.some.injEq, Prod.mk.injEq] at h
       obtain ⟨rfl, rfl⟩ := h
       have := bsS_val i hb
       exact ⟨by omega, this.2⟩
theorem bsS_some {r : Nat} {val : Nat → Int} {x : Nat} (hr : r.testBit x = false) : ∀ i, x < i → ∃ p, bsS r val i = some p
 | 0, h => absurd h (Nat.not_lt_zero _)
 | i + 1, h => by
   simp only [bsS]
   by_cases e : x = i
   ·subst e
    rw [if_neg (by rw [hr]; decide)]
    cases bsS r val x with
    | none => exact ⟨_, rfl⟩
    | some p =>
      obtain ⟨y, m⟩ := p
      dsimp only
      split
      ·exact ⟨_, rfl⟩
      ·exact ⟨_, rfl⟩
   ·obtain ⟨p, hp⟩ := bsS_some hr i (by omega)
    rw [hp]
    split
    ·exact ⟨_, rfl⟩
    ·obtain ⟨y, m⟩ := p
     dsimp only
     split
     ·exact ⟨_, rfl⟩
     ·exact ⟨_, rfl⟩
/-- The seam to rake, and how many fathoms are enough at worst. -/
def wsV (N : Nat) (F : Nat → Int) (L : List Nat) : Nat → Nat → Nat → Nat × Int
 | 0, _, _ => (0, 0)
 | m + 1, r, q => if (agr L r q).length ≤ 1 then (0, 0) else
   (bsS r (fun x => F x + max (max (wsV N F L m (r ||| 2 ^ x) (q ||| 2 ^ x)).2 (wsV N F L m (r ||| 2 ^ x) q).2) 0) N).getD (0, 0)
def wsX (N : Nat) (F : Nat → Int) (L : List Nat) (m r q x : Nat) : Int := F x + max (max (wsV N F L m (r ||| 2 ^ x) (q ||| 2 ^ x)).2 (wsV N F L m (r ||| 2 ^ x) q).2) 0
theorem wsV_succ (N : Nat) (F : Nat → Int) (L : List Nat) (m r q : Nat) : wsV N F L (m + 1) r q = if (agr L r q).length ≤ 1 then (0, 0) else (bsS r (wsX N F L m r q) N).getD (0, 0) := rfl
theorem two_ne {α : Type} {l : List α} (h : 1 < l.length) (hn : l.Nodup) : ∃ a b, a ∈ l ∧ b ∈ l ∧ a ≠ b := by
 match l, h with
 | a :: b :: t, _ =>
   refine ⟨a, b, by simp, by simp, fun e => ?_⟩
   subst e
   simp at hn
theorem free_bit {L : List Nat} {N r q : Nat} (hn : L.Nodup) (hN : ∀ s ∈ L, s < 2 ^ N) (h : 1 < (agr L r q).length) : ∃ x, x < N ∧ r.testBit x = false := by
 obtain ⟨a, b, ha, hb, hne⟩ := two_ne h (hn.filter _)
 unfold agr at ha hb
 rw [List.mem_filter, decide_eq_true_eq] at ha hb
 obtain ⟨x, hx⟩ : ∃ x, a.testBit x ≠ b.testBit x := by
  rw [← Classical.not_forall_not]
  intro hall
  exact hne (Nat.eq_of_testBit_eq fun i => Classical.not_not.1 (hall i))
 have hxN : x < N := by
  rw [← Nat.not_le]
  intro hle
  have h2 : 2 ^ N ≤ 2 ^ x := Nat.pow_le_pow_right (by decide) hle
  have h3 := hN a ha.1
  have h4 := hN b hb.1
  rw [Nat.testBit_lt_two_pow (by omega), Nat.testBit_lt_two_pow (by omega)] at hx
  exact hx rfl
 refine ⟨x, hxN, ?_⟩
 rw [← Bool.not_eq_true]
 intro hr
 have e1 : (a &&& r).testBit x = (b &&& r).testBit x := by rw [ha.2, hb.2]
 rw [Nat.testBit_and, Nat.testBit_and, hr, Bool.and_true, Bool.and_true] at e1
 exact hx e1
/-- A step of raking: the seam is one that was not raked, and what is enough at worst is enough behind it. -/
theorem ws_step {N : Nat} {F : Nat → Int} {L : List Nat} {m r q : Nat} (hn : L.Nodup) (hN : ∀ s ∈ L, s < 2 ^ N) (h : 1 < (agr L r q).length) :
  ∃ x, x < N ∧ r.testBit x = false ∧ wsV N F L (m + 1) r q = (x, wsX N F L m r q x) := by
 obtain ⟨y, hy, hr⟩ := free_bit hn hN h
 obtain ⟨⟨x, n⟩, hp⟩ := bsS_some (val := wsX N F L m r q) hr N hy
 obtain ⟨h1, h2, h3⟩ := bsS_val N hp
 refine ⟨x, h1, h2, ?_⟩
 rw [wsV_succ, if_neg (by omega), hp, ← h3]
 rfl
theorem ws_next {N : Nat} {F : Nat → Int} {L : List Nat} {m r q x : Nat} (T : Bool) : F x + (wsV N F L m (r ||| 2 ^ x) (if T = true then q ||| 2 ^ x else q)).2 ≤ wsX N F L m r q x := by
 unfold wsX
 cases T
 ·show F x + (wsV N F L m (r ||| 2 ^ x) q).2 ≤ _; omega
 ·show F x + (wsV N F L m (r ||| 2 ^ x) (q ||| 2 ^ x)).2 ≤ _; omega
theorem ws_nonneg {N : Nat} {F : Nat → Int} {L : List Nat} (hF : ∀ x, x < N → 0 ≤ F x) : ∀ m r q, 0 ≤ (wsV N F L m r q).2
 | 0, _, _ => Int.le_refl _
 | m + 1, r, q => by
   rw [wsV_succ]
   split
   ·exact Int.le_refl _
   ·cases hb : bsS r (wsX N F L m r q) N with
    | none => exact Int.le_refl _
    | some p =>
      obtain ⟨x, n⟩ := p
      obtain ⟨h1, h2, h3⟩ := bsS_val N hb
      show 0 ≤ n
      rw [h3]
      have := hF x h1
      unfold wsX
      omega
theorem agr_mem {L : List Nat} {r q s : Nat} : s ∈ agr L r q ↔ s ∈ L ∧ s &&& r = q := by
 unfold agr
 rw [List.mem_filter, decide_eq_true_eq]
theorem and_more {s r q x : Nat} (h : s &&& r = q) : s &&& (r ||| 2 ^ x) = if s.testBit x = true then q ||| 2 ^ x else q := by
 refine Nat.eq_of_testBit_eq fun i => ?_
 have hq : q.testBit i = (s.testBit i && r.testBit i) := by rw [← h, Nat.testBit_and]
 rw [Nat.testBit_and, Nat.testBit_or, Nat.testBit_two_pow]
 by_cases hb : s.testBit x = true
 ·rw [if_pos hb, Nat.testBit_or, Nat.testBit_two_pow, hq]
  by_cases e : x = i
  ·subst e; rw [hb]; simp
  ·simp [e]
 ·rw [if_neg hb, hq]
  have hb : s.testBit x = false := by simpa using hb
  by_cases e : x = i
  ·subst e; rw [hb]; simp
  ·simp [e]
/-- When all that differ are known only one set agrees. -/
theorem agr_one {L : List Nat} {N r q : Nat} (hn : L.Nodup) (hN : ∀ s ∈ L, s < 2 ^ N) (h : ∀ x, x < N → r.testBit x = true) : (agr L r q).length ≤ 1 := by
 rw [← Nat.not_lt]
 intro hl
 obtain ⟨x, hx, hr⟩ := free_bit hn hN hl
 rw [h x hx] at hr
 cases hr
end Go.Proofs.Ytclkjifgipcamaa
end
section
set_option linter.unusedVariables false
set_option linter.unusedSimpArgs false
namespace Go.Proofs.Ytclkjifgipcamaa
open Go.V
/-- The set of the first numbers of which something is so. -/
def bitN (p : Nat → Bool) : Nat → Nat
 | 0 => 0
 | i + 1 => if p i = true then bitN p i ||| 2 ^ i else bitN p i
theorem bitN_bit (p : Nat → Bool) (j : Nat) : ∀ i, (bitN p i).testBit j = (decide (j < i) && p j)
 | 0 => by simp [bitN]
 | i + 1 => by
   simp only [bitN]
   have ih := bitN_bit p j i
   split
   ·rename_i hb
    rw [Nat.testBit_or, ih, Nat.testBit_two_pow]
    by_cases e : i = j
    ·subst e; simp [hb]
    ·have : decide (j < i + 1) = decide (j < i) := decide_eq_decide.2 (by omega)
     simp [e, this]
   ·rename_i hb
    rw [ih]
    by_cases e : i = j
    ·subst e; simp at hb; simp [hb]
    ·have : decide (j < i + 1) = decide (j < i) := decide_eq_decide.2 (by omega)
     rw [this]
theorem bitN_lt (p : Nat → Bool) (i : Nat) : bitN p i < 2 ^ i := by
 refine Nat.lt_pow_two_of_testBit _ fun j hj => ?_
 rw [bitN_bit, decide_eq_false (by omega)]; rfl
/-- A list of sets, each once, in order. -/
def setsD (L : List Nat) (N : Nat) : List Nat := (List.range (2 ^ N)).filter fun s => decide (s ∈ L)
theorem mem_setsD {L : List Nat} {N s : Nat} : s ∈ setsD L N ↔ s < 2 ^ N ∧ s ∈ L := by
 unfold setsD
 rw [List.mem_filter, List.mem_range, decide_eq_true_eq]
theorem setsD_nodup (L : List Nat) (N : Nat) : (setsD L N).Nodup := List.Pairwise.filter _ List.nodup_range
theorem setsD_sorted (L : List Nat) (N : Nat) : (setsD L N).Pairwise (· < ·) := List.Pairwise.filter _ List.pairwise_lt_range
open Classical in
/-- How often each seam has opened at rest. -/
noncomputable def Dv.stU (d : Dv) (b : Nat → Int) : Nat → Int := if h : ∃ u, d.Run b u ∧ d.Still b u then Classical.choose h else fun _ => 0
/-- Which seams are open at rest. -/
noncomputable def Dv.opn (d : Dv) (b : Nat → Int) : Nat := bitN (fun i => decide (0 < d.stU b i)) d.n
end Go.Proofs.Ytclkjifgipcamaa
end
section
set_option linter.unusedVariables false
set_option linter.unusedSimpArgs false
namespace Go.V
set_option linter.unusedSectionVars false
variable [Inhabited GivT]
theorem tri_bound {P : Program} {f : FuncId} {recv : AV} {args : List AV} {H : Hp} {R : Res → Hp → Prop} (h : Tri P (fnA f) (recv :: args) H R) :
  Tri P (.func (.func f) [recv] []) args H R := by
 intro S vf vs hH hvf ha
 cases hvf with
 | @func _ _ _ ws us hn hu h1 h2 =>
   have hw : ∃ x, ws = #[x] := by
    have : ws.size = 1 := by simpa using hn
    exact ⟨ws[0], Array.ext (by simp [this]) (fun i h1 h2 => by
     have : i = 0 := by simp at h2; omega
     subst this; rfl)⟩
   obtain ⟨x, rfl⟩ := hw
   have hus : us = #[] := by simpa using hu
   subst hus
   have hx := h1 0 (by simp)
   simp only [List.getD_cons_zero] at hx
   have hx' : VRel S recv x := by simpa [Array.getD_eq_getD_getElem?] using hx
   obtain ⟨nx, e1, e2⟩ := h S (.func (.func f) #[] #[]) (x :: vs) hH (.func rfl rfl (fun k hk => absurd hk (by simp)) (fun k hk => absurd hk (by simp)))
     ⟨by simp [ha.1], fun k hk => by
      cases k with
      | zero => exact hx'
      | succ k => simpa using ha.2 k (by simpa using hk)⟩
   refine ⟨nx, ?_, e2⟩
   rw [← e1]
   simp only [Deferred.ofValue, Sem.run_bind, Sem.run_pure, Result.andThen_ok, invoke]
   simp
end Go.V
end
section
set_option linter.unusedVariables false
set_option linter.unusedSimpArgs false
namespace Go.V
set_option linter.unusedSectionVars false
variable [Inhabited GivT]
def keyJ (P : Program) : Nat → TypeId → Option Nat
 | 0, _ => none
 | d + 1, T => match P.underlying T with
   | some (.int .i64) => if P.cellsOf T = 1 then some 1 else none
   | some (.array n e) => match d, P.underlying e with
     | _ + 1, some (.int .i64) => if P.cellsOf e = 1 ∧ P.cellsOf T = n then some n else none
     | _, _ => none
   | some (.struct fs) => match keyFs P (keyJ P d) fs.toList 0 with
     | some n => if P.cellsOf T = n then some n else none
     | none => none
   | _ => none

end Go.V
end
section
set_option linter.unusedVariables false
set_option linter.unusedSimpArgs false
namespace Go.V
set_option linter.unusedSectionVars false
variable [Inhabited GivT]
/-- The same value, with some leaves told otherwise. -/
inductive FrzX (L : AV → AV → Prop) : AV → AV → Prop
 | same (x : AV) : FrzX L x x
 | leaf {x y : AV} (h : L x y) : FrzX L x y
 | agg {cs cs' : List AV} (hl : cs'.length = cs.length) (h : ∀ k, k < cs.length → FrzX L (cs.getD k .any) (cs'.getD k .any)) : FrzX L (.agg cs) (.agg cs')
 | tuple {cs cs' : List AV} (hl : cs'.length = cs.length) (h : ∀ k, k < cs.length → FrzX L (cs.getD k .any) (cs'.getD k .any)) : FrzX L (.tuple cs) (.tuple cs')
 | rptr {n st i j : Nat} {f g : Nat → List AV} (hl : ∀ k, k < n → (f k).length = st → (g k).length = st) (h : ∀ k l, k < n → l < st → FrzX L ((f k).getD l .any) ((g k).getD l .any)) : FrzX L (.rptr n st f i j) (.rptr n st g i j)
 | func {fn : Fn} {a b a' b' : List AV} (hl : a'.length = a.length) (hm : b'.length = b.length) (h : ∀ k, k < a.length → FrzX L (a.getD k .any) (a'.getD k .any)) (h' : ∀ k, k < b.length → FrzX L (b.getD k .any) (b'.getD k .any)) : FrzX L (.func fn a b) (.func fn a' b')

theorem FrzX.conv {L : AV → AV → Prop} {S S2 : St} (hle : Le S S2) (hc : ∀ x y, L x y → ∀ v, VRel S x v → VRel S2 y v) {x y : AV} (hxy : FrzX L x y) : ∀ v, VRel S x v → VRel S2 y v := by
 induction hxy with
 | same x => intro v hv; exact hv.mono hle
 | leaf h => intro v hv; exact hc _ _ h v hv
 | agg hl h ih =>
   intro v hv
   cases hv with
   | agg hn hv => exact .agg (hn.trans hl.symm) fun k hk => ih k (by omega) _ (hv k (by omega))
 | tuple hl h ih =>
   intro v hv
   cases hv with
   | tuple hn hv => exact .tuple (hn.trans hl.symm) fun k hk => ih k (by omega) _ (hv k (by omega))
 | @rptr n st i j f g hl h ih =>
   intro v hv
   cases hv with
   | rptr hi hb hsz hf hh =>
     exact .rptr (hle.imm _ hi) ((hle.keep _ hi).trans hb) hsz (fun k hk => hl k hk (hf k hk)) (fun k l hk hl2 => ih k l hk hl2 _ (hh k l hk hl2))
 | func hl hm h h' ih ih' =>
   intro v hv
   cases hv with
   | func hn hn' h1 h2 => exact .func (hn.trans hl.symm) (hn'.trans hm.symm) (fun k hk => ih k (by omega) _ (h1 k (by omega))) (fun k hk => ih' k (by omega) _ (h2 k (by omega)))

def Lb (id st n : Nat) (f : Nat → List AV) (x y : AV) : Prop := ∃ i j, x = .ref id 0 st i j ∧ y = .rptr n st f i j
def Lr (id st n : Nat) (f : Nat → List AV) (x y : AV) : Prop := x = .sl id st n ∧ ∃ g, (∀ i, i < n → f i = g i) ∧ y = .rsl n st g

/-- A box, or a row, that is handed back, to be written no more. -/
theorem Tri.thawX {P : Program} {fv : AV} {args : List AV} {H : Hp} {R1 R : Res → Hp → Prop} (h : Tri P fv args H R1)
  (hR : ∀ r H', R1 r H' → R r H' ∨ ∃ v v' id st n f, r = .ret v ∧ ((H' id = some (.box st n f) ∧ FrzX (Lb id st n f) v v') ∨ (H' id = some (.row st n f) ∧ FrzX (Lr id st n f) v v')) ∧ R (.ret v') (H'.del id)) : Tri P fv args H R := by
 intro S vf vs hH hvf ha
 obtain ⟨nx, h1, h2⟩ := h S vf vs hH hvf ha
 have ho : ∀ e w, Out S R1 e w → Out S R e w := by
  rintro e w ⟨S', r, H', hw, hle, hH', hres, hr⟩
  rcases hR r H' hr with hr | ⟨v, v', id, st, n, f, rfl, hob, hr⟩
  ·exact ⟨S', r, H', hw, hle, hH', hres, hr⟩
  ·cases e with
   | returned cv =>
     rcases hob with ⟨hob, hf⟩ | ⟨hob, hf⟩
     ·obtain ⟨S2, hw2, hle2, hH2, hc⟩ := frz_stepB hH' hob
      exact ⟨S2, .ret v', _, hw2.trans hw, hle.trans hle2, hH2, hf.conv hle2 (fun x y hxy v hv => by obtain ⟨i, j, rfl, rfl⟩ := hxy; exact hc _ _ _ hv) cv hres, hr⟩
     ·obtain ⟨S2, hw2, hle2, hH2, hc⟩ := frz_step hH' hob
      exact ⟨S2, .ret v', _, hw2.trans hw, hle.trans hle2, hH2, hf.conv hle2 (fun x y hxy v hv => by obtain ⟨rfl, g, hg, rfl⟩ := hxy; exact AV.Le.rsl hg _ _ (hc v hv)) cv hres, hr⟩
   | _ => exact hres.elim
 refine ⟨nx, h1, ?_⟩
 cases nx <;> simp only [NextOk] at h2 ⊢
 ·exact Calls.mono h2 ho
 ·exact h2.mono ho
end Go.V
end
section
set_option linter.unusedVariables false
set_option linter.unusedSimpArgs false
namespace Go.V
set_option linter.unusedSectionVars false
variable [Inhabited GivT]
theorem HSub_del {A B : Hp} {i : Nat} (h : B i = none) (k : Go.V.HSub A B) : Go.V.HSub (A.del i) B := by
 intro j o hj
 have e : j ≠ i := fun e => by rw [e, h] at hj; cases hj
 obtain ⟨o', h1, h2⟩ := k j o hj
 exact ⟨o', by rw [Hp.del_ne _ e]; exact h1, h2⟩
end Go.V
end
section
set_option linter.unusedVariables false
set_option linter.unusedSimpArgs false
namespace Go.V
set_option linter.unusedSectionVars false
variable [Inhabited GivT]
theorem Ent.step {s : Fr} {ds : List AD} {H : Hp} {K : Fr → List AD → Hp → Prop} (h : Ent s ds H fun s ds H => Ent s ds H K) : Ent s ds H K := Ent.bind h fun _ _ _ h => h
theorem fn_ent {P : Program} {fn : Func} {R : Res → Hp → Prop} {s : Fr} {ds : List AD} {H : Hp} (h : Ent s ds H fun s ds H => FnPost P fn R .ret s ds H) : FnPost P fn R .ret s ds H := Ent.step h
end Go.V
end
section
set_option linter.unusedVariables false
namespace Go.V
set_option linter.unusedSectionVars false
variable [Inhabited GivT]
theorem Tri.args {P : Program} {fv : AV} {args args' : List AV} {H : Hp} {R : Res → Hp → Prop} (t : Tri P fv args' H R) (hl : args'.length = args.length) (h : ∀ k, k < args.length → AV.Le (args.getD k .any) (args'.getD k .any)) : Tri P fv args H R :=
 fun S vf vs hH hf ha => t S vf vs hH hf ⟨by rw [ha.1, hl], fun k hk => h k (by omega) S _ (ha.2 k (by omega))⟩
end Go.V
end
section
set_option linter.unusedVariables false
namespace Go.V
set_option linter.unusedSectionVars false
variable [Inhabited GivT]
/-- l is an order of all operations that are not in 'done', each behind what B puts ahead of it. -/
structure TopoB (ops : Array Oper) (B : Nat → Nat → Bool) (done : Nat → Prop) (l : List Nat) : Prop where
 lt : ∀ i ∈ l, i < ops.size
 nodup : l.Nodup
 apart : ∀ i ∈ l, ¬ done i
 all : ∀ i, i < ops.size → done i ∨ i ∈ l
 edges : ∀ l1 i l2, l = l1 ++ i :: l2 → ∀ k, B i k = true → done k ∨ k ∈ l1
theorem TopoB.tail {ops : Array Oper} {B : Nat → Nat → Bool} {done : Nat → Prop} {i : Nat} {l : List Nat} (h : TopoB ops B done (i :: l)) : TopoB ops B (fun j => done j ∨ j = i) l where
 lt := fun j hj => h.lt j (by simp [hj])
 nodup := (List.nodup_cons.1 h.nodup).2
 apart := fun j hj hd => by
  rcases hd with hd | rfl
  ·exact h.apart j (by simp [hj]) hd
  ·exact (List.nodup_cons.1 h.nodup).1 hj
 all := fun j hj => by
  rcases h.all j hj with hd | hm
  ·exact .inl (.inl hd)
  ·rcases List.mem_cons.1 hm with rfl | hm
   ·exact .inl (.inr rfl)
   ·exact .inr hm
 edges := fun l1 j l2 hl k hb => by
  rcases h.edges (i :: l1) j l2 (by rw [hl]; rfl) k hb with hd | hm
  ·exact .inl (.inl hd)
  ·rcases List.mem_cons.1 hm with hm | hm
   ·exact .inl (.inr hm)
   ·exact .inr hm
theorem TopoB.head {ops : Array Oper} {B : Nat → Nat → Bool} {done : Nat → Prop} {i k : Nat} {l : List Nat} (h : TopoB ops B done (i :: l)) (hb : B i k = true) : done k := by
 rcases h.edges [] i l rfl k hb with hd | hm
 ·exact hd
 ·simp at hm

structure Plan3 (ops : Array Oper) (B : Nat → Nat → Bool) (sg : Nat → Nat) (stages : List Stg) (last : List Nat) : Prop where
 ssa : ∀ i k, i < ops.size → k < ops.size → ∀ d, (opAt ops.toList k).dst = some d → (d ∈ readsOf ops.toList (opAt ops.toList i) → B i k = true ∨ (B k i = true ∧ sg k % 2 = 1)) ∧ (k ≠ i → (opAt ops.toList i).dst ≠ some d)
 st : ∀ j st kp e, stages[j]? = some (st, kp, e) → st = (List.range ops.size).filter (fun i => sg i == 2 * j) ∧ e < ops.size ∧ (∀ i, i < ops.size → (sg i = 2 * j + 1 ↔ i = e)) ∧
  (∀ i, i < ops.size → 2 * j + 2 ≤ sg i → B i e = true) ∧
  (∀ i, i < ops.size → sg i % 2 = 0 → sg i ≤ 2 * j → B e i = true ∨ heapFree (opAt ops.toList i).op = true ∨ i ∈ kp)
 last : last = (List.range ops.size).filter (fun i => sg i == 2 * stages.length)
 le : ∀ i, i < ops.size → sg i ≤ 2 * stages.length
 ord : ∀ i k, i < ops.size → k < ops.size → B i k = true → sg k ≤ sg i
 lt : ∀ i k, i < ops.size → k < ops.size → B i k = true → sg i = sg k → sg i % 2 = 0 → k < i

def ordersOf (all : List Oper) : Nat → List Nat → List (List Nat)
 | 0, _ => [[]]
 | n + 1, rem => rem.flatMap fun e => if rem.any (fun k => bitM all e k) = true then [] else (ordersOf all n (rem.filter fun k => k != e)).map (e :: ·)
/-- What stands ahead of an operation, where the effects come in this order. -/
def bitE (all : List Oper) (E : List Nat) (i k : Nat) : Bool := bitM all i k || E.any fun eb => (i == eb || bitM all i eb) && (E.takeWhile fun x => x != eb).any fun ea => k == ea || bitM all ea k
theorem Topo.before {ops : Array Oper} {l : List Nat} (h : Topo ops (fun _ => False) l) {j i : Nat} (ha : Anc ops j i) : ∀ l1 l2, l = l1 ++ i :: l2 → j ∈ l1 := by
 induction ha with
 | edge ho he hb hj =>
   intro l1 l2 hl
   subst hj
   exact (h.edges l1 _ l2 hl _ ho _ he hb).resolve_left id
 | trans h1 h2 ih1 ih2 =>
   intro l1 l2 hl
   obtain ⟨a, b, rfl⟩ := List.append_of_mem (ih2 l1 l2 hl)
   have := ih1 a (b ++ _ :: l2) (by rw [hl, List.append_assoc]; rfl)
   exact List.mem_append_left _ this
abbrev Pln := List Nat × List Stg × List Nat
def plan3Ok (ops : Array Oper) (E : List Nat) (sg : List Nat) (stages : List Stg) (last : List Nat) : Bool :=
 decide (stages.map (fun x => x.2.2) = E) &&
 ((List.range ops.size).all fun i => (List.range ops.size).all fun k => match (opAt ops.toList k).dst with
   | some d => (!(readsOf ops.toList (opAt ops.toList i)).contains d || bitE ops.toList E i k || (bitE ops.toList E k i && sg.getD k 0 % 2 == 1)) && (decide (k = i) || decide ((opAt ops.toList i).dst ≠ some d))
   | none => true) &&
 ((List.range stages.length).all fun j => match stages[j]? with
   | some (st, kp, e) => decide (st = (List.range ops.size).filter fun i => sg.getD i 0 == 2 * j) && decide (e < ops.size) &&
     ((List.range ops.size).all fun i => decide (sg.getD i 0 = 2 * j + 1) == decide (i = e)) &&
     ((List.range ops.size).all fun i => decide (sg.getD i 0 < 2 * j + 2) || bitE ops.toList E i e) &&
     ((List.range ops.size).all fun i => sg.getD i 0 % 2 == 1 || decide (2 * j < sg.getD i 0) || bitE ops.toList E e i || heapFree (opAt ops.toList i).op || kp.contains i)
   | none => true) &&
 decide (last = (List.range ops.size).filter fun i => sg.getD i 0 == 2 * stages.length) &&
 ((List.range ops.size).all fun i => decide (sg.getD i 0 ≤ 2 * stages.length)) &&
 ((List.range ops.size).all fun i => (List.range ops.size).all fun k => !bitE ops.toList E i k || (decide (sg.getD k 0 ≤ sg.getD i 0) && (decide (sg.getD i 0 ≠ sg.getD k 0) || decide (sg.getD i 0 % 2 ≠ 0) || decide (k < i))))

/-- A region whose order is open: a plan for each order of its effects. -/
def draw3Ok (P : Program) (ops : Array Oper) (effs : List Nat) (plans : List Pln) : Bool :=
 (P.follows .mixedOrders || !Region.departs ops) &&
 ((List.range ops.size).all fun k => match ops[k]? with
   | some o => o.after.toList.all fun e => !Region.binds .any e || decide (e.on < k)
   | none => true) &&
 effs.all (fun e => decide (e < ops.size)) && decide effs.Nodup &&
 (ordersOf ops.toList effs.length effs).all fun E => plans.any fun p => plan3Ok ops E p.1 p.2.1 p.2.2

section
variable {r : Option Nat} {P : Program} {m : Option Tmp → Bool} {n : Nat} {k : List It} {s : Fr} {ds : List AD} {H : Hp} {Q : Post}
end
end Go.V
end
section
set_option linter.unusedVariables false
namespace Go.V
set_option linter.unusedSectionVars false
variable [Inhabited GivT]
def CutS {σ : Type} (inv : σ → Prop) (fr : σ → List (Nat × AV)) (hp : σ → Hp) (ds0 : List AD) : Post := fun e s ds H => match e with
 | .normal => Ent s ds H fun s2 ds2 H2 => ∃ x, inv x ∧ s2 = Fr.of (fr x) ∧ ds2 = ds0 ∧ H2 = hp x
 | _ => False
section
variable {P : Program} {m : Option Tmp → Bool} {n : Nat} {k : List It} {s : Fr} {ds : List AD} {H : Hp} {Q : Post}
end
end Go.V
end
section
set_option linter.unusedVariables false
namespace Go.V
set_option linter.unusedSectionVars false
variable [Inhabited GivT]
def CutG {σ : Type} (inv : σ → Prop) (fr : σ → List (Nat × AV)) (hp : σ → Hp) (dsf : σ → List AD) (Q : Post) : Post := fun e s ds H => match e with
 | .normal => Ent s ds H fun s2 ds2 H2 => ∃ x, inv x ∧ s2 = Fr.of (fr x) ∧ ds2 = dsf x ∧ H2 = hp x
 | e => Q e s ds H
section
variable {r : Option Nat} {P : Program} {m : Option Tmp → Bool} {n : Nat} {s : Fr} {ds : List AD} {H : Hp} {Q : Post} {σ : Type} {inv : σ → Prop} {fr : σ → List (Nat × AV)} {hp : σ → Hp} {dsf : σ → List AD}
theorem cutG_of (x : σ) (h : inv x) (hs : Slots s (fr x)) (hd : ds = dsf x) (hH : HSub H (hp x)) : CutG inv fr hp dsf Q .normal s ds H := by
 subst hd
 exact Ent.of (fr x) hs hH ⟨x, h, rfl, rfl, rfl⟩
end
section
variable {r : Option Nat} {P : Program} {m : Option Tmp → Bool} {n : Nat} {s : Fr} {ds : List AD} {H : Hp} {Q : Post} {σ : Type} (inv : σ → Prop) (fr : σ → List (Nat × AV)) (hp : σ → Hp) (dsf : σ → List AD)
theorem wps_cutG {a b : Code} (h1 : VS r P m n [.code a] s ds H (CutG inv fr hp dsf Q)) (h2 : ∀ x, inv x → WPS r P n b (Fr.of (fr x)) (dsf x) (hp x) Q) : WPS r P n (.seq a b) s ds H Q := by
 refine wps_seq ((vcC_sound a h1).mono fun x s' ds' H' hq => ?_)
 cases x with
 | normal =>
   have hq : Ent s' ds' H' fun s2 ds2 H2 => ∃ x, inv x ∧ s2 = Fr.of (fr x) ∧ ds2 = dsf x ∧ H2 = hp x := hq
   refine wps_ent (hq.mono fun s2 ds2 H2 hx => ?_)
   obtain ⟨x, hi, rfl, rfl, rfl⟩ := hx
   exact h2 x hi
 | ret => exact hq
 | pan v => exact hq
 | exit i => exact hq
theorem wps_cutG2 {a b c : Code} (h1 : VS r P m n [.code a, .code b] s ds H (CutG inv fr hp dsf Q)) (h2 : ∀ x, inv x → WPS r P n c (Fr.of (fr x)) (dsf x) (hp x) Q) : WPS r P n (.seq a (.seq b c)) s ds H Q := by
 refine wps_seq ((vcC_sound a h1).mono fun x s' ds' H' hq => ?_)
 cases x with
 | normal => exact wps_cutG inv fr hp dsf hq h2
 | ret => exact hq
 | pan v => exact hq
 | exit i => exact hq
theorem wps_cutG3 {a b c d : Code} (h1 : VS r P m n [.code a, .code b, .code c] s ds H (CutG inv fr hp dsf Q)) (h2 : ∀ x, inv x → WPS r P n d (Fr.of (fr x)) (dsf x) (hp x) Q) : WPS r P n (.seq a (.seq b (.seq c d))) s ds H Q := by
 refine wps_seq ((vcC_sound a h1).mono fun x s' ds' H' hq => ?_)
 cases x with
 | normal => exact wps_cutG2 inv fr hp dsf hq h2
 | ret => exact hq
 | pan v => exact hq
 | exit i => exact hq
end
theorem tri_wm {P : Program} {H : Hp} {f : FuncId} {fn : Func} {c : Code} {caps args : List AV} {R : Res → Hp → Prop}
  (hf : P.funcs[f]? = some fn) (hname : (fn.name == "runtime.NumGoroutine") = false)
  (hb : fn.body = some c) (hlen : (args ++ caps).length ≤ fn.ntmps) (hbody : WPS none P fn.ntmps c (argFr (args ++ caps)) [] H (FnPostM P fn R)) : Tri P (.func (.func f) [] caps) args H R := by
 intro S vf vs hH hvf ha
 cases hvf with
 | @func _ _ _ ws us hn hm h h' =>
   have hws : ws = #[] := by simpa using hn
   subst hws
   refine ⟨.enter f (vs.toArray ++ us), ?_, ?_⟩
   ·have hcf : (callFunc f (vs.toArray ++ us)).run P S.w = .ok (.enter f (vs.toArray ++ us)) S.w := by
     simp only [callFunc, Sem.run_bind, run_program, Result.andThen_ok, hf, hname, hb]
     simp
    simp only [Deferred.ofValue, Sem.run_bind, Sem.run_pure, Result.andThen_ok, invoke]
    have e : (#[] : Array Value) ++ vs.toArray = vs.toArray := by simp
    rw [e]
    exact hcf
   ·refine body_callsM hf hb hlen hbody hH ?_
    refine ⟨by simp [ha.1, hm], fun k hk => ?_⟩
    simp only [List.getD, Array.toList_append]
    by_cases hk' : k < args.length
    ·rw [List.getElem?_append_left hk', List.getElem?_append_left (by rw [ha.1]; exact hk')]
     exact ha.2 k hk'
    ·have e1 := ha.1
     simp only [List.length_append] at hk
     rw [List.getElem?_append_right (by omega), List.getElem?_append_right (by omega), e1]
     have := h' (k - args.length) (by omega)
     simpa [List.getD, Array.getD_eq_getD_getElem?] using this
end Go.V
end
section
set_option linter.unusedVariables false
namespace Go.V
set_option linter.unusedSectionVars false
variable [Inhabited GivT]
section
variable {r : Option Nat} {P : Program} {m : Option Tmp → Bool} {n : Nat} {s : Fr} {ds : List AD} {H : Hp} {Q : Post} {σ : Type} (inv : σ → Prop) (fr : σ → List (Nat × AV)) (hp : σ → Hp) (dsf : σ → List AD)
theorem wps_cutG4 {a0 a1 a2 a3 b : Code} (h1 : VS r P m n [.code a0, .code a1, .code a2, .code a3] s ds H (CutG inv fr hp dsf Q)) (h2 : ∀ x, inv x → WPS r P n b (Fr.of (fr x)) (dsf x) (hp x) Q) : WPS r P n (.seq a0 (.seq a1 (.seq a2 (.seq a3 b)))) s ds H Q := by
 refine wps_seq ((vcC_sound a0 h1).mono fun x s' ds' H' hq => ?_)
 cases x with
 | normal => exact wps_cutG3 inv fr hp dsf hq h2
 | ret => exact hq
 | pan v => exact hq
 | exit i => exact hq
theorem wps_cutG5 {a0 a1 a2 a3 a4 b : Code} (h1 : VS r P m n [.code a0, .code a1, .code a2, .code a3, .code a4] s ds H (CutG inv fr hp dsf Q)) (h2 : ∀ x, inv x → WPS r P n b (Fr.of (fr x)) (dsf x) (hp x) Q) : WPS r P n (.seq a0 (.seq a1 (.seq a2 (.seq a3 (.seq a4 b))))) s ds H Q := by
 refine wps_seq ((vcC_sound a0 h1).mono fun x s' ds' H' hq => ?_)
 cases x with
 | normal => exact wps_cutG4 inv fr hp dsf hq h2
 | ret => exact hq
 | pan v => exact hq
 | exit i => exact hq
theorem wps_cutG6 {a0 a1 a2 a3 a4 a5 b : Code} (h1 : VS r P m n [.code a0, .code a1, .code a2, .code a3, .code a4, .code a5] s ds H (CutG inv fr hp dsf Q)) (h2 : ∀ x, inv x → WPS r P n b (Fr.of (fr x)) (dsf x) (hp x) Q) : WPS r P n (.seq a0 (.seq a1 (.seq a2 (.seq a3 (.seq a4 (.seq a5 b)))))) s ds H Q := by
 refine wps_seq ((vcC_sound a0 h1).mono fun x s' ds' H' hq => ?_)
 cases x with
 | normal => exact wps_cutG5 inv fr hp dsf hq h2
 | ret => exact hq
 | pan v => exact hq
 | exit i => exact hq
theorem wps_cutG7 {a0 a1 a2 a3 a4 a5 a6 b : Code} (h1 : VS r P m n [.code a0, .code a1, .code a2, .code a3, .code a4, .code a5, .code a6] s ds H (CutG inv fr hp dsf Q)) (h2 : ∀ x, inv x → WPS r P n b (Fr.of (fr x)) (dsf x) (hp x) Q) : WPS r P n (.seq a0 (.seq a1 (.seq a2 (.seq a3 (.seq a4 (.seq a5 (.seq a6 b))))))) s ds H Q := by
 refine wps_seq ((vcC_sound a0 h1).mono fun x s' ds' H' hq => ?_)
 cases x with
 | normal => exact wps_cutG6 inv fr hp dsf hq h2
 | ret => exact hq
 | pan v => exact hq
 | exit i => exact hq
theorem wps_cutG8 {a0 a1 a2 a3 a4 a5 a6 a7 b : Code} (h1 : VS r P m n [.code a0, .code a1, .code a2, .code a3, .code a4, .code a5, .code a6, .code a7] s ds H (CutG inv fr hp dsf Q)) (h2 : ∀ x, inv x → WPS r P n b (Fr.of (fr x)) (dsf x) (hp x) Q) : WPS r P n (.seq a0 (.seq a1 (.seq a2 (.seq a3 (.seq a4 (.seq a5 (.seq a6 (.seq a7 b)))))))) s ds H Q := by
 refine wps_seq ((vcC_sound a0 h1).mono fun x s' ds' H' hq => ?_)
 cases x with
 | normal => exact wps_cutG7 inv fr hp dsf hq h2
 | ret => exact hq
 | pan v => exact hq
 | exit i => exact hq
end
/-- A cut, where more is to be said first. -/
theorem cutG_ent {σ : Type} {inv : σ → Prop} {fr : σ → List (Nat × AV)} {hp : σ → Hp} {dsf : σ → List AD} {Q : Post} {s : Fr} {ds : List AD} {H : Hp} (h : Ent s ds H fun s ds H => CutG inv fr hp dsf Q .normal s ds H) : CutG inv fr hp dsf Q .normal s ds H := Ent.bind h fun _ _ _ h => h
end Go.V
end
section
set_option linter.unusedVariables false
set_option linter.unusedSimpArgs false
namespace Go.V
set_option linter.unusedSectionVars false
variable [Inhabited GivT]
/-- The same value, with some leaves told otherwise, in rows too. -/
inductive FrzS (L : AV → AV → Prop) : AV → AV → Prop
 | same (x : AV) : FrzS L x x
 | leaf {x y : AV} (h : L x y) : FrzS L x y
 | agg {cs cs' : List AV} (hl : cs'.length = cs.length) (h : ∀ k, k < cs.length → FrzS L (cs.getD k .any) (cs'.getD k .any)) : FrzS L (.agg cs) (.agg cs')
 | rsl {n st : Nat} {f g : Nat → List AV} (hl : ∀ k, k < n → (f k).length = st → (g k).length = st) (h : ∀ k l, k < n → l < st → FrzS L ((f k).getD l .any) ((g k).getD l .any)) : FrzS L (.rsl n st f) (.rsl n st g)
theorem FrzS.conv {L : AV → AV → Prop} {S S2 : St} (hle : Le S S2) (hc : ∀ x y, L x y → ∀ v, VRel S x v → VRel S2 y v) {x y : AV} (hxy : FrzS L x y) : ∀ v, VRel S x v → VRel S2 y v := by
 induction hxy with
 | same x => intro v hv; exact hv.mono hle
 | leaf h => intro v hv; exact hc _ _ h v hv
 | agg hl h ih =>
   intro v hv
   cases hv with
   | agg hn hv => exact .agg (hn.trans hl.symm) fun k hk => ih k (by omega) _ (hv k (by omega))
 | @rsl n st f g hl h ih =>
   intro v hv
   cases hv with
   | rsl0 => exact .rsl0
   | rsl hi hb hsz hf hh hcap =>
     exact .rsl (hle.imm _ hi) ((hle.keep _ hi).trans hb) hsz (fun k hk => hl k hk (hf k hk)) (fun k l hk hl2 => ih k l hk hl2 _ (hh k l hk hl2)) hcap
/-- What slots hold, slot by slot. -/
inductive FrzL (L : AV → AV → Prop) : List (Nat × AV) → List (Nat × AV) → Prop
 | nil : FrzL L [] []
 | cons {t : Nat} {v v' : AV} {l l' : List (Nat × AV)} (h : FrzS L v v') (k : FrzL L l l') : FrzL L ((t, v) :: l) ((t, v') :: l')
theorem FrzL.refl {L : AV → AV → Prop} : ∀ l : List (Nat × AV), FrzL L l l
 | [] => .nil
 | (_, v) :: l => .cons (.same v) (FrzL.refl l)
theorem FrzL.fr {L : AV → AV → Prop} {l l' : List (Nat × AV)} (h : FrzL L l l') : ∀ t, FrzS L (Fr.of l t) (Fr.of l' t) := by
 intro t
 induction h with
 | nil => exact .same _
 | cons hv _ ih =>
   simp only [Fr.of]
   split
   ·exact hv
   ·exact ih
end Go.V
end
section
set_option linter.unusedVariables false
set_option linter.unusedSimpArgs false
namespace Go.V
set_option linter.unusedSectionVars false
variable [Inhabited GivT]
theorem wpSIn_rec {F : Fence} {n : Nat} {P : Program} {Q : Exit → Act → List Frame → World → Prop} {a : Act} {cs cs' : List Frame} {w : World} {id : Nat} {ops : Array Oper} {o : Oper} {rest : List Nat} {v : Value}
  (hro : F.round = none) (ho : ops[0]? = some o) (hl : List.range ops.size = 0 :: rest) (hw : Region.wanted o (yielded ops a.tmps) = true) (hx : (execOp a.eval o).run P w = .ok .recover w)
  (hab : ∀ f, o.about P w a.eval = some f → F.fn f) (hrec : recoverD cs = some (v, cs') ∨ (recoverD cs = none ∧ cs' = cs ∧ v = .nilIface))
  (h : wpOpsIn F n P ops (fun e a' w' => Q e a' cs' w') rest (a.put o.dst v) w) : (Code.region id ops false).wpSIn F n P Q a cs w := by
 intro b k hb hr hF hroom
 have hlen : cs'.length = cs.length := by
  rcases hrec with hrec | ⟨_, rfl, _⟩
  ·exact recoverD_length hrec
  ·rfl
 obtain ⟨e, a', w', hq, harr⟩ := wp_opsIn rest _ _ h b k cs' (hr.trans hro.symm) hF (hlen ▸ hroom)
 refine ⟨e, a', cs', w', hlen, hq, .of_steps (.head (fenced_calm hF hroom rfl) stepR_region (.one ?_ ?_)) harr⟩
 ·exact hl ▸ fenced_oper hF hroom ho hab
 rw [hl]
 have hg := stepGR_op (P := P) (b := b) (k := k) (cs := cs) (w := w) (rest := rest) ho hw
 rw [hr, Oper.semAt_none] at hg
 have hfin : ∀ v, (b.atR a (.inRegion ops (0 :: rest) :: k)).finish v = b.atR (a.put o.dst v) (.inRegion ops rest :: k) := by
  intro v; rw [Frame.finish_atR, ho]; rfl
 have hk : (b.atR a (.inRegion ops (0 :: rest) :: k)).kind = .deferred := hb
 have htr := tryRecover_deferred hk cs
 refine step_lone_go ?_
 rw [hg, ← hfin]
 simp only [Frame.atR, hr] at htr ⊢
 rcases hrec with hrec | ⟨hrec, rfl, rfl⟩ <;> simp [stepG.apply, hx, htr, hrec]

theorem wpOpsIn_mono {F : Fence} {n : Nat} {P : Program} {ops : Array Oper} {Q Q' : Exit → Act → World → Prop} (hm : ∀ e a w, Q e a w → Q' e a w) : ∀ (l : List Nat) (a : Act) (w : World), wpOpsIn F n P ops Q l a w → wpOpsIn F n P ops Q' l a w := by
 intro l
 induction l with
 | nil => intro a' w h; exact hm _ _ _ h
 | cons i l ih =>
   intro a' w h
   simp only [wpOpsIn] at h ⊢
   split
   ·rename_i e; simp only [e] at h; exact ih _ _ h
   ·rename_i o' e
    simp only [e] at h
    split
    ·rename_i hw
     rw [if_pos hw] at h
     refine ⟨h.1, ?_⟩
     have h2 := h.2
     generalize (o'.semAt F.round a'.eval).run P w = res at h2 ⊢
     cases res with
     | ok nx w' =>
       cases nx <;> simp only [Oper.uponIn] at h2 ⊢ <;> try exact ih _ _ h2
       ·exact ⟨h2.1, h2.2.mono fun e w he => by
         cases e with
         | returned v => exact ih _ _ he
         | panicked ch => exact hm _ _ _ he
         | outgrown => obtain ⟨a0, w0, hx⟩ := he; exact ⟨a0, w0, hm _ _ _ hx⟩⟩
       ·exact ⟨h2.1, h2.2.mono fun e w he => by
         cases e with
         | returned v => exact ih _ _ he
         | panicked ch => exact hm _ _ _ he
         | outgrown => obtain ⟨a0, w0, hx⟩ := he; exact ⟨a0, w0, hm _ _ _ hx⟩⟩
       ·exact ⟨h2.1, h2.2.mono fun v w he => ih _ _ he⟩
     | halt x w' => cases x <;> simp only [Oper.uponIn] at h2 ⊢ <;> first | exact hm _ _ _ h2 | exact h2
    ·rename_i hw; rw [if_neg hw] at h; exact ⟨h.1, ih _ _ h.2⟩

/-- A deferred function: it recovers, then one more operation. -/
theorem ansR {P : Program} {g : FuncId} {fn : Func} {id t1 : Nat} {Tr : TypeId} {p1 : String} {a1 : Array Edge} {o2 : Oper} {m : Option Tmp → Bool} (hf : P.funcs[g]? = some fn)
  (hb : fn.body = some (.region id #[⟨some t1, .call ⟨.builtin .recover, #[], #[]⟩, Tr, p1, a1, none⟩, o2] false))
  (hr : fn.results = #[]) {args : List AV} {H : Hp} {Q : Hp → Prop} {S : St} {vs : Array Value} {u u' : FrameMode} {rv : AV} {cv : Value} (hlen : args.length ≤ fn.ntmps)
  (hrec : ∀ (c₀ : Frame) (cs : List Frame), c₀.mode = u → recoverD (c₀ :: cs) = some (cv, { c₀ with mode := u' } :: cs) ∨ (recoverD (c₀ :: cs) = none ∧ u' = u ∧ cv = .nilIface))
  (hH : HRel S H) (ha : VRels S args vs.toList) (hrv : VRel S rv cv) (h1 : t1 < fn.ntmps)
  (hbody : vcOps P m fn.ntmps [⟨some t1, .call ⟨.builtin .recover, #[], #[]⟩, Tr, p1, a1, none⟩, o2] [o2] (put (argFr args) (some t1) rv) [] H (fun x s ds H' => (x = .normal ∨ x = .ret) ∧ ds = [] ∧ Q H')) :
  CallsDIn Fence.wide 0 P g vs u S.w fun e u2 w => (∃ v, e = .returned v) ∧ u2 = u' ∧ ∃ S' H', S'.w = w ∧ Le S S' ∧ HRel S' H' ∧ Q H' := by
 have hsz : vs.size = args.length := ha.size.1
 refine callsDIn_of_wpSIn hf hb trivial fun c₀ cs hu => ?_
 have hF0 := argFr_rel (n := fn.ntmps) ha
 generalize ha0 : ({ tmps := vs ++ Array.replicate (fn.ntmps - vs.size) undef, defers := [] } : Act) = a0 at hF0 ⊢
 have hn0 : a0.tmps.size = fn.ntmps := by rw [← ha0]; simp; omega
 have hd0 : a0.defers = [] := by rw [← ha0]
 refine wpSIn_rec (cs' := { c₀ with mode := u' } :: cs) (v := cv) (rest := [1]) rfl rfl rfl (by simp [Region.wanted]) (by simp [execOp, resolve, invoke, builtin]) (fun _ _ => trivial) ?_ ?_
 ·rcases hrec c₀ cs hu with h | ⟨h, rfl, h'⟩
  ·exact .inl h
  ·exact .inr ⟨h, by subst hu; rfl, h'⟩
 ·have h := vcOps_sound (r := none) (P := P) (m := m) (n := fn.ntmps) (ops := #[⟨some t1, .call ⟨.builtin .recover, #[], #[]⟩, Tr, p1, a1, none⟩, o2]) (.inl rfl) [o2] [1] _ [] H (by simp) rfl hbody S (a0.put (some t1) cv)
   (by simp [Act.put, hn0]) hH (FRel.put (n := fn.ntmps) (d := some t1) hF0 h1 hn0 hrv a0.defers) (by simp [Act.put, hd0]; exact .nil)
  refine wpOpsIn_mono ?_ _ _ _ h
  rintro e a w ⟨S', x, s, ds, H', rfl, hle, hH', hF, hD, hn, hx, hx2, hds, hq⟩
  subst hds
  have hdn := hD.nil_inv
  have hres : (results fn a.tmps).run P S'.w = .ok (.tuple #[]) S'.w := by
   rw [results_eq, hr]; simp
  have fin : a.defers = [] ∧ ∃ u'', { c₀ with mode := u' } :: cs = { c₀ with mode := u'' } :: cs ∧ ∃ v, (results fn a.tmps).run P S'.w = .ok v S'.w ∧ ((∃ v', Ending.returned v = Ending.returned v') ∧ u'' = u' ∧ ∃ S2 H2, S2.w = S'.w ∧ Le S S2 ∧ HRel S2 H2 ∧ Q H2) :=
   ⟨hdn, u', rfl, _, hres, ⟨_, rfl⟩, rfl, S', H', rfl, hle, hH', hq⟩
  cases e with
  | normal => exact fin
  | ret => exact fin
  | exit i => rcases hx2 with rfl | rfl <;> simp [XRel] at hx
  | goto l => rcases hx2 with rfl | rfl <;> simp [XRel] at hx
  | outgrown => rcases hx2 with rfl | rfl <;> simp [XRel] at hx
  | panic ch => rcases hx2 with rfl | rfl <;> simp [XRel] at hx

end Go.V
end
section
set_option linter.unusedVariables false
set_option linter.unusedSimpArgs false
namespace Go.V
set_option linter.unusedSectionVars false
variable [Inhabited GivT]
theorem wpOpsIn_append {F : Fence} {n : Nat} {P : Program} {ops : Array Oper} {Q : Exit → Act → World → Prop} (l2 : List Nat) : ∀ (l1 : List Nat) (a : Act) (w : World),
  wpOpsIn F n P ops (fun e a w => match e with | .normal => wpOpsIn F n P ops Q l2 a w | e => Q e a w) l1 a w → wpOpsIn F n P ops Q (l1 ++ l2) a w := by
 intro l1
 induction l1 with
 | nil => intro a w h; exact h
 | cons i l ih =>
   intro a' w h
   rw [List.cons_append]
   simp only [wpOpsIn] at h ⊢
   split
   ·rename_i e; simp only [e] at h; exact ih _ _ h
   ·rename_i o' e
    simp only [e] at h
    split
    ·rename_i hw
     rw [if_pos hw] at h
     refine ⟨h.1, ?_⟩
     have h2 := h.2
     generalize (o'.semAt F.round a'.eval).run P w = res at h2 ⊢
     cases res with
     | ok nx w' =>
       cases nx <;> simp only [Oper.uponIn] at h2 ⊢ <;> try exact ih _ _ h2
       ·exact ⟨h2.1, h2.2.mono fun e w he => by
         cases e with
         | returned v => exact ih _ _ he
         | panicked ch => exact he
         | outgrown => exact he⟩
       ·exact ⟨h2.1, h2.2.mono fun e w he => by
         cases e with
         | returned v => exact ih _ _ he
         | panicked ch => exact he
         | outgrown => exact he⟩
       ·exact ⟨h2.1, h2.2.mono fun v w he => ih _ _ he⟩
     | halt x w' => cases x <;> simp only [Oper.uponIn] at h2 ⊢ <;> first | exact h2
    ·rename_i hw; rw [if_neg hw] at h; exact ⟨h.1, ih _ _ h.2⟩
theorem wpOpsIn_mono' {F : Fence} {n : Nat} {P : Program} {ops : Array Oper} {Q Q' : Exit → Act → World → Prop} (hm : ∀ e a w, Q e a w → Q' e a w) (l : List Nat) (a : Act) (w : World) (h : wpOpsIn F n P ops Q l a w) : wpOpsIn F n P ops Q' l a w := wpOpsIn_mono hm l a w h
section
variable {P : Program} {m : Option Tmp → Bool} {n id : Nat} {ops : Array Oper} {s : Fr} {ds : List AD} {H : Hp} {Q : Post}
end
end Go.V
end
section
set_option linter.unusedVariables false
set_option linter.unusedSimpArgs false
set_option maxHeartbeats 4000000
set_option maxRecDepth 100000
namespace Go.Proofs.Ytclkjifgipcamaa
open Go.V
instance : Inhabited GivT := ⟨⟨[]⟩⟩
abbrev Lk.cs (x : Lk) : List AV := [i64 x.ht, i64 x.sd, i64 x.mo]
def lkF (l : List Lk) : Nat → List AV := fun i => (l.getD i lk0).cs
theorem lkF_at (l : List Lk) (i : Nat) : lkF l i = [i64 (l.getD i lk0).ht, i64 (l.getD i lk0).sd, i64 (l.getD i lk0).mo] := rfl
abbrev lkAV (l : List Lk) : AV := .rsl l.length 3 (lkF l)
abbrev Ls.cs (x : Ls) : List AV := [i64 x.dr, i64 x.li, i64 x.lo, i64 x.hi]
def lsF (l : List Ls) : Nat → List AV := fun i => (l.getD i ls0).cs
theorem lsF_at (l : List Ls) (i : Nat) : lsF l i = [i64 (l.getD i ls0).dr, i64 (l.getD i ls0).li, i64 (l.getD i ls0).lo, i64 (l.getD i ls0).hi] := rfl
abbrev lsAV (l : List Ls) : AV := .rsl l.length 4 (lsF l)
abbrev Hl.cs (h : Hl) : List AV := [lkAV h.sm, lsAV h.so]
abbrev Hl.av (h : Hl) : AV := .agg h.cs
abbrev hlptr (h : Hl) : AV := .rptr 1 2 (fun _ => h.cs) 0 0
/-- A hull that is valid. -/
structure OkH (h : Hl) : Prop where
 n1 : 1 ≤ h.sm.length
 nS : h.sm.length ≤ 6
 nQ : h.so.length ≤ 8
 s : ∀ i, i < h.sm.length → (0 ≤ (h.seam i).ht ∧ (h.seam i).ht ≤ 12) ∧ (-1 ≤ (h.seam i).sd ∧ (h.seam i).sd ≤ 1) ∧ 0 ≤ (h.seam i).mo ∧ (h.seam i).mo ≤ 4
 q : ∀ i, i < h.so.length → ((0 ≤ (h.snd i).dr ∧ (h.snd i).dr ≤ 12) ∧ -3 ≤ (h.snd i).li ∧ (h.snd i).li ≤ 3) ∧ 0 ≤ (h.snd i).lo ∧ (h.snd i).lo ≤ (h.snd i).hi ∧ (h.snd i).hi ≤ 24
theorem OkH.M {h : Hl} (k : OkH h) {i : Nat} (hi : i < h.sm.length) : ((h.M i : Nat) : Int) = (h.seam i).mo ∧ h.M i ≤ 4 := by
 have := (k.s i hi).2.2
 unfold Hl.M
 omega
theorem moL_at (h : Hl) {i : Nat} (hi : i < h.sm.length) : (h.sm.map fun x => x.mo).getD i 0 = (h.seam i).mo := by
 simp [Hl.seam, List.getD_eq_getElem?_getD, hi]
def moL (h : Hl) : List Int := h.sm.map fun x => x.mo
theorem moL_len (h : Hl) : (moL h).length = h.sm.length := by simp [moL]
abbrev hC (h : Hl) (a : AV) (im : Nat) : List AV := [lkAV h.sm, lsAV h.so, a, .map im]
abbrev hP (h : Hl) (im : Nat) : AV := .rptr 1 4 (fun _ => hC h (intsAV (moL h)) im) 0 0
/-- What each seam lets in. -/
def ifF (b : List Int) : Nat → List AV := fun i => [i64 (b.getD i 0)]
theorem ifF_at (b : List Int) (i : Nat) : ifF b i = [i64 (b.getD i 0)] := rfl
abbrev ifAV (b : List Int) : AV := .arr 6 1 (ifF b)

abbrev refL (e : Int) : AV := .iface 163 (.agg [i64 e])
theorem lwithin_tri (n lo hi : Int) (H : Hp) : PTri Try.prog (fnA 79) [i64 n, i64 lo, i64 hi] H (boo (decide (lo ≤ n) && decide (n ≤ hi))) := by
 refine tri_v0 (fun _ => false) Try.func79 (by kernel_rfl) rfl (by simp only [List.length_append, List.length_cons, List.length_nil, Try.ntmps79]; decide) ?_
 simp only [vsAll, binA, binLitA, intA, pickA, opA, guardV, dstOk, nilSliceOp, resA, argFr, retA.eq_1, Nat.reduceLT, Nat.reduceEqDiff, ↓reduceIte, reduceCtorEq, implies_true, eq_self, Try.ntmps79, Try.results79]
theorem lwant_tri (b : Bool) (e : Int) (H : Hp) : Tri Try.prog (fnA 78) [boo b, i64 e] H fun r H' => H' = H ∧ r = if b then .ret (.tuple []) else .pan (refL e) := by
 refine tri_v0 (fun _ => false) Try.func78 (by kernel_rfl) rfl (by simp only [List.length_append, List.length_cons, List.length_nil, Try.ntmps78]; decide) ?_
 simp only [vsAll, unA, opA, dstOk, argFr, Nat.reduceLT, ↓reduceIte, eq_self, Try.ntmps78]
 refine condV (fun hc => ?_) (fun hc => ?_)
 ·simp only [Bool.not_eq_true'] at hc
  subst hc
  simp only [vsAll, cellA, cellsA, fillA, okParts, ifaceA, partsA, partsOk, opA, dstOk, panA, argFr, Nat.reduceLT, Nat.reduceEqDiff, ↓reduceIte, eq_self, wtAll]
 ·simp only [Bool.not_eq_false'] at hc
  subst hc
  simp only [vsAll, resA, retA.eq_2, ↓reduceIte, eq_self, Try.results78]
theorem lwant_call {b : Bool} {e : Int} {H : Hp} {K : AV → Hp → Prop} {Kp : AV → Hp → Prop} (h1 : b = true → K (.tuple []) H) (h2 : b = false → Kp (refL e) H) :
  CallK Try.prog (fnA 78) [boo b, i64 e] H K Kp := by
 refine ⟨_, lwant_tri b e H, ?_⟩
 rintro r H' ⟨rfl, rfl⟩
 cases b
 ·exact h2 rfl
 ·exact h1 rfl
theorem lhas_tri (S n : Nat) (H : Hp) (hn : n < 60) (hS : S < 2 ^ 60) : PTri Try.prog (fnA 114) [u64 (S : Nat), i64 n] H (boo (S.testBit n)) := by
 refine tri_v0 (fun _ => false) Try.func114 (by kernel_rfl) rfl (by simp only [List.length_append, List.length_cons, List.length_nil, Try.ntmps114]; decide) ?_
 simp only [vsAll, binA, binLitA, intA, opA, dstOk, nilSliceOp, resA, argFr, retA.eq_1, Nat.reduceLT, Nat.reduceEqDiff, Int.reduceLE, Int.reduceToNat, ↓reduceIte, reduceCtorEq, eq_self, Try.ntmps114, Try.results114]
 refine ⟨⟨by omega, by omega, rfl⟩, ?_, congrArg _ (congrArg _ (congrArg _ (bit_eq S n)))⟩
 have h2 : S / 2 ^ n ≤ S := Nat.div_le_self _ _
 have h1 : (S : Int) / 2 ^ n = ((S / 2 ^ n : Nat) : Int) := by simp
 rw [h1]
 generalize S / 2 ^ n = q at *
 exact ⟨by omega, by simp only [InR_u64]; omega, by simp only [InR_u64]; omega⟩
theorem lflows_tri (a b : Int) (H : Hp) (ha : -1000 ≤ a ∧ a ≤ 1000) (hb : -1000 ≤ b ∧ b ≤ 1000) : PTri Try.prog (fnA 115) [intsAV [a, b]] H (i64 (a + b)) := by
 refine tri_v0 (fun _ => false) Try.func115 (by kernel_rfl) rfl (by simp only [List.length_append, List.length_cons, List.length_nil, Try.ntmps115]; decide) ?_
 simp only [vsAll, lenA, opA, dstOk, nilSliceOp, argFr, Nat.reduceAdd, Nat.reduceLT, ↓reduceIte, reduceCtorEq, eq_self, wtAll, Try.ntmps115]
 refine vs_loop (σ := Nat) (fun i => i ≤ 2) (fun i => [(2, i64 (if i = 0 then 0 else if i = 1 then a else a + b)), (5, intsAV [a, b]), (6, i64 2), (7, i64 i)]) (fun _ => H) (fun i => 2 - i) 0 (Nat.zero_le _) ?_ HSub_rfl fun i hi => ?_
 ·simp only [vsAll, Nat.reduceEqDiff, ↓reduceIte, eq_self, Int.natCast_zero]
  exact ⟨AV.Le.refl _, AV.Le.refl _⟩
 ·simp only [vsAll, binA, binLitA, intA, opA, dstOk, Nat.reduceLT, Nat.reduceEqDiff, ↓reduceIte, eq_self]
  refine condD (fun hd => ?_) (fun hd => ?_)
  ·have h2 : i < 2 := by omega
   rcases (by omega : i = 0 ∨ i = 1) with rfl | rfl
   ·simp only [vsAll, binA, binLitA, intA, loadA, loadRow, partA, partOk, indexAddrA, opA, dstOk, nilSliceOp, Nat.reduceAdd, Nat.reduceLT, Nat.reduceEqDiff, Int.reduceAdd, Int.reduceLE, Int.reduceLT, Int.reduceToNat, ↓reduceIte, eq_self, wtAll, intF_at, Int.natCast_zero]
    refine ⟨by omega, by simp only [InR_i64]; omega, by simp only [InR_i64]; omega, loop_next 1 (by omega) (by omega) ?_ HSub_rfl⟩
    simp only [vsAll, Nat.reduceEqDiff, ↓reduceIte, reduceCtorEq, eq_self, Int.zero_add, Int.natCast_one]
   ·simp only [vsAll, binA, binLitA, intA, loadA, loadRow, partA, partOk, indexAddrA, opA, dstOk, nilSliceOp, Nat.reduceAdd, Nat.reduceLT, Nat.reduceEqDiff, Int.reduceAdd, Int.reduceLE, Int.reduceLT, Int.reduceToNat, ↓reduceIte, reduceCtorEq, eq_self, wtAll, intF_at, Int.natCast_one]
    refine ⟨by omega, by simp only [InR_i64]; omega, by simp only [InR_i64]; omega, loop_next 2 (by omega) (by omega) ?_ HSub_rfl⟩
    simp only [vsAll, Nat.reduceEqDiff, ↓reduceIte, reduceCtorEq, eq_self]
    exact AV.Le.refl _
  ·have ei : i = 2 := by omega
   subst ei
   simp only [vsAll, opA, dstOk, nilSliceOp, resA, retA.eq_1, Nat.reduceLT, Nat.reduceEqDiff, ↓reduceIte, reduceCtorEq, eq_self, Try.results115]
theorem isPlace_tri (d l : Int) (H : Hp) : PTri Try.prog (fnA 35) [.agg [i64 d, i64 l]] H (boo ((decide (0 ≤ d) && decide (d ≤ 12)) && (decide (-3 ≤ l) && decide (l ≤ 3)))) := by
 refine tri_v0 (fun _ => false) Try.func35 (by kernel_rfl) rfl (by simp only [List.length_append, List.length_cons, List.length_nil, Try.ntmps35]; decide) ?_
 simp only [vsAll, loadA, loadRow, partA, partOk, fieldAddrA, boxA, boxZ, okAll, stAll, opsA, opA, dstOk, nilSliceOp, argFr, Nat.reduceAdd, Nat.reduceLT, Nat.reduceEqDiff, Int.reduceNeg, ↓reduceIte, eq_self, wtAll, Try.ntmps35]
 refine callK_pure (lwithin_tri _ _ _ _) ?_
 simp only [vsAll, loadA, loadRow, partA, partOk, fieldAddrA, opA, guardV, dstOk, Nat.reduceLT, Nat.reduceEqDiff, Int.reduceNeg, ↓reduceIte, implies_true, eq_self, wtAll]
 refine gcall _ (fun g => ⟨by simp only [vsAll, opA], by simp only [vsAll, okAll, opsA, opA, Int.reduceNeg, ↓reduceIte, eq_self, g], lwithin_tri l (-3) 3 _⟩) ?_
 simp only [vsAll, pickA, opA, dstOk, nilSliceOp, resA, retA.eq_1, Nat.reduceLT, Nat.reduceEqDiff, Int.reduceNeg, ↓reduceIte, implies_true, eq_self, Try.results35]
theorem lsum_bd {S : Nat} {b : List Int} (hb : ∀ i, 0 ≤ b.getD i 0 ∧ b.getD i 0 ≤ 4) : ∀ i, 0 ≤ lsN S b i ∧ lsN S b i ≤ 4 * (i : Int)
 | 0 => by simp [lsN, smZ]
 | i + 1 => by
   have ih := lsum_bd (S := S) hb i
   have := hb i
   have hi : 0 ≤ inn S b i ∧ inn S b i ≤ 4 := by unfold inn; split <;> omega
   unfold lsN at ih ⊢
   simp only [smZ]
   omega
theorem lint2 (a b : Int) : AV.Le (.rsl 2 1 (fun i => [[i64 a], [i64 b]].getD i [])) (intsAV [a, b]) := AV.Le.rsl fun i hi => by
 match i, hi with
 | 0, _ => rfl
 | 1, _ => rfl
theorem lflows2 (a b : Int) (H : Hp) (ha : -1000 ≤ a ∧ a ≤ 1000) (hb : -1000 ≤ b ∧ b ≤ 1000) : PTri Try.prog (fnA 115) [.rsl 2 1 (fun i => [[i64 a], [i64 b]].getD i [])] H (i64 (a + b)) := Tri.args (lflows_tri a b H ha hb) rfl fun j hj => by
 match j, hj with
 | 0, _ => exact lint2 a b
theorem lsum_tri (S : Nat) (b : List Int) (H : Hp) (hb : ∀ i, 0 ≤ b.getD i 0 ∧ b.getD i 0 ≤ 4) (hS : S < 2 ^ 60) : PTri Try.prog (fnA 80) [ifAV b, u64 (S : Nat)] H (i64 (lsN S b 6)) := by
 refine tri_v0 (fun _ => false) Try.func80 (by kernel_rfl) rfl (by simp only [List.length_append, List.length_cons, List.length_nil, Try.ntmps80]; decide) ?_
 simp only [vsAll, loadA, loadRow, boxA, boxZ, opA, dstOk, nilSliceOp, argFr, Nat.reduceLT, Nat.reduceEqDiff, ↓reduceIte, eq_self, wtAll, Try.ntmps80]
 refine vs_loop (σ := Nat) (fun i => i ≤ 6) (fun i => [(1, u64 (S : Nat)), (4, i64 (lsN S b i)), (7, ifAV b), (8, i64 i)]) (fun _ => H) (fun i => 6 - i) 0 (Nat.zero_le _) ?_ HSub_rfl fun i hi => ?_
 ·have e0 : lsN S b 0 = 0 := rfl
  simp only [vsAll, argFr, Nat.reduceEqDiff, ↓reduceIte, eq_self, Int.natCast_zero, e0]
 ·simp only [vsAll, binA, binLitA, intA, opA, dstOk, Nat.reduceLT, Nat.reduceEqDiff, ↓reduceIte, eq_self]
  refine condD (fun hd => ?_) (fun hd => ?_)
  ·have his : i < 6 := by omega
   have hs := lsum_bd (S := S) hb i
   have hbi := hb i
   have es : lsN S b (i + 1) = lsN S b i + inn S b i := rfl
   simp only [vsAll, partA, indexA, okAll, stAll, opsA, opA, dstOk, nilSliceOp, Nat.reduceLT, Nat.reduceEqDiff, ↓reduceIte, eq_self, wtAll, ifF_at]
   refine ⟨by omega, callK_pure (lhas_tri S i _ (by omega) hS) ?_⟩
   simp only [vsAll, opA, ↓reduceIte, eq_self]
   refine condV (fun hc => ?_) (fun hc => ?_)
   ·have ei : inn S b i = b.getD i 0 := if_pos hc
    rw [ei] at es
    simp only [vsAll, cellA, cellsA, okParts, buildSliceA, partIdx, elemsA, lensA, okAll, stAll, opsA, partsA, partsOk, opA, dstOk, Nat.reduceAdd, Nat.reduceMul, Nat.reduceLT, Nat.reduceLeDiff, Nat.reduceEqDiff, ↓reduceIte, eq_self, wtAll]
    refine callK_pure (lflows2 _ _ _ (by omega) (by omega)) ?_
    simp only [vsAll, binA, binLitA, intA, opA, dstOk, nilSliceOp, Nat.reduceLT, Nat.reduceEqDiff, ↓reduceIte, eq_self]
    refine ⟨by simp only [InR_i64]; omega, loop_next (i + 1) his (by omega) ?_ HSub_rfl⟩
    simp only [vsAll, Nat.reduceEqDiff, ↓reduceIte, eq_self, es, Int.natCast_add, Int.natCast_one]
   ·have ei : inn S b i = 0 := if_neg (by rw [hc]; decide)
    rw [ei, Int.add_zero] at es
    simp only [vsAll, binA, binLitA, intA, opA, dstOk, Nat.reduceLT, Nat.reduceEqDiff, ↓reduceIte, eq_self]
    refine ⟨by simp only [InR_i64]; omega, loop_next (i + 1) his (by omega) ?_ HSub_rfl⟩
    simp only [vsAll, Nat.reduceEqDiff, ↓reduceIte, eq_self, es, Int.natCast_add, Int.natCast_one]
  ·have ei : i = 6 := by omega
   subst ei
   simp only [vsAll, opA, dstOk, nilSliceOp, resA, retA.eq_1, Nat.reduceLT, Nat.reduceEqDiff, ↓reduceIte, eq_self, Try.results80]
/-- Which seams leak. -/
def lksN (b : List Int) (n : Nat) : Nat := bitN (fun i => decide (0 < b.getD i 0)) n
theorem lksN_lt (b : List Int) (n : Nat) : lksN b n < 2 ^ n := bitN_lt _ n
theorem shl1 (n : Nat) : (1 : Int) * 2 ^ n = ((2 ^ n : Nat) : Int) := by rw [Int.one_mul]; simp
theorem lleaks_tri (b : List Int) (H : Hp) : PTri Try.prog (fnA 68) [ifAV b] H (u64 (lksN b 6 : Nat)) := by
 refine tri_v0 (fun _ => false) Try.func68 (by kernel_rfl) rfl (by simp only [List.length_append, List.length_cons, List.length_nil, Try.ntmps68]; decide) ?_
 simp only [vsAll, loadA, loadRow, boxA, boxZ, opA, dstOk, nilSliceOp, argFr, Nat.reduceLT, Nat.reduceEqDiff, ↓reduceIte, eq_self, wtAll, Try.ntmps68]
 refine vs_loop (σ := Nat) (fun i => i ≤ 6) (fun i => [(2, u64 (lksN b i : Nat)), (5, ifAV b), (6, i64 i)]) (fun _ => H) (fun i => 6 - i) 0 (Nat.zero_le _) ?_ HSub_rfl fun i hi => ?_
 ·have e0 : lksN b 0 = 0 := rfl
  simp only [vsAll, Nat.reduceEqDiff, ↓reduceIte, eq_self, Int.natCast_zero, e0]
 ·simp only [vsAll, binA, binLitA, intA, opA, dstOk, Nat.reduceLT, Nat.reduceEqDiff, ↓reduceIte, eq_self]
  refine condD (fun hd => ?_) (fun hd => ?_)
  ·have his : i < 6 := by omega
   have es : lksN b (i + 1) = if decide (0 < b.getD i 0) = true then lksN b i ||| 2 ^ i else lksN b i := rfl
   have ep := shl1 i
   have h1 := lksN_lt b i
   have h2 := lksN_lt b (i + 1)
   have p1 : 2 ^ i ≤ 2 ^ 6 := Nat.pow_le_pow_right (by decide) (by omega)
   have p2 : 2 ^ (i + 1) ≤ 2 ^ 6 := Nat.pow_le_pow_right (by decide) (by omega)
   simp only [vsAll, binA, binLitA, intA, partA, indexA, opA, dstOk, nilSliceOp, Nat.reduceLT, Nat.reduceEqDiff, ↓reduceIte, eq_self, wtAll, ifF_at]
   refine ⟨by omega, condD (fun hc => ?_) (fun hc => ?_)⟩
   ·rw [if_pos (decide_eq_true hc)] at es
    simp only [vsAll, binA, binLitA, intA, opA, dstOk, nilSliceOp, Nat.reduceLT, Nat.reduceEqDiff, ↓reduceIte, eq_self, ep, ← es]
    generalize 2 ^ i = Q at *
    refine ⟨⟨by omega, by omega, by simp only [InR_u64]; omega⟩, ⟨by omega, by omega, by simp only [InR_u64]; omega, by simp only [InR_u64]; omega⟩, by simp only [InR_i64]; omega, loop_next (i + 1) his (by omega) ?_ HSub_rfl⟩
    simp only [vsAll, Nat.reduceEqDiff, ↓reduceIte, eq_self, Int.natCast_add, Int.natCast_one]
   ·rw [if_neg (by rw [decide_eq_true_eq]; exact hc)] at es
    simp only [vsAll, binA, binLitA, intA, opA, dstOk, Nat.reduceLT, Nat.reduceEqDiff, ↓reduceIte, eq_self]
    refine ⟨by simp only [InR_i64]; omega, loop_next (i + 1) his (by omega) ?_ HSub_rfl⟩
    simp only [vsAll, Nat.reduceEqDiff, ↓reduceIte, eq_self, es, Int.natCast_add, Int.natCast_one]
  ·have ei : i = 6 := by omega
   subst ei
   simp only [vsAll, opA, dstOk, nilSliceOp, resA, retA.eq_1, Nat.reduceLT, Nat.reduceEqDiff, ↓reduceIte, eq_self, Try.results68]
end Go.Proofs.Ytclkjifgipcamaa
end
section
set_option linter.unusedVariables false
set_option linter.unusedSimpArgs false
set_option maxHeartbeats 4000000
set_option maxRecDepth 100000
namespace Go.Proofs.Ytclkjifgipcamaa
open Go.V
theorem und165 : Program.underlying Try.prog 165 = some (.map 86 91) := by kernel_rfl
theorem mapZ165 : mapZ Try.prog 165 = some (.int .u64 0) := by kernel_rfl
theorem key86 : Maps.Keyed Try.prog 86 := Maps.Keyed.of_law (deep_law_laid (by kernel_rfl) (m := 10) (by decide) (by decide +kernel) (by kernel_rfl) (by kernel_rfl))
abbrev plcV (d l : Int) : Value := .agg #[.int .i64 d, .int .i64 l]
def wetM (h : Hl) : Value → Value → Prop := fun k v => ∃ d l : Int, k = plcV d l ∧ (0 ≤ d ∧ d ≤ 12) ∧ (-3 ≤ l ∧ l ≤ 3) ∧ v = .int .u64 (wetS h d l : Nat)
theorem plcK (d l : Int) (hd : 0 ≤ d ∧ d ≤ 12) (hl : -3 ≤ l ∧ l ≤ 3) : ∃ s, keyOf Try.prog 86 (plcV d l) = some s := by
 have := keyOf_ints (P := Try.prog) (k := 86) (d := 5) (n := 2) (by kernel_rfl) (by decide +kernel) (by kernel_rfl) (by kernel_rfl) (l := [d, l]) rfl (by kernel_rfl) (by
  intro x hx
  simp only [List.mem_cons, List.not_mem_nil, or_false] at hx
  rcases hx with rfl | rfl
  ·exact wf_i64 (by simp only [InR_i64]; omega)
  ·exact wf_i64 (by simp only [InR_i64]; omega))
 exact this
theorem sd_mul (x l : Int) (hx : -1 ≤ x ∧ x ≤ 1) (hl : -3 ≤ l ∧ l ≤ 3) : -3 ≤ x * l ∧ x * l ≤ 3 := by
 rcases (by omega : x = -1 ∨ x = 0 ∨ x = 1) with rfl | rfl | rfl <;> omega
theorem lwet_tri (h : Hl) (im : Nat) (d l : Int) (H : Hp) (k : OkH h) (ho : H im = some (.memo (wetM h))) (hd : 0 ≤ d ∧ d ≤ 12) (hl : -3 ≤ l ∧ l ≤ 3) :
  PTri Try.prog (fnA 37) [hP h im, .agg [i64 d, i64 l]] H (u64 (wetS h d l : Nat)) := by
 have nS := k.nS
 have hNe : h.N = h.sm.length := rfl
 refine Tri.unpack ho fun es ck hes hpw => ?_
 obtain ⟨o, hfo, hst, hcase⟩ := found_of und165 key86 (plcK d l hd hl) (fun e he => by
  obtain ⟨d', l', h1, h2, h3, _⟩ := hes e he
  rw [h1]; exact plcK d' l' h2 h3) hpw
 have hback : Go.V.HSub (H.set im (.raw (.map es ck))) H := HSub_set' ho (memo_le hes hpw)
 refine tri_vs (m := fun _ => false) Try.func37 (by kernel_rfl) rfl (by simp only [List.length_append, List.length_cons, List.length_nil, Try.ntmps37]; decide) ?_
 simp only [vsAll, boxA, boxZ, opA, dstOk, nilSliceOp, argFr, Nat.reduceAdd, Nat.reduceLT, eq_self, wtAll, Try.ntmps37]
 refine vs_draw2 [0, 0, 0, 0, 0, 0, 0, 0, 0, 0, 0] [] [0, 1, 2, 3, 4, 5, 6, 7, 8, 9, 10] (by decide +kernel) ?_
 simp only [vsAll, loadA, loadRow, partA, partOk, fieldAddrA, extractA, nilCheckA, opA, lookA, dstOk, argFr, Nat.reduceAdd, Nat.reduceLT, Nat.reduceEqDiff, ↓reduceIte, reduceCtorEq, eq_self, wtAll, mapZ165]
 refine ⟨o, hfo _, ?_⟩
 rcases hcase with ⟨rfl, hno⟩ | ⟨j, e, rfl, hj, hk⟩
 ·simp only [vsAll, loadA, loadRow, partA, partOk, fieldAddrA, lenA, nilCheckA, opA, dstOk, nilSliceOp, argFr, Nat.reduceLT, ↓reduceIte, reduceCtorEq, eq_self, wtAll]
  refine vs_loop (σ := Nat) (fun i => i ≤ h.sm.length) (fun i => [(0, hP h im), (3, .rptr 1 2 (fun _ => [i64 d, i64 l]) 0 0), (7, u64 (wetN h d l i : Nat)), (25, lkAV h.sm), (26, i64 h.sm.length), (27, i64 i)])
   (fun _ => H.set im (.raw (.map es ck))) (fun i => h.sm.length - i) 0 (Nat.zero_le _) ?_ HSub_rfl fun i hi => ?_
  ·have e0 : wetN h d l 0 = 0 := rfl
   simp only [vsAll, argFr, Nat.reduceEqDiff, ↓reduceIte, reduceCtorEq, eq_self, Int.natCast_zero, e0]
  ·simp only [vsAll, binA, binLitA, intA, opA, dstOk, Nat.reduceLT, Nat.reduceEqDiff, ↓reduceIte, reduceCtorEq, eq_self]
   refine condD (fun hd2 => ?_) (fun hd2 => ?_)
   ·have his : i < h.sm.length := by omega
    have ks := k.s i his
    have eS : h.sm.getD i lk0 = h.seam i := rfl
    have hm := sd_mul (h.seam i).sd l ks.2.1 hl
    have es2 : wetN h d l (i + 1) = if wetB h d l i = true then wetN h d l i ||| 2 ^ i else wetN h d l i := rfl
    have h1 := wetN_lt h d l i
    have h2 := wetN_lt h d l (i + 1)
    have p1 : 2 ^ i ≤ 2 ^ 6 := Nat.pow_le_pow_right (by decide) (by omega)
    have p2 : 2 ^ (i + 1) ≤ 2 ^ 6 := Nat.pow_le_pow_right (by decide) (by omega)
    have ep := shl1 i
    have eb : wetB h d l i = decide ((h.seam i).ht ≤ d + (h.seam i).sd * l) := rfl
    simp only [vsAll, binA, binLitA, intA, loadA, loadRow, partA, partOk, fieldAddrA, indexAddrA, cellA, opA, allocA, newCells, okCells, storeObj, dstOk, nilSliceOp, Nat.reduceAdd, Nat.reduceLT, Nat.reduceEqDiff, ↓reduceIte, reduceCtorEq, eq_self, wtAll, lkF_at, eS]
    refine ⟨⟨by omega, by omega⟩, his, ?_⟩
    intro i9 hh_i9; (try simp only [ite_none] at hh_i9)
    generalize (h.seam i).sd * l = sl at *
    have hfz : ∀ o1 o2 : Go.V.Obj, Go.V.HSub (((H.set im (.raw (.map es ck))).set i9 o1).set i9 o2) (H.set im (.raw (.map es ck))) := fun o1 o2 => by
     have n9 : (H.set im (.raw (.map es ck))) i9 = none := by
      simp only [Hp.set]
      first | exact hh_i9 | simp_all
     exact HSub_drop2 n9 (HSub_drop2 n9 HSub_rfl)
    refine ⟨by simp only [InR_i64]; ((try clear hh_i9); omega), by simp only [InR_i64]; ((try clear hh_i9); omega), condD (fun hc => ?_) (fun hc => ?_)⟩
    ·rw [eb, if_pos (decide_eq_true hc)] at es2
     simp only [vsAll, binA, binLitA, intA, opA, dstOk, nilSliceOp, Nat.reduceLT, Nat.reduceEqDiff, ↓reduceIte, reduceCtorEq, eq_self, ep, ← es2]
     generalize 2 ^ i = Q at *
     refine ⟨⟨by ((try clear hh_i9); omega), by ((try clear hh_i9); omega), by simp only [InR_u64]; ((try clear hh_i9); omega)⟩, ⟨by ((try clear hh_i9); omega), by ((try clear hh_i9); omega), by simp only [InR_u64]; ((try clear hh_i9); omega), by simp only [InR_u64]; ((try clear hh_i9); omega)⟩, by simp only [InR_i64]; ((try clear hh_i9); omega), loop_next (i + 1) his (by ((try clear hh_i9); omega)) ?_ (hfz _ _)⟩
     simp only [vsAll, Nat.reduceEqDiff, ↓reduceIte, reduceCtorEq, eq_self, Int.natCast_add, Int.natCast_one]
    ·rw [eb, if_neg (by rw [decide_eq_true_eq]; exact hc)] at es2
     simp only [vsAll, binA, binLitA, intA, opA, dstOk, Nat.reduceLT, Nat.reduceEqDiff, ↓reduceIte, reduceCtorEq, eq_self]
     refine ⟨by simp only [InR_i64]; ((try clear hh_i9); omega), loop_next (i + 1) his (by ((try clear hh_i9); omega)) ?_ (hfz _ _)⟩
     simp only [vsAll, Nat.reduceEqDiff, ↓reduceIte, reduceCtorEq, eq_self, es2, Int.natCast_add, Int.natCast_one]
   ·have ei : i = h.sm.length := by omega
    subst ei
    have ew : wetN h d l h.sm.length = wetS h d l := rfl
    simp only [vsAll, ↓reduceIte, eq_self, ew]
    refine vs_draw2 [0, 0, 0, 0, 0, 0, 1] [([0, 1, 2, 3, 4, 5], [], 6)] [] (by decide +kernel) ?_
    simp only [vsAll, loadA, loadRow, partA, partOk, fieldAddrA, nilCheckA, opA, mapUpA, dstOk, nilSliceOp, Nat.reduceLT, Nat.reduceEqDiff, ↓reduceIte, reduceCtorEq, eq_self, wtAll]
    refine ⟨none, ⟨hfo _, hst, fun i v e => by cases e⟩, ?_⟩
    refine ret0 ?_
    simp only [vsAll, resA, retA.eq_1, ↓reduceIte, eq_self, Try.results37]
    rw [Hp.set_set]
    refine dropR_pure rfl ?_
    refine HSub_set' ho (memo_le (fun x hx => ?_) ?_)
    ·simp only [updM, Array.toList_push, List.mem_append, List.mem_singleton] at hx
     rcases hx with hx | rfl
     ·exact hes x hx
     ·exact ⟨d, l, rfl, hd, hl, rfl⟩
    ·simp only [updM, Array.toList_push]
     refine List.pairwise_append.2 ⟨hpw, List.pairwise_singleton _ _, fun x hx y hy => ?_⟩
     rw [List.mem_singleton] at hy
     subst hy
     exact hno x hx
 ·obtain ⟨d', l', h1, h2, h3, h4⟩ := hes e (by
   have := Array.getElem?_eq_some_iff.1 hj
   obtain ⟨hl, rfl⟩ := this
   simp)
  have e2 : e.val = .int .u64 (wetS h d l : Nat) := by
   rw [hk] at h1
   simp only [plcV, Value.agg.injEq, Array.mk.injEq, List.cons.injEq, Value.int.injEq, true_and, and_true] at h1
   rw [h4, ← h1.1, ← h1.2]
  simp only [vsAll, opA, dstOk, nilSliceOp, Nat.reduceLT, Nat.reduceEqDiff, ↓reduceIte, eq_self, e2]
  refine ret0 ?_
  simp only [vsAll, resA, retA.eq_1, ↓reduceIte, eq_self, Try.results37]
  exact dropR_pure rfl hback
end Go.Proofs.Ytclkjifgipcamaa
end
section
set_option linter.unusedVariables false
set_option linter.unusedSimpArgs false
namespace Go.V
set_option linter.unusedSectionVars false
variable [Inhabited GivT]
/-- Yields, one after another, each of which keeps one object more. -/
def IterB (P : Program) (y : AV) (Pre : Hp → Prop) : List (List AV) → Hp → (Hp → Prop) → Prop
 | [], H, K => K H
 | x :: l, H, K => Pre H ∧ ∀ j o, H j = none → Tri P y x (H.set j o) fun r H' => (r = .ret (.lit (.bool true)) ∧ ∃ H1, H1 j = none ∧ H' = H1.set j o ∧ IterB P y Pre l H1 K) ∨ (r = .ret (.lit (.bool false)) ∧ K H')
theorem Hp.set_comm (H : Hp) {i j : Nat} (o o' : Obj) (h : i ≠ j) : (H.set i o).set j o' = (H.set j o').set i o := by
 funext k
 simp only [Hp.set]
 by_cases e1 : k = j
 ·subst e1; rw [if_pos rfl, if_neg (fun e => h e.symm), if_pos rfl]
 ·rw [if_neg e1]
  by_cases e2 : k = i
  ·subst e2; rw [if_pos rfl, if_pos rfl]
  ·rw [if_neg e2, if_neg e2, if_neg e1]
section
variable {P : Program} {m : Option Tmp → Bool} {n : Nat} {k : List It} {s : Fr} {ds : List AD} {H : Hp} {Q : Post}
end
end Go.V
end
section
set_option linter.unusedVariables false
set_option linter.unusedSimpArgs false
set_option maxHeartbeats 4000000
set_option maxRecDepth 100000
namespace Go.Proofs.Ytclkjifgipcamaa
open Go.V
theorem mask_sum {S : Nat} {b : List Int} {f : Nat} (hb : b.length = f) (hf : f ≤ 6) : lsN (S &&& (2 ^ f - 1)) b 6 = lsN S b f := by
 refine smZ_shift (g := inn S b) 6 hf (fun i hi => ?_) fun i hi _ => ?_
 ·unfold inn
  rw [Nat.testBit_and, Nat.testBit_two_pow_sub_one, decide_eq_true hi, Bool.and_true]
 ·unfold inn
  rw [Nat.testBit_and, Nat.testBit_two_pow_sub_one, decide_eq_false (by omega), Bool.and_false]
  rfl
theorem mo_bd {h : Hl} (k : OkH h) {S a : Nat} : ∀ i, i ≤ h.sm.length → 0 ≤ moN h S a i ∧ moN h S a i ≤ 4 * (i : Int)
 | 0, _ => by simp [moN, smZ]
 | i + 1, hi => by
   have ih := mo_bd k (S := S) (a := a) i (by omega)
   have := k.M (i := i) (by omega)
   have hm : 0 ≤ mos h S a i ∧ mos h S a i ≤ 4 := by unfold mos; split <;> omega
   unfold moN at ih ⊢
   simp only [smZ]
   omega
theorem lends_tri (h : Hl) (S : Nat) (b : List Int) (H : Hp) (k : OkH h) (hl : b.length ≤ h.sm.length) (hb : ∀ i, 0 ≤ b.getD i 0 ∧ b.getD i 0 ≤ 4) (hS : S < 2 ^ 60) :
  PTri Try.prog (fnA 174) [.agg [u64 (S : Nat)], ifAV b, i64 b.length, intsAV (moL h)] H (.tuple [i64 (lsN S b b.length), i64 (lsN S b b.length + moN h S b.length h.N)]) := by
 have nS := k.nS
 have hNe : h.N = h.sm.length := rfl
 have hml := moL_len h
 have p1 : 2 ^ b.length ≤ 2 ^ 6 := Nat.pow_le_pow_right (by decide) (by omega)
 have p0 := Nat.two_pow_pos b.length
 have hmk := mask_sum (S := S) rfl (show b.length ≤ 6 by omega)
 have hsb := lsum_bd (S := S) hb b.length
 have e0 : moN h S b.length b.length = 0 := moN_end h S (Nat.le_refl _)
 have hle : S &&& (2 ^ b.length - 1) ≤ S := Nat.and_le_left
 have ep := shl1 b.length
 have eq1 : ((2 ^ b.length : Nat) : Int) - 1 = ((2 ^ b.length - 1 : Nat) : Int) := by omega
 refine tri_v0 (fun _ => false) Try.func174 (by kernel_rfl) rfl (by simp only [List.length_append, List.length_cons, List.length_nil, Try.ntmps174]; decide) ?_
 simp only [vsAll, boxA, boxZ, opA, dstOk, nilSliceOp, argFr, Nat.reduceLT, Nat.reduceEqDiff, ↓reduceIte, eq_self, wtAll, Try.ntmps174]
 refine vs_draw2 [0, 0, 0, 0, 0, 0, 0, 0, 0] [] [0, 1, 2, 3, 4, 5, 6, 7, 8] (by decide +kernel) ?_
 simp only [vsAll, binA, binLitA, intA, loadA, loadRow, partA, partOk, fieldAddrA, opA, dstOk, argFr, Nat.reduceLT, Nat.reduceEqDiff, ↓reduceIte, eq_self, wtAll, ep, eq1]
 generalize hQ : 2 ^ b.length = Q at *
 refine ⟨⟨by omega, by omega, by simp only [InR_u64]; omega⟩, by simp only [InR_u64]; omega, ⟨by omega, by omega, by simp only [InR_u64]; omega, by simp only [InR_u64]; omega⟩, qcall _ ⟨trivial, by simp only [vsAll, okAll, opsA, opA, Nat.reduceEqDiff, ↓reduceIte, eq_self], lsum_tri (S &&& (Q - 1)) b _ hb (by omega)⟩ ?_⟩
 rw [hmk]
 simp only [vsAll, opA, dstOk, nilSliceOp, argFr, Nat.reduceLT, Nat.reduceEqDiff, ↓reduceIte, eq_self]
 refine vs_loop (σ := Nat) (fun i => b.length ≤ i ∧ i ≤ h.sm.length) (fun i => [(2, i64 b.length), (3, intsAV (moL h)), (4, .rptr 1 1 (fun _ => [u64 (S : Nat)]) 0 0), (8, i64 (lsN S b b.length)), (9, i64 (lsN S b b.length + moN h S b.length i)), (10, i64 i)]) (fun _ => H) (fun i => h.sm.length - i) b.length ⟨Nat.le_refl _, hl⟩ ?_ HSub_rfl fun i hi => ?_
 ·simp only [vsAll, argFr, Nat.reduceEqDiff, ↓reduceIte, eq_self, e0, Int.add_zero]
 ·obtain ⟨hi0, hi⟩ := hi
  simp only [vsAll, binA, binLitA, intA, lenA, opA, dstOk, Nat.reduceLT, Nat.reduceEqDiff, ↓reduceIte, eq_self, wtAll, hml]
  refine condD (fun hd => ?_) (fun hd => ?_)
  ·have his : i < h.sm.length := by omega
   have hM := k.M his
   have hmi : (moL h).getD i 0 = (h.seam i).mo := moL_at h his
   have hmn := mo_bd k (S := S) (a := b.length) i hi
   have es : moN h S b.length (i + 1) = moN h S b.length i + mos h S b.length i := rfl
   simp only [vsAll, loadA, loadRow, partA, partOk, fieldAddrA, okAll, stAll, opsA, opA, dstOk, Nat.reduceLT, Nat.reduceEqDiff, ↓reduceIte, eq_self, wtAll]
   refine callK_pure (lhas_tri S i _ (by omega) hS) ?_
   simp only [vsAll, opA, ↓reduceIte, eq_self]
   refine condV (fun hc => ?_) (fun hc => ?_)
   ·have em : mos h S b.length i = (h.seam i).mo := by unfold mos; rw [if_pos ⟨hi0, hc⟩]; exact hM.1
    rw [em] at es
    simp only [vsAll, loadA, loadRow, partA, partOk, indexAddrA, cellA, cellsA, okParts, buildSliceA, partIdx, elemsA, lensA, okAll, stAll, opsA, partsA, partsOk, opA, dstOk, Nat.reduceAdd, Nat.reduceMul, Nat.reduceLT, Nat.reduceLeDiff, Nat.reduceEqDiff, ↓reduceIte, eq_self, wtAll, intF_at, hmi]
    refine ⟨⟨by omega, by omega⟩, by omega, callK_pure (lflows2 _ _ _ (by omega) (by omega)) ?_⟩
    simp only [vsAll, binA, binLitA, intA, opA, dstOk, nilSliceOp, Nat.reduceLT, Nat.reduceEqDiff, ↓reduceIte, eq_self]
    refine ⟨by simp only [InR_i64]; omega, loop_next (i + 1) ⟨by omega, his⟩ (by omega) ?_ HSub_rfl⟩
    simp only [vsAll, Nat.reduceEqDiff, ↓reduceIte, eq_self, es, Int.add_assoc, Int.natCast_add, Int.natCast_one]
   ·have em : mos h S b.length i = 0 := by unfold mos; rw [if_neg (fun q => by rw [hc] at q; cases q.2)]
    rw [em, Int.add_zero] at es
    simp only [vsAll, binA, binLitA, intA, opA, dstOk, nilSliceOp, Nat.reduceLT, Nat.reduceEqDiff, ↓reduceIte, eq_self]
    refine ⟨by simp only [InR_i64]; omega, loop_next (i + 1) ⟨by omega, his⟩ (by omega) ?_ HSub_rfl⟩
    simp only [vsAll, Nat.reduceEqDiff, ↓reduceIte, eq_self, es, Int.natCast_add, Int.natCast_one]
  ·have ei : i = h.sm.length := by omega
   subst ei
   simp only [vsAll, opA, dstOk, nilSliceOp, resA, retA.eq_2, Nat.reduceLT, Nat.reduceEqDiff, ↓reduceIte, eq_self, Try.results174, hNe]
theorem none_can (b : List Int) (fr : Int) (r : List Int) (H : Hp) : PTri Try.prog (fnA 173) [.agg [], ifAV b, i64 fr, intsAV r] H (boo true) := by
 refine tri_v0 (fun _ => false) Try.func173 (by kernel_rfl) rfl (by simp only [List.length_append, List.length_cons, List.length_nil, Try.ntmps173]; decide) ?_
 simp only [vsAll, boxA, boxZ, opA, dstOk, nilSliceOp, resA, argFr, retA.eq_1, Nat.reduceLT, Nat.reduceEqDiff, ↓reduceIte, eq_self, wtAll, Try.ntmps173, Try.results173]
abbrev sndC (S : Nat) (lo hi : Int) : List AV := [u64 (S : Nat), i64 lo, i64 hi]
theorem snd_can (h : Hl) (S : Nat) (lo hi : Int) (b : List Int) (H : Hp) (k : OkH h) (hl : b.length ≤ h.sm.length) (hb : ∀ i, 0 ≤ b.getD i 0 ∧ b.getD i 0 ≤ 4) (hS : S < 2 ^ 60) :
  PTri Try.prog (fnA 175) [.agg (sndC S lo hi), ifAV b, i64 b.length, intsAV (moL h)] H (boo (decide (lsN S b b.length ≤ hi) && decide (lo ≤ lsN S b b.length + moN h S b.length h.N))) := by
 refine tri_v0 (fun _ => false) Try.func175 (by kernel_rfl) rfl (by simp only [List.length_append, List.length_cons, List.length_nil, Try.ntmps175]; decide) ?_
 simp only [vsAll, loadA, loadRow, partA, partOk, fieldAddrA, boxA, boxZ, okAll, stAll, opsA, opA, dstOk, nilSliceOp, argFr, Nat.reduceAdd, Nat.reduceLT, Nat.reduceLeDiff, Nat.reduceEqDiff, ↓reduceIte, eq_self, wtAll, Try.ntmps175]
 refine callK_pure (lends_tri h S b _ k hl hb hS) ?_
 simp only [vsAll, binA, binLitA, intA, loadA, loadRow, partA, partOk, fieldAddrA, extractA, pickA, opA, guardV, dstOk, nilSliceOp, resA, retA.eq_1, Nat.reduceAdd, Nat.reduceLT, Nat.reduceEqDiff, ↓reduceIte, implies_true, eq_self, wtAll, Try.results175]
theorem meth_none : methT Try.prog 236 "caulkworks/leak.can" 173 := fun cv vs w => by kernel_rfl
theorem meth_snd : methT Try.prog 240 "caulkworks/leak.can" 175 := fun cv vs w => by kernel_rfl
theorem nil_none : nilM Try.prog 236 "caulkworks/leak.can" := fun v w => by kernel_rfl
theorem nil_snd : nilM Try.prog 240 "caulkworks/leak.can" := fun v w => by kernel_rfl
/-- What is asked for: nothing, and each sounding. -/
def cndA (h : Hl) : Nat → AV
 | 0 => .iface 236 (.agg [])
 | q + 1 => .iface 240 (.agg (sndC (wetS h (h.snd q).dr (h.snd q).li) (h.snd q).lo (h.snd q).hi))
def cndF (h : Hl) : Nat → List AV := fun i => [cndA h i]
theorem cndF_at (h : Hl) (i : Nat) : cndF h i = [cndA h i] := rfl
abbrev cndAV (h : Hl) : AV := .rsl (h.so.length + 1) 1 (cndF h)
def cndB (h : Hl) (b : List Int) : Nat → Bool
 | 0 => true
 | q + 1 => okQ h b q
theorem cndA_ok (h : Hl) (i : Nat) : (cndA h i).ok = True := by cases i <;> rfl
theorem cndA_st (h : Hl) (i : Nat) : (cndA h i).st = cndA h i := by cases i <;> rfl
theorem can_tri (h : Hl) (i : Nat) (b : List Int) (H : Hp) (k : OkH h) (hi : i < h.so.length + 1) (hl : b.length ≤ h.sm.length) (hb : ∀ i, 0 ≤ b.getD i 0 ∧ b.getD i 0 ≤ 4) :
  PTri Try.prog (.func (.method "caulkworks/leak.can") [] []) [cndA h i, ifAV b, i64 b.length, intsAV (moL h)] H (boo (cndB h b i)) := by
 cases i with
 | zero => exact tri_inv meth_none (none_can b b.length (moL h) H)
 | succ q =>
   have hw := wetN_lt h (h.snd q).dr (h.snd q).li h.N
   have p : 2 ^ h.N ≤ 2 ^ 6 := Nat.pow_le_pow_right (by decide) k.nS
   have hS : wetS h (h.snd q).dr (h.snd q).li < 2 ^ 60 := by unfold wetS; omega
   exact tri_inv meth_snd (snd_can h _ _ _ b H k hl hb hS)
theorem okP_cnd {h : Hl} {b : List Int} : okP h b = true ↔ ∀ i, i < h.so.length + 1 → cndB h b i = true := by
 unfold okP
 rw [List.all_eq_true]
 constructor
 ·intro hq i hi
  cases i with
  | zero => rfl
  | succ q => exact hq q (List.mem_range.2 (by omega))
 ·intro hq q hm
  exact hq (q + 1) (by have := List.mem_range.1 hm; omega)
theorem levery_tri (h : Hl) (im : Nat) (H : Hp) (k : OkH h) : PTri Try.prog (fnA 110) [hP h im] H (u64 (2 ^ h.so.length - 1 : Nat)) := by
 have nQ := k.nQ
 have p1 : 2 ^ h.so.length ≤ 2 ^ 8 := Nat.pow_le_pow_right (by decide) nQ
 have p0 := Nat.two_pow_pos h.so.length
 have ep := shl1 h.so.length
 have eq1 : ((2 ^ h.so.length : Nat) : Int) - 1 = ((2 ^ h.so.length - 1 : Nat) : Int) := by omega
 refine tri_v0 (fun _ => false) Try.func110 (by kernel_rfl) rfl (by simp only [List.length_append, List.length_cons, List.length_nil, Try.ntmps110]; decide) ?_
 simp only [vsAll, binA, binLitA, intA, loadA, loadRow, partA, partOk, fieldAddrA, lenA, nilCheckA, opA, dstOk, nilSliceOp, resA, argFr, retA.eq_1, Nat.reduceLT, ↓reduceIte, reduceCtorEq, eq_self, wtAll, Try.ntmps110, Try.results110, ep, eq1]
 generalize 2 ^ h.so.length = Q at *
 exact ⟨⟨by omega, by omega, by simp only [InR_u64]; omega⟩, by simp only [InR_u64]; omega⟩
theorem lcond_tri (h : Hl) (im : Nat) (H : Hp) (k : OkH h) (ho : H im = some (.memo (wetM h))) : PTri Try.prog (fnA 124) [hP h im, u64 (2 ^ h.so.length - 1 : Nat)] H (cndAV h) := by
 have nQ := k.nQ
 have nS := k.nS
 refine Tri.thawX (R1 := fun r H' => ∃ id, H id = none ∧ r = .ret (.sl id 1 (h.so.length + 1)) ∧ H' = H.set id (.row 1 (h.so.length + 1) (cndF h))) ?_ ?_
 ·refine Tri.drop ?_
  refine tri_v0 (mset [10]) Try.func124 (by kernel_rfl) rfl (by simp only [List.length_append, List.length_cons, List.length_nil, Try.ntmps124]; decide) ?_
  simp only [vsAll, loadA, loadRow, partA, partOk, fieldAddrA, lenA, nilCheckA, cellA, cellsA, fillA, okParts, buildMutA, partIdx, elemsA, lensA, ifaceA, partsA, partsOk, opA, dstOk, nilSliceOp, argFr, Nat.reduceMul, Nat.reduceLT, Nat.reduceLeDiff, Nat.reduceBEq, ↓reduceIte, reduceCtorEq, eq_self, wtAll, Try.ntmps124]
  intro i10 hh_i10; (try simp only [Hp.set_none, ite_none] at hh_i10)
  refine vs_loop (σ := Nat) (fun i => i ≤ h.so.length) (fun i => [(0, hP h im), (1, u64 (2 ^ h.so.length - 1 : Nat)), (5, .sl i10 1 (i + 1)), (15, lsAV h.so), (16, i64 h.so.length), (17, i64 i)]) (fun i => H.set i10 (.row 1 (i + 1) (cndF h))) (fun i => h.so.length - i) 0 (Nat.zero_le _) ?_ ?_ fun i hi => ?_
  ·simp only [vsAll, argFr, Nat.reduceEqDiff, ↓reduceIte, reduceCtorEq, eq_self, Int.natCast_zero]
  ·refine HSub.set (HSub.refl _) (row_ext fun q hq => ?_)
   have : q = 0 := by ((try clear hh_i10); omega)
   subst this; rfl
  ·simp only [vsAll, binA, binLitA, intA, opA, dstOk, Nat.reduceLT, Nat.reduceEqDiff, ↓reduceIte, reduceCtorEq, eq_self]
   refine condD (fun hd => ?_) (fun hd => ?_)
   ·have his : i < h.so.length := by ((try clear hh_i10); omega)
    have kq := k.q i his
    have eQ : h.so.getD i ls0 = h.snd i := rfl
    have hdiv : ((2 ^ h.so.length - 1 : Nat) : Int) / 2 ^ i = ((2 ^ h.so.length - 1) / 2 ^ i : Nat) := by simp
    have hbt : decide (((((2 ^ h.so.length - 1 : Nat) : Int) / 2 ^ i).toNat &&& Int.toNat 1 : Nat) = (1 : Int)) = true := by rw [bit_eq, Nat.testBit_two_pow_sub_one, decide_eq_true his]
    have p1 : 2 ^ h.so.length ≤ 2 ^ 8 := Nat.pow_le_pow_right (by decide) nQ
    have hdl : (2 ^ h.so.length - 1) / 2 ^ i ≤ 2 ^ h.so.length - 1 := Nat.div_le_self _ _
    have eap : ∀ G : Nat → List AV, G 0 = [cndA h (i + 1)] → ∀ q, q < i + 1 + 1 → appF (i + 1) 1 (cndF h) G q = cndF h q := fun G hG q hq => by
     rw [appF_at (by ((try clear hh_i10); omega))]
     by_cases e : q < i + 1
     ·rw [if_pos e]
     ·have : q = i + 1 := by ((try clear hh_i10); omega)
      subst this
      rw [if_neg (by ((try clear hh_i10); omega)), Nat.sub_self, hG]; rfl
    simp only [vsAll, binA, binLitA, intA, loadA, loadRow, partA, partOk, indexAddrA, cellA, opA, allocA, newCells, okCells, storeObj, dstOk, nilSliceOp, Nat.reduceAdd, Nat.reduceLT, Nat.reduceEqDiff, Nat.reduceBEq, Int.reduceLE, Int.reduceToNat, ↓reduceIte, reduceCtorEq, eq_self, wtAll, lsF_at, eQ]
    refine ⟨⟨by ((try clear hh_i10); omega), by ((try clear hh_i10); omega)⟩, his, ?_⟩
    intro i7 hh_i7; (try simp only [ite_none] at hh_i7)
    have n7 : (H.set i10 (.row 1 (i + 1) (cndF h))) i7 = none := by
     simp only [Hp.set]
     first | exact hh_i7 | simp_all
    have d7 : ¬ i10 = i7 := fun e => by rw [← e, Hp.set_same] at n7; cases n7
    have n7' : H i7 = none := by rw [Hp.set_ne _ _ (fun e => d7 e.symm)] at n7; exact n7
    refine ⟨⟨by ((try clear hh_i10 hh_i7); omega), by ((try clear hh_i10 hh_i7); omega), rfl⟩, ⟨?_, ?_, by simp only [InR_u64]; ((try clear hh_i10 hh_i7); omega)⟩, ?_⟩
    ·rw [hdiv]; exact Int.natCast_nonneg _
    ·rw [hdiv]
     generalize 2 ^ h.so.length = Q at *
     generalize (Q - 1) / 2 ^ i = z at *
     simp only [InR_u64]; ((try clear hh_i10 hh_i7); omega)
    refine condV (fun hc => ?_) (fun hc => ?_)
    rotate_left
    ·exact absurd (hbt.symm.trans hc) (by decide)
    skip
    refine vs_draw2 [0, 0, 0, 0, 0, 0, 0, 0, 0, 0, 0, 0, 0, 0, 1, 3] [([0, 1, 2, 3, 4, 5, 6, 7, 8, 9, 10, 11, 12, 13], [], 14), ([], [], 15)] [] (by decide +kernel) ?_
    simp only [vsAll, loadA, loadRow, partA, partOk, fieldAddrA, cellA, cellsA, fillA, okParts, partsA, partsOk, opA, dstOk, Nat.reduceAdd, Nat.reduceLT, Nat.reduceLeDiff, Nat.reduceEqDiff, ↓reduceIte, reduceCtorEq, eq_self, wtAll]
    refine qcall _ ⟨trivial, by simp only [vsAll, okAll, opsA, opA, Nat.reduceEqDiff, ↓reduceIte, eq_self], lwet_tri h im (h.snd i).dr (h.snd i).li _ k (by rw [Hp.set_set, Hp.set_ne _ _ (fun e => by rw [← e, ho] at n7'; cases n7'), Hp.set_ne _ _ (fun e => by rw [e] at ho; simp_all)]; exact ho) (by ((try clear hh_i10 hh_i7 d7); omega)) (by ((try clear hh_i10 hh_i7 d7); omega))⟩ ?_
    simp only [vsAll, binA, binLitA, intA, loadA, loadRow, partA, partOk, fieldAddrA, cellA, cellsA, fillA, okParts, buildSliceA, partIdx, elemsA, lensA, ifaceA, partsA, partsOk, opA, appendA, dstOk, nilSliceOp, Nat.reduceAdd, Nat.reduceMul, Nat.reduceLT, Nat.reduceLeDiff, Nat.reduceEqDiff, Nat.reduceBEq, ↓reduceIte, reduceCtorEq, eq_self, wtAll, hh_i7]
    refine ⟨fun q hq => by (have : q = 0 := by ((try clear hh_i10 hh_i7 d7); omega)); subst this; exact ⟨rfl, trivial⟩, by ((try clear hh_i10 hh_i7 d7); omega), by ((try clear hh_i10 hh_i7 d7); omega), by simp only [InR_i64]; ((try clear hh_i10 hh_i7 d7); omega), loop_next (i + 1) his (by ((try clear hh_i10 hh_i7 d7); omega)) ?_ ?_⟩
    ·simp only [vsAll, Nat.reduceEqDiff, ↓reduceIte, reduceCtorEq, eq_self, Int.natCast_add, Int.natCast_one]
    ·rw [Hp.set_set, Hp.set_comm (H.set i10 _) _ _ (fun e => d7 e.symm), Hp.set_set]
     refine HSub_drop2 (by rw [Hp.set_ne _ _ (fun e => d7 e.symm)]; exact n7') ?_
     exact HSub.set (HSub.refl _) (row_ext fun q hq => eap _ rfl q hq)
    done
   ·have ei : i = h.so.length := by ((try clear hh_i10); omega)
    subst ei
    simp only [vsAll, opA, dstOk, nilSliceOp, resA, retA.eq_1, Nat.reduceLT, Nat.reduceEqDiff, Nat.reduceBEq, ↓reduceIte, reduceCtorEq, eq_self, Try.results124]
    exact ⟨_, HSub_rfl, i10, hh_i10, rfl, rfl⟩
 ·rintro r H' ⟨id, hid, rfl, rfl⟩
  exact .inr ⟨_, cndAV h, id, 1, _, cndF h, rfl, .inr ⟨Hp.set_same _ _ _, .leaf ⟨rfl, cndF h, fun _ _ => rfl, rfl⟩⟩, rfl, set_del hid⟩
end Go.Proofs.Ytclkjifgipcamaa
end
section
set_option linter.unusedVariables false
set_option linter.unusedSimpArgs false
set_option maxHeartbeats 4000000
set_option maxRecDepth 100000
namespace Go.Proofs.Ytclkjifgipcamaa
open Go.V
theorem ret_freezeB {P : Program} {fn : Func} {R : Res → Hp → Prop} {s : Fr} {H : Hp} {t id st n i j : Nat} {f : Nat → List AV} (hr : fn.results.toList = [.tmp t]) (hs : s t = .ref id 0 st i j)
  (ho : H id = some (.box st n f)) (h : R (.ret (.rptr n st f i j)) (H.del id)) : FnPost P fn R .ret s [] H := by
 refine Ent.freezeB (s' := put s (some t) (.rptr n st f i j)) ho (fun u => ?_) ?_
 ·simp only [put]
  split
  ·rename_i e; subst e; exact .inr ⟨i, j, hs, rfl⟩
  ·exact .inl rfl
 ·rw [hr]
  refine ⟨rfl, ?_⟩
  simp only [resA, put, if_pos]
  exact ⟨trivial, h⟩
def moN' (h : Hl) (i : Nat) : List Int := (List.range i).map fun j => (h.seam j).mo
theorem moN'_len (h : Hl) (i : Nat) : (moN' h i).length = i := by simp [moN']
theorem moN'_succ (h : Hl) (i : Nat) : moN' h (i + 1) = moN' h i ++ [(h.seam i).mo] := by simp [moN', List.range_succ]
theorem moN'_all (h : Hl) : moN' h h.sm.length = moL h := by
 apply List.ext_getElem (by simp [moN', moL])
 intro i h1 h2
 simp [moN', moL, Hl.seam, List.getD_eq_getElem?_getD]
 simp [moL] at h2
 simp [h2]
def openL (h : Hl) (v : Bool) (H : Hp) : Res → Hp → Prop := fun r H' =>
 (v = true ∧ ∃ im, H im = none ∧ r = .ret (hP h im) ∧ H' = H.set im (.memo (wetM h))) ∨ (v = false ∧ r = .pan (refL 2) ∧ H' = H)
theorem openL_tri (h : Hl) (v : Bool) (H : Hp) (k : OkH h) : Tri Try.prog (fnA 34) [h.av, boo v] H (openL h v H) := by
 have nS := k.nS
 have nQ := k.nQ
 have n1 := k.n1
 refine tri_vs (m := mset [24]) Try.func34 (by kernel_rfl) rfl (by simp only [List.length_append, List.length_cons, List.length_nil, Try.ntmps34]; decide) ?_
 simp only [vsAll, loadA, loadRow, partA, partOk, fieldAddrA, lenA, boxA, boxZ, okAll, stAll, opsA, opA, dstOk, nilSliceOp, argFr, Nat.reduceAdd, Nat.reduceLT, Nat.reduceEqDiff, Nat.reduceBEq, Int.reduceNeg, ↓reduceIte, eq_self, wtAll, Try.ntmps34]
 refine callK_pure (lwithin_tri _ _ _ _) ?_
 have b1 : (decide ((1 : Int) ≤ (h.sm.length : Int)) && decide ((h.sm.length : Int) ≤ 6)) = true := by rw [decide_eq_true (by omega), decide_eq_true (by omega)]; rfl
 have b2 : decide ((h.so.length : Int) ≤ 8) = true := decide_eq_true (by omega)
 simp only [vsAll, binA, binLitA, intA, loadA, loadRow, partA, partOk, fieldAddrA, lenA, pickA, okAll, stAll, opsA, opA, guardV, dstOk, Nat.reduceLT, Nat.reduceEqDiff, Int.reduceNeg, ↓reduceIte, implies_true, eq_self, wtAll, b1, b2]
 refine lwant_call (fun _ => ?_) (fun hb => by cases hb)
 simp only [vsAll, loadA, loadRow, partA, partOk, fieldAddrA, lenA, cellA, cellsA, fillA, okParts, partsA, partsOk, opA, boxMutA, nM, dstOk, nilSliceOp, Nat.reduceAdd, Nat.reduceLT, Nat.reduceLeDiff, Nat.reduceEqDiff, Nat.reduceBEq, Int.reduceNeg, ↓reduceIte, eq_self, wtAll]
 intro im hh_im; (try simp only [Hp.set_none, ite_none] at hh_im); intro ib hh_ib; (try simp only [ite_none] at hh_ib)
 have d1 : ¬ ib = im := fun e => by rw [e] at hh_ib; simp_all
 have d2 : ¬ im = ib := fun e => d1 e.symm
 have hb0 : H ib = none := by simp_all
 refine vs_entL (Ent.nilBox 1 (intF []) (fun id _ => hC h (.sl id 1 0) im) (j := ib) (st' := 4) (n' := 1) (g := fun _ => hC h (.lit (.slice none 0 0)) im) (Hp.set_same _ _ _) (fun _ _ _ => rfl) (fun id q d hq hd => ?_) fun ir hir => ?_)
 ·match d, hd with
  | 0, _ => exact .rfl
  | 1, _ => exact .rfl
  | 2, _ => exact .hit
  | 3, _ => exact .rfl
 have r1 : ¬ ir = ib := fun e => by rw [e, Hp.set_same] at hir; cases hir
 rw [Hp.set_ne _ _ r1] at hir
 have r2 : ¬ ir = im := fun e => by rw [e, Hp.set_same] at hir; cases hir
 rw [Hp.set_ne _ _ r2] at hir
 have r1' : ¬ ib = ir := fun e => r1 e.symm
 have r2' : ¬ im = ir := fun e => r2 e.symm
 skip
 have hbx : ∀ (A : Hp) (n : Nat) (f : Nat → List AV) (a b : AV), (((A.set ib (.box 4 1 fun _ => hC h a im)).set ir (.row 1 n f)).set ib (.box 4 1 fun _ => hC h b im)) = ((A.set ir (.row 1 n f)).set ib (.box 4 1 fun _ => hC h b im)) := fun A n f a b => by
  rw [Hp.set_comm A _ _ r1', Hp.set_set]
 rw [hbx]
 refine vs_loop (σ := Nat) (fun i => i ≤ h.sm.length) (fun i => [(1, boo v), (2, hlptr h), (5, .ref ib 0 4 0 0), (26, lkAV h.sm), (27, i64 h.sm.length), (28, i64 i)])
  (fun i => ((H.set im (.raw (.map #[] 0))).set ir (.row 1 i (intF (moN' h i)))).set ib (.box 4 1 fun _ => hC h (.sl ir 1 i) im)) (fun i => h.sm.length - i) 0 (Nat.zero_le _) ?_ HSub_rfl fun i hi => ?_
 ·simp only [vsAll, argFr, Nat.reduceEqDiff, ↓reduceIte, eq_self, Int.natCast_zero]
 ·simp only [vsAll, binA, binLitA, intA, opA, dstOk, Nat.reduceLT, Nat.reduceEqDiff, Int.reduceNeg, ↓reduceIte, eq_self]
  refine condD (fun hd => ?_) (fun hd => ?_)
  ·have his : i < h.sm.length := by ((try clear hh_im hh_ib d1 d2 r1 r2 r1' r2' hir hb0); omega)
   have ks := k.s i his
   have eS : h.sm.getD i lk0 = h.seam i := rfl
   simp only [vsAll, loadA, loadRow, partA, partOk, fieldAddrA, indexAddrA, cellA, okAll, stAll, opsA, opA, allocA, newCells, okCells, storeObj, dstOk, Nat.reduceAdd, Nat.reduceLT, Nat.reduceEqDiff, Int.reduceNeg, ↓reduceIte, eq_self, wtAll, lkF_at, eS]
   refine ⟨⟨by ((try clear hh_im hh_ib d1 d2 r1 r2 r1' r2' hir hb0); omega), by ((try clear hh_im hh_ib d1 d2 r1 r2 r1' r2' hir hb0); omega)⟩, his, ?_⟩
   intro i7 hh_i7; (try simp only [ite_none] at hh_i7)
   have f7 : ¬ i7 = ib ∧ ¬ i7 = ir ∧ ¬ i7 = im ∧ H i7 = none := by simp_all
   obtain ⟨f1, f2, f3, f4⟩ := f7
   have g1 : ¬ ib = i7 := fun e => f1 e.symm
   have g2 : ¬ ir = i7 := fun e => f2 e.symm
   have g3 : ¬ im = i7 := fun e => f3 e.symm
   skip
   have c1 : (decide (0 ≤ (h.seam i).ht) && decide ((h.seam i).ht ≤ 12)) = true := by rw [decide_eq_true (by ((try clear hh_im hh_ib d1 d2 r1 r2 r1' r2' hir hb0 hh_i7 f1 f2 f3 f4 g1 g2 g3); omega)), decide_eq_true (by ((try clear hh_im hh_ib d1 d2 r1 r2 r1' r2' hir hb0 hh_i7 f1 f2 f3 f4 g1 g2 g3); omega))]; rfl
   have c2 : (decide (-1 ≤ (h.seam i).sd) && decide ((h.seam i).sd ≤ 1)) = true := by rw [decide_eq_true (by ((try clear hh_im hh_ib d1 d2 r1 r2 r1' r2' hir hb0 hh_i7 f1 f2 f3 f4 g1 g2 g3); omega)), decide_eq_true (by ((try clear hh_im hh_ib d1 d2 r1 r2 r1' r2' hir hb0 hh_i7 f1 f2 f3 f4 g1 g2 g3); omega))]; rfl
   have c3 : (decide (0 ≤ (h.seam i).mo) && decide ((h.seam i).mo ≤ 4)) = true := by rw [decide_eq_true (by ((try clear hh_im hh_ib d1 d2 r1 r2 r1' r2' hir hb0 hh_i7 f1 f2 f3 f4 g1 g2 g3); omega)), decide_eq_true (by ((try clear hh_im hh_ib d1 d2 r1 r2 r1' r2' hir hb0 hh_i7 f1 f2 f3 f4 g1 g2 g3); omega))]; rfl
   have stp : ∀ (G : Nat → List AV), G 0 = [i64 (h.seam i).mo] → appF i 1 (intF (moN' h i)) G = intF (moN' h (i + 1)) := fun G hG => by
    have := app_ints (moN' h i) (h.seam i).mo G hG
    rw [moN'_len] at this
    rw [moN'_succ]
    exact this
   refine callK_pure (lwithin_tri _ _ _ _) ?_
   rw [c1]
   simp only [vsAll, loadA, loadRow, partA, partOk, fieldAddrA, opA, guardV, dstOk, Nat.reduceLT, Nat.reduceEqDiff, Int.reduceNeg, ↓reduceIte, eq_self, wtAll]
   refine gcall (boo true) (fun g => ⟨by simp only [vsAll, opA], by simp only [vsAll, okAll, opsA, opA, Int.reduceNeg, ↓reduceIte, eq_self], by have := lwithin_tri (h.seam i).sd (-1) 1; rw [c2] at this; exact this _⟩) ?_
   simp only [vsAll, loadA, loadRow, partA, partOk, fieldAddrA, pickA, opA, guardV, dstOk, Nat.reduceLT, Nat.reduceEqDiff, Int.reduceNeg, ↓reduceIte, implies_true, eq_self, wtAll]
   refine gcall (boo true) (fun g => ⟨by simp only [vsAll, opA], by simp only [vsAll, okAll, opsA, opA, ↓reduceIte, eq_self], by have := lwithin_tri (h.seam i).mo 0 4; rw [c3] at this; exact this _⟩) ?_
   simp only [vsAll, pickA, okAll, stAll, opsA, opA, dstOk, Nat.reduceLT, Nat.reduceEqDiff, Int.reduceNeg, ↓reduceIte, implies_true, eq_self]
   refine lwant_call (fun _ => ?_) (fun hb => by cases hb)
   simp only [vsAll, Int.reduceNeg]
   refine vs_draw2 [0, 0, 0, 0, 0, 0, 0, 0, 1, 2, 2, 3] [([0, 1, 2, 3, 4, 5, 6, 7], [], 8), ([9, 10], [], 11)] [] (by decide +kernel) ?_
   simp only [vsAll, binA, binLitA, intA, loadA, loadRow, partA, partOk, fieldAddrA, nilCheckA, cellA, cellsA, okParts, buildSliceA, partIdx, elemsA, lensA, partsA, partsOk, opA, newCells, okCells, storeObj, appendA, dstOk, Nat.reduceAdd, Nat.reduceMul, Nat.reduceLT, Nat.reduceLeDiff, Nat.reduceEqDiff, ↓reduceIte, eq_self, wtAll, r1, r1', hh_i7]
   refine ⟨fun q hq => by (have : q = 0 := by ((try clear hh_im hh_ib d1 d2 r1 r2 r1' r2' hir hb0 hh_i7 f1 f2 f3 f4 g1 g2 g3); omega)); subst this; exact ⟨rfl, trivial⟩, by ((try clear hh_im hh_ib d1 d2 r1 r2 r1' r2' hir hb0 hh_i7 f1 f2 f3 f4 g1 g2 g3); omega), by ((try clear hh_im hh_ib d1 d2 r1 r2 r1' r2' hir hb0 hh_i7 f1 f2 f3 f4 g1 g2 g3); omega), by simp only [InR_i64]; ((try clear hh_im hh_ib d1 d2 r1 r2 r1' r2' hir hb0 hh_i7 f1 f2 f3 f4 g1 g2 g3); omega), loop_next (i + 1) his (by ((try clear hh_im hh_ib d1 d2 r1 r2 r1' r2' hir hb0 hh_i7 f1 f2 f3 f4 g1 g2 g3); omega)) ?_ ?_⟩
   ·simp only [vsAll, Nat.reduceEqDiff, ↓reduceIte, eq_self, Int.natCast_add, Int.natCast_one]
   ·rw [stp _ rfl]
    have e1 : (H.set im (.raw (.map #[] 0))) ib = none := by rw [Hp.set_ne _ _ d1]; exact hb0
    have e2 : (H.set im (.raw (.map #[] 0))) ir = none := by rw [Hp.set_ne _ _ r2]; exact hir
    have e3 : (H.set im (.raw (.map #[] 0))) i7 = none := by rw [Hp.set_ne _ _ f3]; exact f4
    exact Go.V.HSub.set (Go.V.HSub.set (HSub_drop2 e3 (HSub_drop2 e3 (HSub_drop2 e1 (HSub_drop2 e2 HSub_rfl)))) (.refl _)) (.refl _)
  ·have ei : i = h.sm.length := by ((try clear hh_im hh_ib d1 d2 r1 r2 r1' r2' hir hb0); omega)
   subst ei
   simp only [vsAll, loadA, loadRow, partA, partOk, fieldAddrA, lenA, opA, dstOk, Nat.reduceLT, Nat.reduceEqDiff, Int.reduceNeg, ↓reduceIte, eq_self, wtAll]
   refine vs_loop (σ := Nat) (fun i => i ≤ h.so.length) (fun i => [(1, boo v), (5, .ref ib 0 4 0 0), (59, lsAV h.so), (60, i64 h.so.length), (61, i64 i)])
    (fun i => ((H.set im (.raw (.map #[] 0))).set ir (.row 1 h.sm.length (intF (moN' h h.sm.length)))).set ib (.box 4 1 fun _ => hC h (.sl ir 1 h.sm.length) im)) (fun i => h.so.length - i) 0 (Nat.zero_le _) ?_ HSub_rfl fun i hi => ?_
   ·simp only [vsAll, Nat.reduceEqDiff, ↓reduceIte, eq_self, Int.natCast_zero]
   ·simp only [vsAll, binA, binLitA, intA, opA, dstOk, Nat.reduceLT, Nat.reduceEqDiff, ↓reduceIte, eq_self]
    refine condD (fun hd => ?_) (fun hd => ?_)
    ·have his : i < h.so.length := by ((try clear hh_im hh_ib d1 d2 r1 r2 r1' r2' hir hb0); omega)
     have kq := k.q i his
     have eQ : h.so.getD i ls0 = h.snd i := rfl
     simp only [vsAll, loadA, loadRow, partA, partOk, fieldAddrA, indexAddrA, cellA, cellsA, fillA, okParts, okAll, stAll, opsA, partsA, partsOk, opA, allocA, newCells, okCells, storeObj, dstOk, Nat.reduceAdd, Nat.reduceLT, Nat.reduceLeDiff, Nat.reduceEqDiff, ↓reduceIte, eq_self, wtAll, lsF_at, eQ]
     refine ⟨⟨by ((try clear hh_im hh_ib d1 d2 r1 r2 r1' r2' hir hb0); omega), by ((try clear hh_im hh_ib d1 d2 r1 r2 r1' r2' hir hb0); omega)⟩, his, ?_⟩
     intro i9 hh_i9; (try simp only [ite_none] at hh_i9)
     have f7 : ¬ i9 = ib ∧ ¬ i9 = ir ∧ ¬ i9 = im ∧ H i9 = none := by simp_all
     obtain ⟨f1, f2, f3, f4⟩ := f7
     have g1 : ¬ ib = i9 := fun e => f1 e.symm
     have g2 : ¬ ir = i9 := fun e => f2 e.symm
     have g3 : ¬ im = i9 := fun e => f3 e.symm
     skip
     have c1 : ((decide (0 ≤ (h.snd i).dr) && decide ((h.snd i).dr ≤ 12)) && (decide (-3 ≤ (h.snd i).li) && decide ((h.snd i).li ≤ 3))) = true := by
      rw [decide_eq_true (by ((try clear hh_im hh_ib d1 d2 r1 r2 r1' r2' hir hb0 hh_i9 f1 f2 f3 f4 g1 g2 g3); omega)), decide_eq_true (by ((try clear hh_im hh_ib d1 d2 r1 r2 r1' r2' hir hb0 hh_i9 f1 f2 f3 f4 g1 g2 g3); omega)), decide_eq_true (by ((try clear hh_im hh_ib d1 d2 r1 r2 r1' r2' hir hb0 hh_i9 f1 f2 f3 f4 g1 g2 g3); omega)), decide_eq_true (by ((try clear hh_im hh_ib d1 d2 r1 r2 r1' r2' hir hb0 hh_i9 f1 f2 f3 f4 g1 g2 g3); omega))]; rfl
     have c2 : (decide (0 ≤ (h.snd i).lo) && decide ((h.snd i).lo ≤ (h.snd i).hi)) = true := by rw [decide_eq_true (by ((try clear hh_im hh_ib d1 d2 r1 r2 r1' r2' hir hb0 hh_i9 f1 f2 f3 f4 g1 g2 g3); omega)), decide_eq_true (by ((try clear hh_im hh_ib d1 d2 r1 r2 r1' r2' hir hb0 hh_i9 f1 f2 f3 f4 g1 g2 g3); omega))]; rfl
     have c3 : decide ((h.snd i).hi ≤ 24) = true := decide_eq_true (by ((try clear hh_im hh_ib d1 d2 r1 r2 r1' r2' hir hb0 hh_i9 f1 f2 f3 f4 g1 g2 g3); omega))
     refine callK_pure (isPlace_tri _ _ _) ?_
     rw [c1]
     simp only [vsAll, loadA, loadRow, partA, partOk, fieldAddrA, opA, guardV, dstOk, Nat.reduceAdd, Nat.reduceLT, Nat.reduceEqDiff, ↓reduceIte, eq_self, wtAll]
     refine gcall (boo true) (fun g => ⟨by simp only [vsAll, opA], by simp only [vsAll, okAll, opsA, opA, Nat.reduceEqDiff, ↓reduceIte, eq_self], by have := lwithin_tri (h.snd i).lo 0 (h.snd i).hi; rw [c2] at this; exact this _⟩) ?_
     simp only [vsAll, binA, binLitA, intA, loadA, loadRow, partA, partOk, fieldAddrA, pickA, okAll, stAll, opsA, opA, guardV, dstOk, Nat.reduceAdd, Nat.reduceLT, Nat.reduceEqDiff, ↓reduceIte, implies_true, eq_self, wtAll, c3]
     refine lwant_call (fun _ => ?_) (fun hb => by cases hb)
     simp only [vsAll, binA, binLitA, intA, opA, dstOk, Nat.reduceLT, Nat.reduceEqDiff, ↓reduceIte, eq_self]
     refine ⟨by simp only [InR_i64]; ((try clear hh_im hh_ib d1 d2 r1 r2 r1' r2' hir hb0 hh_i9 f1 f2 f3 f4 g1 g2 g3); omega), loop_next (i + 1) his (by ((try clear hh_im hh_ib d1 d2 r1 r2 r1' r2' hir hb0 hh_i9 f1 f2 f3 f4 g1 g2 g3); omega)) ?_ ?_⟩
     ·simp only [vsAll, Nat.reduceEqDiff, ↓reduceIte, eq_self, Int.natCast_add, Int.natCast_one]
     ·have e3 : (((H.set im (.raw (.map #[] 0))).set ir (.row 1 h.sm.length (intF (moN' h h.sm.length)))).set ib (.box 4 1 fun _ => hC h (.sl ir 1 h.sm.length) im)) i9 = none := by
       rw [Hp.set_ne _ _ f1, Hp.set_ne _ _ f2, Hp.set_ne _ _ f3]; exact f4
      exact HSub_drop2 e3 (HSub_drop2 e3 HSub_rfl)
    ·have ei : i = h.so.length := by ((try clear hh_im hh_ib d1 d2 r1 r2 r1' r2' hir hb0); omega)
     subst ei
     simp only [vsAll, okAll, stAll, opsA, opA, dstOk, Nat.reduceLT, Nat.reduceEqDiff, ↓reduceIte, eq_self]
     refine lwant_call (fun hv => ?_) (fun hv => ?_)
     ·simp only [vsAll, opA, dstOk, nilSliceOp, Nat.reduceLT, Nat.reduceEqDiff, Nat.reduceBEq, ↓reduceIte, eq_self]
      refine fn_ent (Ent.freezeBox (s' := _) (id := ir) (st := 1) (n := h.sm.length) (f := intF (moN' h h.sm.length)) (j := ib) (st' := 4) (n' := 1) (g := fun _ => hC h (.sl ir 1 h.sm.length) im) (g' := fun _ => hC h (.rsl h.sm.length 1 (intF (moN' h h.sm.length))) im) (by simp only [vsAll, ↓reduceIte, eq_self, r1]) (by simp only [vsAll, ↓reduceIte, eq_self]) (fun t => .rfl) (fun _ _ => rfl) (fun q d hq hd => ?_) ?_)
      ·match d, hd with
       | 0, _ => exact .rfl
       | 1, _ => exact .rfl
       | 2, _ => exact .hit
       | 3, _ => exact .rfl
      refine ret_freezeB (by rw [Try.results34]) (rfl) (Hp.set_same _ _ _) ?_
      refine ⟨H.set im (.memo (wetM h)), ?_, .inl ⟨hv, im, hh_im, ?_, rfl⟩⟩
      ·have e1 : (H.set im (.memo (wetM h))) ib = none := by rw [Hp.set_ne _ _ d1]; exact hb0
       have e2 : (H.set im (.memo (wetM h))) ir = none := by rw [Hp.set_ne _ _ r2]; exact hir
       refine HSub_del e1 (HSub_drop2 e1 (HSub_del e2 (HSub_drop2 e1 (HSub_drop2 e2 ?_))))
       exact HSub_set (memo_le (by simp) (by simp))
      ·have e : (moL h).length = h.sm.length := moL_len h
       show Res.ret (.rptr 1 4 (fun _ => hC h (.rsl h.sm.length 1 (intF (moN' h h.sm.length))) im) 0 0) = Res.ret (.rptr 1 4 (fun _ => hC h (.rsl (moL h).length 1 (intF (moL h))) im) 0 0)
       rw [e, moN'_all]
     ·simp only [vsAll, eq_self]
      refine ⟨H, ?_, .inr ⟨hv, rfl, rfl⟩⟩
      exact HSub_drop2 hb0 (HSub_drop2 hir (HSub_drop2 hh_im HSub_rfl))
end Go.Proofs.Ytclkjifgipcamaa
end
section
set_option linter.unusedVariables false
set_option linter.unusedSimpArgs false
namespace Go.V
set_option linter.unusedSectionVars false
variable [Inhabited GivT]
/-- Two heaps, one beside the other. -/
def mrg (A E : Hp) : Hp := fun j => match E j with
 | some o => some o
 | none => A j
def Apart (A E : Hp) : Prop := ∀ j, E j ≠ none → A j = none
theorem mrg_none {A E : Hp} {j : Nat} (h : E j = none) : mrg A E j = A j := by simp [mrg, h]
theorem mrg_some {A E : Hp} {j : Nat} {o : Obj} (h : E j = some o) : mrg A E j = some o := by simp [mrg, h]
theorem mrg_fresh {A E : Hp} {j : Nat} (h : mrg A E j = none) : A j = none ∧ E j = none := by
 unfold mrg at h
 cases he : E j with
 | none => rw [he] at h; exact ⟨h, rfl⟩
 | some o => rw [he] at h; cases h
theorem mrg_setA {A E : Hp} {j : Nat} {o : Obj} (h : E j = none) : mrg (A.set j o) E = (mrg A E).set j o := by
 funext k
 simp only [mrg, Hp.set]
 by_cases e : k = j
 ·subst e; simp [h]
 ·simp [e]
theorem mrg_setE (A E : Hp) (j : Nat) (o : Obj) : mrg A (E.set j o) = (mrg A E).set j o := by
 funext k
 simp only [mrg, Hp.set]
 by_cases e : k = j
 ·subst e; simp
 ·simp [e]
theorem mrg_emp (A : Hp) : mrg A (fun _ => none) = A := rfl
theorem apart_emp (A : Hp) : Apart A fun _ => none := fun j h => absurd rfl h
theorem Apart.E {A E : Hp} (h : Apart A E) {j : Nat} (hj : A j ≠ none) : E j = none := Classical.byContradiction fun e => hj (h j e)
theorem Apart.setE {A E : Hp} (h : Apart A E) {j : Nat} (o : Obj) (hj : A j = none) : Apart A (E.set j o) := fun k hk => by
 by_cases e : k = j
 ·subst e; exact hj
 ·rw [Hp.set_ne _ _ e] at hk; exact h k hk
theorem mrg_sub (A E : Hp) (h : Apart A E) : Go.V.HSub (mrg A E) A := fun j o hj => ⟨o, by
 rw [mrg_none (h.E (by rw [hj]; exact Option.some_ne_none _))]; exact hj, .refl _⟩
/-- Yields, one after another, each of which says true. -/
def IterE (P : Program) (y : AV) : List (List AV) → Hp → (Hp → Prop) → Prop
 | [], H, K => K H
 | x :: l, H, K => ∀ E, Apart H E → Tri P y x (mrg H E) fun r H' => r = .ret (.lit (.bool true)) ∧ ∃ H1, Apart H1 E ∧ H' = mrg H1 E ∧ IterE P y l H1 K
theorem iter_seqE {P : Program} {y : AV} {L : List (List AV)} {σ : Type} {inv : Nat → σ → Prop} {G : Nat → σ → Hp} {K : Hp → Prop} {B : Hp}
  (hG : ∀ i x, inv i x → ∀ j, (G i x) j = none ↔ B j = none)
  (h : ∀ i v x, L[i]? = some v → inv i x → ∀ E, Apart B E → Tri P y v (mrg (G i x) E) fun r H' => r = .ret (.lit (.bool true)) ∧ ∃ x', inv (i + 1) x' ∧ H' = mrg (G (i + 1) x') E)
  (hK : ∀ x, inv L.length x → K (G L.length x)) (x0 : σ) (h0 : inv 0 x0) : IterE P y L (G 0 x0) K := by
 have ap : ∀ i x, inv i x → ∀ E, Apart (G i x) E ↔ Apart B E := fun i x hx E => ⟨fun a j hj => (hG i x hx j).1 (a j hj), fun a j hj => (hG i x hx j).2 (a j hj)⟩
 have key : ∀ (l : List (List AV)) (j : Nat) (x : σ), L.drop j = l → j ≤ L.length → inv j x → IterE P y l (G j x) K := by
  intro l
  induction l with
  | nil =>
    intro j x hl hj hi
    have : j = L.length := by
     have := congrArg List.length hl
     simp at this; omega
    subst this; exact hK x hi
  | cons v l ih =>
    intro j x hl hj hi
    have hx : L[j]? = some v := by
     have := congrArg (fun q => q[0]?) hl
     simpa using this
    have hj' : j < L.length := (List.getElem?_eq_some_iff.1 hx).1
    intro E hE
    refine (h j v x hx hi E ((ap j x hi E).1 hE)).mono ?_
    rintro r H' ⟨rfl, x', hi', rfl⟩
    refine ⟨rfl, _, (ap (j + 1) x' hi' E).2 ((ap j x hi E).1 hE), rfl, ih (j + 1) x' ?_ hj' hi'⟩
    rw [← List.drop_drop, hl]; rfl
 exact key L 0 x0 rfl (Nat.zero_le _) h0
section
variable {P : Program} {m : Option Tmp → Bool} {n : Nat} {k : List It} {s : Fr} {ds : List AD} {H : Hp} {Q : Post}
/-- What is asked at a round's end. -/
def RndE (NX : Hp → Prop) (lid did : Nat) (lo : LoopState → Option Code → Obj) : Post := fun x s' ds' H' => match x with
 | .normal => (∃ st pd, H' lid = some (lo st pd)) ∧ ∃ nx, NX nx ∧ Go.V.HSub H' ((nx.set did (.raw (.deferred (some [])))).set lid (lo .busy none))
 | _ => False
theorem RndE_normal {NX : Hp → Prop} {s' : Fr} {ds' : List AD} {lid did : Nat} {lo : LoopState → Option Code → Obj} : RndE NX lid did lo .normal s' ds' H = ((∃ st pd, H lid = some (lo st pd)) ∧ ∃ nx, NX nx ∧ Go.V.HSub H ((nx.set did (.raw (.deferred (some [])))).set lid (lo .busy none))) := rfl
def AsgE (P : Program) (m : Option Tmp → Bool) (n : Nat) (l : Nat) (body : Code) (NX : Hp → Prop) (lid did : Nat) (lo : LoopState → Option Code → Obj) : Post := fun x s' ds' H' => match x with
 | .normal => H' lid = some (lo .ready none) ∧ VS (some l) P m n [.code body] s' ds' (H'.set lid (lo .busy none)) (RndE NX lid did lo)
 | _ => False
theorem AsgE_normal {l : Nat} {body : Code} {NX : Hp → Prop} {s' : Fr} {ds' : List AD} {lid did : Nat} {lo : LoopState → Option Code → Obj} : AsgE P m n l body NX lid did lo .normal s' ds' H = (H lid = some (lo .ready none) ∧ VS (some l) P m n [.code body] s' ds' (H.set lid (lo .busy none)) (RndE NX lid did lo)) := rfl
theorem vs_rangeE {g : Operand} {ps : Array Tmp} {assign body : Code} {f : FuncId} {fn : Func} {c : Code} {caps : List AV} {σ : Type} (L : List (List AV)) (inv : Nat → σ → Prop) (hp : Nat → σ → Hp) (x0 : σ)
  (hf : P.funcs[f]? = some fn) (hname : (fn.name == "runtime.NumGoroutine") = false) (hb : fn.body = some c)
  (hg : (opA s g).ok) (hgv : (opA s g).st = .func (.func f) [] caps) (hps : ∀ t ∈ ps.toList, t < n) (hpl : ∀ x ∈ L, x.length = ps.size)
  (hit : ∀ yf H K, IterE P (.func yf [] []) L H K → Tri P (.func (.func f) [] caps) [.func yf [] []] H fun r H' => (∃ v, r = .ret v) ∧ K H')
  (h0 : inv 0 x0) (hH : Go.V.HSub H (hp 0 x0)) (hfr : ∀ i x, inv i x → ∀ id, hp i x id = none ↔ hp 0 x0 id = none)
  (round : ∀ (E : Hp) i v x, L[i]? = some v → inv i x → Apart (hp 0 x0) E → ∀ lid did l (lo : LoopState → Option Code → Obj), hp 0 x0 lid = none → hp 0 x0 did = none → lid ≠ did → E lid = none → E did = none →
   VS (some l) P m n [.code assign] (putAll s ps.toList v) [] (((mrg (hp i x) E).set did (.raw (.deferred (some [])))).set lid (lo .ready none)) (AsgE P m n l body (fun nx => ∃ x', inv (i + 1) x' ∧ nx = mrg (hp (i + 1) x') E) lid did lo))
  (fin : ∀ x, inv L.length x → ∀ lid did (lo : LoopState → Option Code → Obj), hp 0 x0 lid = none → hp 0 x0 did = none → lid ≠ did →
   VS none P m n k s (.mark did :: ds) (((hp L.length x).set did (.raw (.deferred (some [])))).set lid (lo .exhausted none)) Q) :
  VS none P m n (.code (.rangeFunc g ps assign body) :: k) s ds H Q := by
 show WPS none P n (.rangeFunc g ps assign body) s ds H (TK none P m n k Q)
 refine wps_ent (Ent.weak (s' := s) (fun t => AV.Le.refl _) hH ?_)
 refine wps_range hg hgv hf hname hb fun lid did l h1 h2 h3 => ?_
 let lo : LoopState → Option Code → Obj := fun st pd => .loop l n s ps assign body st pd did
 let G : Nat → σ → Hp := fun i x => ((hp i x).set did (.raw (.deferred (some [])))).set lid (lo .ready none)
 let K : Hp → Prop := fun H' => ∃ st pend, H' lid = some (lo st pend) ∧ st ≠ .busy ∧ jumpQ pend fun x => VX none P m n k x s (.mark did :: ds) (H'.set lid (lo .exhausted pend)) Q
 refine ⟨_, hit (.yield l) _ K ?_, ?_⟩
 ·refine iter_seqE (G := G) (inv := inv) (B := G 0 x0) (fun i x hi q => ?_) (fun i v x hv hi E hE => ?_) (fun x hi => ⟨.ready, none, Hp.set_same _ _ _, by simp, ?_⟩) x0 h0
  ·simp only [G, Hp.set]
   by_cases e1 : q = lid
   ·simp [e1]
   ·rw [if_neg e1, if_neg e1]
    by_cases e2 : q = did
    ·simp [e2]
    ·rw [if_neg e2, if_neg e2]; exact hfr i x hi q
  ·have n1 : E lid = none := hE.E (by simp only [G, Hp.set_same]; exact Option.some_ne_none _)
   have n2 : E did = none := hE.E (by
    have : G 0 x0 did = some (.raw (.deferred (some []))) := by
     simp only [G]
     rw [Hp.set_ne _ _ (fun e => h3 e.symm), Hp.set_same]
    rw [this]; exact Option.some_ne_none _)
   have hE0 : Apart (hp 0 x0) E := fun j hj => by
    have := hE j hj
    simp only [G] at this
    rw [Hp.set_ne _ _ (fun e => by subst e; exact hj n1), Hp.set_ne _ _ (fun e => by subst e; exact hj n2)] at this
    exact this
   have ec : ∀ (A : Hp) X Y, mrg ((A.set did X).set lid Y) E = ((mrg A E).set did X).set lid Y := fun A X Y => by
    rw [mrg_setA n1, mrg_setA n2]
   have eG : mrg (G i x) E = ((mrg (hp i x) E).set did (.raw (.deferred (some [])))).set lid (lo .ready none) := ec _ _ _
   rw [eG]
   refine Tri.drop ?_
   refine tri_yield (lid := lid) (n := n) (s := s) (ps := ps) (assign := assign) (body := body) (did := did) (Hp.set_same _ _ _) (hpl v (List.mem_of_getElem? hv)) hps ?_
   refine (vcC_sound assign (round E i v x hv hi hE0 lid did l lo h1 h2 h3 n1 n2)).mono ?_
   intro x1 s1 ds1 H1 hq
   cases x1 with
   | normal =>
     obtain ⟨q1, q2⟩ := hq
     refine ⟨rfl, q1, (vcC_sound body q2).mono ?_⟩
     intro x2 s2 ds2 H2 hq2
     cases x2 with
     | normal =>
       obtain ⟨⟨st, pd, ho⟩, nx, ⟨x', hi', rfl⟩, hsub⟩ := hq2
       exact ⟨st, pd, ho, _, HSub.reset hsub, rfl, x', hi', (ec _ _ _).symm⟩
     | _ => exact hq2.elim
   | _ => exact hq.elim
  ·simp only [jumpQ, G, Hp.set_set]
   exact fin x hi lid did lo h1 h2 h3
 ·rintro r H' ⟨⟨v, rfl⟩, st, pend, ho, hst, hj⟩
  exact ⟨st, pend, ho, hst, hj⟩
end
end Go.V
end
section
set_option linter.unusedVariables false
set_option linter.unusedSimpArgs false
set_option maxHeartbeats 4000000
set_option maxRecDepth 100000
namespace Go.Proofs.Ytclkjifgipcamaa
open Go.V
abbrev hbA (h : Hl) (im : Nat) : AV := .rptr 1 1 (fun _ => [hP h im]) 0 0
abbrev onL (h : Hl) (im io : Nat) (yf : Fn) : AV := .func (.func 126) [] [hbA h im, .rptr 1 1 (fun _ => [.func yf [] []]) 0 0, .rptr 1 1 (fun _ => [cndAV h]) 0 0, .ref io 0 1 0 0]
def ylL (L : List (List Int)) : List (List AV) := L.map fun l => [ifAV l]
theorem ylL_app (L M : List (List Int)) : ylL (L ++ M) = ylL L ++ ylL M := by simp [ylL]
def inG (h : Hl) (n : Nat) (b : List Int) (x : Nat) : List (List Int) := if okP h (b ++ [(x : Int)]) = true then infl h n (b ++ [(x : Int)]) else []
def inR (h : Hl) (n : Nat) (b : List Int) (i : Nat) : List (List Int) := ((List.range (h.M b.length + 1)).drop i).flatMap (inG h n b)
theorem inR_step {h : Hl} {n : Nat} {b : List Int} {i : Nat} (hi : i < h.M b.length + 1) : inR h n b i = inG h n b i ++ inR h n b (i + 1) := by
 unfold inR
 rw [List.drop_eq_getElem_cons (by simpa using hi), List.flatMap_cons, List.getElem_range]
theorem inR_end (h : Hl) (n : Nat) (b : List Int) : inR h n b (h.M b.length + 1) = [] := by
 unfold inR
 rw [List.drop_eq_nil_of_le (by simp)]; rfl
def prv (i : Nat) : Int := if i = 0 then 0 else (i : Int) - 1
theorem ifF_zero (b : List Int) : ifF b = ifF (b ++ [0]) := by
 funext q
 unfold ifF
 by_cases e : q < b.length
 ·rw [lapp _ _ _ e]
 ·have e1 : b.getD q 0 = 0 := by rw [List.getD_eq_getElem?_getD, List.getElem?_eq_none (by omega)]; rfl
  have e2 : (b ++ [(0 : Int)]).getD q 0 = 0 := by
   obtain ⟨z, rfl⟩ : ∃ z, q = b.length + z := ⟨q - b.length, by omega⟩
   rw [lappR]
   cases z with
   | zero => rfl
   | succ z => simp
  rw [e1, e2]
theorem ifF_upd {b : List Int} {x y : Int} (hb : b.length < 6) : ∀ q, q < 6 → updF 6 b.length (ifF (b ++ [y])) [i64 x] q = ifF (b ++ [x]) q := fun q hq => by
 rw [Go.V.updF_at hb hq]
 unfold ifF
 by_cases e : q = b.length
 ·subst e
  rw [if_pos rfl]
  have := lappR b [x] 0 0
  rw [Nat.add_zero] at this
  rw [this]; rfl
 ·rw [if_neg e]
  by_cases e2 : q < b.length
  ·rw [lapp _ _ _ e2, lapp _ _ _ e2]
  ·obtain ⟨z, rfl⟩ : ∃ z, q = b.length + (z + 1) := ⟨q - b.length - 1, by omega⟩
   rw [lappR, lappR]; simp
theorem snoc_bd {b : List Int} {x : Int} (hb : ∀ i, 0 ≤ b.getD i 0 ∧ b.getD i 0 ≤ 4) (hx : 0 ≤ x ∧ x ≤ 4) (i : Nat) : 0 ≤ (b ++ [x]).getD i 0 ∧ (b ++ [x]).getD i 0 ≤ 4 := by
 by_cases e : i < b.length
 ·rw [lapp _ _ _ e]; exact hb i
 ·obtain ⟨z, rfl⟩ : ∃ z, i = b.length + z := ⟨i - b.length, by omega⟩
  rw [lappR]
  cases z with
  | zero => exact hx
  | succ z => simp
theorem lon_tri {h : Hl} (k : OkH h) {im io : Nat} {yf : Fn} {K : Hp → Prop} :
  ∀ (n : Nat) (b : List Int) (A E : Hp) (L2 : List (List AV)), b.length + n = h.sm.length → (∀ i, 0 ≤ b.getD i 0 ∧ b.getD i 0 ≤ 4) → Apart A E → E io = some (.box 1 1 fun _ => [onL h im io yf]) →
    IterE Try.prog (.func yf [] []) (ylL (infl h n b) ++ L2) A K →
    Tri Try.prog (onL h im io yf) [ifAV b, i64 b.length] (mrg A E) fun r H' => r = .ret (boo true) ∧ ∃ H1, Apart H1 E ∧ H' = mrg H1 E ∧ IterE Try.prog (.func yf [] []) L2 H1 K := by
 have nS := k.nS
 have nQ := k.nQ
 have hml := moL_len h
 intro n
 induction n with
 | zero =>
   intro b A E L2 hl hb ap ho hit
   have hit2 : IterE Try.prog (.func yf [] []) ([ifAV b] :: L2) A K := hit
   refine Tri.drop ?_
   refine tri_v0 (mset []) Try.func126 (by kernel_rfl) rfl (by simp only [List.length_append, List.length_cons, List.length_nil, Try.ntmps126]; decide) ?_
   simp only [vsAll, binA, binLitA, intA, loadA, loadRow, partA, partOk, fieldAddrA, lenA, nilCheckA, boxA, boxZ, opA, dstOk, nilSliceOp, argFr, Nat.reduceLT, Nat.reduceEqDiff, ↓reduceIte, eq_self, wtAll, Try.ntmps126, hml]
   refine condD (fun hd => ?_) (fun hd => absurd (by omega) hd)
   simp only [vsAll, loadA, loadRow, partA, partOk, okAll, stAll, opsA, opA, dstOk, argFr, Nat.reduceLT, Nat.reduceEqDiff, ↓reduceIte, eq_self, wtAll]
   refine callK (hit2 E ap) ?_
   rintro r H' ⟨rfl, H1, a1, rfl, a3⟩
   simp only [vsAll, opA, dstOk, nilSliceOp, resA, retA.eq_1, Nat.reduceLT, ↓reduceIte, eq_self, Try.results126]
   exact ⟨_, HSub_rfl, rfl, H1, a1, rfl, a3⟩
 | succ n ih =>
   intro b A E L2 hl hb ap ho hit
   have hbl : b.length < h.sm.length := by omega
   have hM := k.M hbl
   have hmi : (moL h).getD b.length 0 = (h.seam b.length).mo := moL_at h hbl
   refine Tri.drop ?_
   refine tri_v0 (mset [6]) Try.func126 (by kernel_rfl) rfl (by simp only [List.length_append, List.length_cons, List.length_nil, Try.ntmps126]; decide) ?_
   simp only [vsAll, binA, binLitA, intA, loadA, loadRow, partA, partOk, fieldAddrA, lenA, nilCheckA, opA, boxMutA, dstOk, nilSliceOp, argFr, Nat.reduceLT, Nat.reduceEqDiff, Nat.reduceBEq, ↓reduceIte, eq_self, wtAll, Try.ntmps126, hml]
   intro i6 hh_i6; (try simp only [Hp.set_none, ite_none] at hh_i6)
   obtain ⟨fA, fE⟩ := mrg_fresh hh_i6
   have d1 : ¬ io = i6 := fun e => by rw [e, fE] at ho; cases ho
   have d2 : ¬ i6 = io := fun e => d1 e.symm
   have hio : ∀ A : Hp, mrg A E io = some (.box 1 1 fun _ => [onL h im io yf]) := fun A => mrg_some ho
   refine condD (fun hd => absurd hd (by ((try clear hh_i6); omega))) (fun hd => ?_)
   simp only [vsAll, opA, dstOk, nilSliceOp, Nat.reduceLT, Nat.reduceBEq, eq_self]
   refine vs_loop (σ := Nat × Hp) (fun y => y.1 ≤ h.M b.length + 1 ∧ Apart y.2 E ∧ y.2 i6 = none ∧ IterE Try.prog (.func yf [] []) (ylL (inR h n b y.1) ++ L2) y.2 K)
    (fun y => [(1, i64 b.length), (2, hbA h im), (3, .rptr 1 1 (fun _ => [.func yf [] []]) 0 0), (4, .rptr 1 1 (fun _ => [cndAV h]) 0 0), (5, .ref io 0 1 0 0), (6, .ref i6 0 1 0 0), (9, i64 y.1)])
    (fun y => (mrg y.2 E).set i6 (.box 1 6 (ifF (b ++ [prv y.1])))) (fun y => h.M b.length + 1 - y.1) (0, A) ⟨Nat.zero_le _, ap, fA, hit⟩ ?_ ?_ fun y hy => ?_
   ·simp only [vsAll, argFr, Nat.reduceEqDiff, ↓reduceIte, eq_self, Int.natCast_zero]
   ·rw [ifF_zero b]; exact HSub_rfl
   ·obtain ⟨i, A1⟩ := y
    obtain ⟨hi, a1, a2, a3⟩ := hy
    simp only [] at hi a1 a2 a3
    have n6 : (mrg A1 E) i6 = none := by rw [mrg_none fE]; exact a2
    skip
    simp only [vsAll, binA, binLitA, intA, loadA, loadRow, partA, partOk, fieldAddrA, indexAddrA, nilCheckA, opA, dstOk, Nat.reduceLT, Nat.reduceEqDiff, ↓reduceIte, eq_self, wtAll, hml, intF_at, hmi]
    refine ⟨⟨by ((try clear hh_i6 d1 d2 n6); omega), by ((try clear hh_i6 d1 d2 n6); omega)⟩, hbl, condD (fun hd2 => ?_) (fun hd2 => ?_)⟩
    ·have his : i < h.M b.length + 1 := by ((try clear hh_i6 d1 d2 n6); omega)
     have hst := inR_step (n := n) his
     rw [hst, ylL_app, List.append_assoc] at a3
     have hbd := snoc_bd (x := (i : Int)) hb (by ((try clear hh_i6 d1 d2 n6); omega))
     have hlx : (b ++ [(i : Int)]).length = b.length + 1 := by simp
     have eu := ifF_upd (b := b) (x := (i : Int)) (y := prv i) (by ((try clear hh_i6 d1 d2 n6); omega))
     simp only [vsAll, loadA, loadRow, partA, partOk, indexAddrA, lenA, cellA, cellsA, opA, newCells, okCells, storeObj, dstOk, Nat.reduceLT, Nat.reduceEqDiff, ↓reduceIte, eq_self, wtAll]
     refine ⟨⟨by ((try clear hh_i6 d1 d2 n6); omega), by ((try clear hh_i6 d1 d2 n6); omega)⟩, by ((try clear hh_i6 d1 d2 n6); omega), ?_⟩
     refine vs_loop (σ := Nat) (fun j => j ≤ h.so.length + 1 ∧ ∀ q, q < j → cndB h (b ++ [(i : Int)]) q = true)
      (fun j => [(1, i64 b.length), (2, hbA h im), (3, .rptr 1 1 (fun _ => [.func yf [] []]) 0 0), (4, .rptr 1 1 (fun _ => [cndAV h]) 0 0), (5, .ref io 0 1 0 0), (6, .ref i6 0 1 0 0), (9, i64 i), (36, cndAV h), (37, i64 (h.so.length + 1 : Nat)), (38, i64 j)])
      (fun _ => (mrg A1 E).set i6 (.box 1 6 (ifF (b ++ [(i : Int)])))) (fun j => h.so.length + 1 - j) 0 ⟨Nat.zero_le _, fun q hq => absurd hq (Nat.not_lt_zero q)⟩ ?_ ?_ fun j hj => ?_
     ·simp only [vsAll, Nat.reduceEqDiff, ↓reduceIte, eq_self, Int.natCast_zero]
     ·rw [Hp.set_set]
      exact HSub.set (HSub.refl _) (box_ext fun q hq => eu q hq)
     ·obtain ⟨hj, hall⟩ := hj
      simp only [vsAll, binA, binLitA, intA, opA, dstOk, Nat.reduceLT, Nat.reduceEqDiff, ↓reduceIte, eq_self]
      refine condD (fun hd3 => ?_) (fun hd3 => ?_)
      ·have hjs : j < h.so.length + 1 := by ((try clear hh_i6 d1 d2 n6); omega)
       have hok := cndA_ok h j
       have hst2 := cndA_st h j
       simp only [vsAll, loadA, loadRow, partA, partOk, indexAddrA, opA, dstOk, nilSliceOp, Nat.reduceLT, Nat.reduceEqDiff, Nat.reduceBEq, ↓reduceIte, eq_self, wtAll, cndF_at, hok, hst2]
       refine ⟨⟨by ((try clear hh_i6 d1 d2 n6); omega), by ((try clear hh_i6 d1 d2 n6); omega)⟩, hjs, ?_⟩
       have key := can_tri h j (b ++ [(i : Int)]) ((mrg A1 E).set i6 (.box 1 6 (ifF (b ++ [(i : Int)])))) k hjs (by ((try clear hh_i6 d1 d2 n6); omega)) hbd
       simp only [hlx, Int.natCast_add, Int.natCast_one] at key
       cases j with
       | zero =>
         refine vs_draw2 [0, 0, 0, 0, 0, 0, 0, 0, 0, 0, 0, 0, 0] [] [0, 1, 2, 3, 4, 5, 6, 7, 8, 9, 10, 11, 12] (by decide +kernel) ?_
         simp only [vsAll, binA, binLitA, intA, loadA, loadRow, partA, partOk, fieldAddrA, nilCheckA, okAll, stAll, opsA, opA, dstOk, Nat.reduceLT, Nat.reduceEqDiff, ↓reduceIte, eq_self, wtAll, cndA, nil_none]
         refine ⟨by simp only [InR_i64]; ((try clear hh_i6 d1 d2 n6); omega), qcall _ (And.intro trivial (And.intro (by simp only [vsAll, okAll, opsA, opA, Nat.reduceEqDiff, ↓reduceIte, eq_self]) key)) ?_⟩
         simp only [vsAll, unA, opA, dstOk, Nat.reduceLT, ↓reduceIte, eq_self]
         refine condV (fun hc => ?_) (fun hc => ?_)
         ·have hF : cndB h (b ++ [(i : Int)]) 0 = false := by simpa using hc
          have eg : inG h n b i = [] := if_neg (fun q => by have := okP_cnd.1 q 0 (by ((try clear hh_i6 d1 d2 n6); omega)); rw [hF] at this; cases this)
          rw [eg] at a3
          simp only [vsAll, binA, binLitA, intA, opA, dstOk, nilSliceOp, Nat.reduceLT, Nat.reduceEqDiff, Nat.reduceBEq, ↓reduceIte, eq_self]
          refine ⟨by simp only [InR_i64]; ((try clear hh_i6 d1 d2 n6); omega), loop_next (i + 1, A1) ⟨his, a1, a2, a3⟩ (by show _ - _ < _ - _; ((try clear hh_i6 d1 d2 n6); omega)) ?_ ?_⟩
          ·simp only [vsAll, Nat.reduceEqDiff, ↓reduceIte, eq_self, Int.natCast_add, Int.natCast_one]
          ·have e1 : prv (i + 1) = i := by simp [prv]
           rw [e1]; exact HSub_rfl
         ·have hT : cndB h (b ++ [(i : Int)]) 0 = true := by simpa using hc
          simp only [vsAll, binA, binLitA, intA, opA, dstOk, Nat.reduceLT, Nat.reduceEqDiff, ↓reduceIte, eq_self]
          refine ⟨by simp only [InR_i64]; ((try clear hh_i6 d1 d2 n6); omega), loop_next (0 + 1) ⟨by ((try clear hh_i6 d1 d2 n6); omega), fun q hq => ?_⟩ (by ((try clear hh_i6 d1 d2 n6); omega)) ?_ HSub_rfl⟩
          ·by_cases e : q = 0
           ·rw [e]; exact hT
           ·exact hall q (by ((try clear hh_i6 d1 d2 n6); omega))
          ·simp only [vsAll, Nat.reduceEqDiff, ↓reduceIte, eq_self, Int.natCast_add, Int.natCast_one, Int.natCast_zero, Int.zero_add]
       | succ j =>
         refine vs_draw2 [0, 0, 0, 0, 0, 0, 0, 0, 0, 0, 0, 0, 0] [] [0, 1, 2, 3, 4, 5, 6, 7, 8, 9, 10, 11, 12] (by decide +kernel) ?_
         simp only [vsAll, binA, binLitA, intA, loadA, loadRow, partA, partOk, fieldAddrA, nilCheckA, okAll, stAll, opsA, opA, dstOk, Nat.reduceLT, Nat.reduceEqDiff, ↓reduceIte, eq_self, wtAll, cndA, nil_snd]
         refine ⟨by simp only [InR_i64]; ((try clear hh_i6 d1 d2 n6); omega), qcall _ (And.intro trivial (And.intro (by simp only [vsAll, okAll, opsA, opA, Nat.reduceEqDiff, ↓reduceIte, eq_self]) key)) ?_⟩
         simp only [vsAll, unA, opA, dstOk, Nat.reduceLT, ↓reduceIte, eq_self]
         refine condV (fun hc => ?_) (fun hc => ?_)
         ·have hF : cndB h (b ++ [(i : Int)]) (j + 1) = false := by simpa using hc
          have eg : inG h n b i = [] := if_neg (fun q => by have := okP_cnd.1 q (j + 1) (by ((try clear hh_i6 d1 d2 n6); omega)); rw [hF] at this; cases this)
          rw [eg] at a3
          simp only [vsAll, binA, binLitA, intA, opA, dstOk, nilSliceOp, Nat.reduceLT, Nat.reduceEqDiff, Nat.reduceBEq, ↓reduceIte, eq_self]
          refine ⟨by simp only [InR_i64]; ((try clear hh_i6 d1 d2 n6); omega), loop_next (i + 1, A1) ⟨his, a1, a2, a3⟩ (by show _ - _ < _ - _; ((try clear hh_i6 d1 d2 n6); omega)) ?_ ?_⟩
          ·simp only [vsAll, Nat.reduceEqDiff, ↓reduceIte, eq_self, Int.natCast_add, Int.natCast_one]
          ·have e1 : prv (i + 1) = i := by simp [prv]
           rw [e1]; exact HSub_rfl
         ·have hT : cndB h (b ++ [(i : Int)]) (j + 1) = true := by simpa using hc
          simp only [vsAll, binA, binLitA, intA, opA, dstOk, Nat.reduceLT, Nat.reduceEqDiff, ↓reduceIte, eq_self]
          refine ⟨by simp only [InR_i64]; ((try clear hh_i6 d1 d2 n6); omega), loop_next ((j + 1) + 1) ⟨by ((try clear hh_i6 d1 d2 n6); omega), fun q hq => ?_⟩ (by ((try clear hh_i6 d1 d2 n6); omega)) ?_ HSub_rfl⟩
          ·by_cases e : q = (j + 1)
           ·rw [e]; exact hT
           ·exact hall q (by ((try clear hh_i6 d1 d2 n6); omega))
          ·simp only [vsAll, Nat.reduceEqDiff, ↓reduceIte, eq_self, Int.natCast_add, Int.natCast_one]
      ·have ej : j = h.so.length + 1 := by ((try clear hh_i6 d1 d2 n6); omega)
       subst ej
       have hP := okP_cnd.2 hall
       have eg : inG h n b i = infl h n (b ++ [(i : Int)]) := if_pos hP
       rw [eg] at a3
       have hx6 := mrg_setE A1 E i6 (.box 1 6 (ifF (b ++ [(i : Int)])))
       have ioA := hio A1
       skip
       simp only [vsAll, binA, binLitA, intA, loadA, loadRow, partA, partOk, okAll, stAll, opsA, opA, dstOk, Nat.reduceLT, Nat.reduceEqDiff, ↓reduceIte, eq_self, wtAll, d1, ioA]
       have nE : E i6 = none := fE
       have hc2 := ih (b ++ [(i : Int)]) A1 (E.set i6 (.box 1 6 (ifF (b ++ [(i : Int)])))) (ylL (inR h n b (i + 1)) ++ L2) (by ((try clear hh_i6 d1 d2 n6 ioA); omega)) hbd (a1.setE _ a2) (by rw [Hp.set_ne _ _ d1]; exact ho) a3
       rw [hx6] at hc2
       simp only [hlx, Int.natCast_add, Int.natCast_one] at hc2
       refine ⟨by simp only [InR_i64]; ((try clear hh_i6 d1 d2 n6 ioA); omega), callK hc2 ?_⟩
       rintro r H' ⟨rfl, H2, b1, rfl, b3⟩
       have e6 : H2 i6 = none := Classical.byContradiction fun q => by have := b1.E q; rw [Hp.set_same] at this; cases this
       have hx7 := mrg_setE H2 E i6 (.box 1 6 (ifF (b ++ [(i : Int)])))
       rw [hx7]
       simp only [vsAll, binA, binLitA, intA, unA, opA, dstOk, nilSliceOp, Nat.reduceLT, Nat.reduceEqDiff, Nat.reduceBEq, ↓reduceIte, eq_self]
       refine ⟨by simp only [InR_i64]; ((try clear hh_i6 d1 d2 n6 ioA); omega), loop_next (i + 1, H2) ⟨his, fun q hq => ?_, e6, b3⟩ (by show _ - _ < _ - _; ((try clear hh_i6 d1 d2 n6 ioA); omega)) ?_ ?_⟩
       ·by_cases e : q = i6
        ·rw [e]; exact e6
        ·exact b1 q (by rw [Hp.set_ne _ _ e]; exact hq)
       ·simp only [vsAll, Nat.reduceEqDiff, ↓reduceIte, eq_self, Int.natCast_add, Int.natCast_one]
       ·have e1 : prv (i + 1) = i := by simp [prv]
        rw [e1]; exact HSub_rfl
    ·have ei : i = h.M b.length + 1 := by ((try clear hh_i6 d1 d2 n6); omega)
     subst ei
     rw [inR_end] at a3
     simp only [vsAll, opA, dstOk, nilSliceOp, resA, retA.eq_1, Nat.reduceLT, Nat.reduceBEq, ↓reduceIte, eq_self, Try.results126]
     exact ⟨_, HSub_drop2 n6 HSub_rfl, rfl, A1, a1, rfl, a3⟩
end Go.Proofs.Ytclkjifgipcamaa
end
section
set_option linter.unusedVariables false
namespace Go.V
set_option linter.unusedSectionVars false
variable [Inhabited GivT]
/-- A box frozen in what the slots hold. -/
inductive FzB (id st n : Nat) (f : Nat → List AV) : List (Nat × AV) → List (Nat × AV) → Prop
 | nil : FzB id st n f [] []
 | same {t : Nat} {v : AV} {l l' : List (Nat × AV)} : FzB id st n f l l' → FzB id st n f ((t, v) :: l) ((t, v) :: l')
 | hit {t i j : Nat} {l l' : List (Nat × AV)} : FzB id st n f l l' → FzB id st n f ((t, .ref id 0 st i j) :: l) ((t, .rptr n st f i j) :: l')
theorem FzB.frz {id st n : Nat} {f : Nat → List AV} {l l' : List (Nat × AV)} (h : FzB id st n f l l') : ∀ t, Fr.of l' t = Fr.of l t ∨ ∃ i j, Fr.of l t = .ref id 0 st i j ∧ Fr.of l' t = .rptr n st f i j := by
 intro t
 induction h with
 | nil => exact .inl rfl
 | same _ ih =>
   simp only [Fr.of]
   split
   ·exact .inl rfl
   ·exact ih
 | hit _ ih =>
   simp only [Fr.of]
   split
   ·exact .inr ⟨_, _, rfl, rfl⟩
   ·exact ih
theorem FzB.refl {id st n : Nat} {f : Nat → List AV} : ∀ l : List (Nat × AV), FzB id st n f l l
 | [] => .nil
 | (t, v) :: l => .same (FzB.refl l)
theorem vs_entF {r : Option Nat} {P : Program} {m : Option Tmp → Bool} {n : Nat} {k : List It} {s : Fr} {ds : List AD} {H : Hp} {Q : Post} {g : Operand} {ps : Array Tmp} {a b : Code}
  (h : Ent s ds H fun s ds H => VS r P m n (.code (.rangeFunc g ps a b) :: k) s ds H Q) : VS r P m n (.code (.rangeFunc g ps a b) :: k) s ds H Q :=
 (wps_ent h : WPS r P n (.rangeFunc g ps a b) s ds H (TK r P m n k Q))
end Go.V
end
section
set_option linter.unusedVariables false
set_option linter.unusedSimpArgs false
set_option maxHeartbeats 4000000
set_option maxRecDepth 100000
namespace Go.Proofs.Ytclkjifgipcamaa
open Go.V
theorem azT226 : azT Try.prog 226 = some (1, 1, [.nilFunc]) := by kernel_rfl
theorem agg6 {f : Nat → List AV} {a b c d e g : AV} (h0 : f 0 = [a]) (h1 : f 1 = [b]) (h2 : f 2 = [c]) (h3 : f 3 = [d]) (h4 : f 4 = [e]) (h5 : f 5 = [g]) : AV.Le (.agg [a, b, c, d, e, g]) (.arr 6 1 f) := by
 intro S v hv
 cases hv with
 | agg hn hh =>
   refine .arr hn (fun i hi => ?_) fun i j hi hj => ?_
   ·match i, hi with
    | 0, _ => rw [h0]; rfl
    | 1, _ => rw [h1]; rfl
    | 2, _ => rw [h2]; rfl
    | 3, _ => rw [h3]; rfl
    | 4, _ => rw [h4]; rfl
    | 5, _ => rw [h5]; rfl
   ·have ej : j = 0 := by omega
    subst ej
    have := hh i hi
    match i, hi with
    | 0, _ => rw [h0]; exact this
    | 1, _ => rw [h1]; exact this
    | 2, _ => rw [h2]; exact this
    | 3, _ => rw [h3]; exact this
    | 4, _ => rw [h4]; exact this
    | 5, _ => rw [h5]; exact this
abbrev infA (h : Hl) (im : Nat) : AV := .func (.func 125) [] [hbA h im, .rptr 1 1 (fun _ => [cndAV h]) 0 0]
theorem inf1_tri {h : Hl} (k : OkH h) {im : Nat} {yf : Fn} {H : Hp} {K : Hp → Prop} (hit : IterE Try.prog (.func yf [] []) (ylL (allT h)) H K) :
  Tri Try.prog (infA h im) [.func yf [] []] H fun r H' => (∃ v, r = .ret v) ∧ K H' := by
 refine Tri.drop ?_
 refine tri_v0 (mset []) Try.func125 (by kernel_rfl) rfl (by simp only [List.length_append, List.length_cons, List.length_nil, Try.ntmps125]; decide) ?_
 simp only [vsAll, loadA, loadRow, partA, partOk, boxA, boxZ, cellA, cellsA, okParts, okAll, stAll, opsA, partsA, partsOk, opA, allocA, newCells, okCells, storeObj, dstOk, argFr, Nat.reduceLT, Nat.reduceEqDiff, ↓reduceIte, eq_self, wtAll, Try.ntmps125, azT226]
 intro i4 hh_i4; (try simp only [Hp.set_none, ite_none] at hh_i4)
 rw [Hp.set_set]
 have hc := lon_tri k (im := im) (io := i4) (K := K) h.sm.length [] H (Hp.set (fun _ => none) i4 (.box 1 1 fun _ => [onL h im i4 yf])) [] (by simp) (fun i => by simp) ((apart_emp H).setE _ hh_i4) (Hp.set_same _ _ _) (by rw [List.append_nil]; exact hit)
 rw [mrg_setE, mrg_emp] at hc
 refine callK (hc.args rfl fun q hq => ?_) ?_
 ·match q, hq with
  | 0, _ => exact agg6 rfl rfl rfl rfl rfl rfl
  | 1, _ => exact .refl _
 rintro r H' ⟨rfl, H1, a1, rfl, a3⟩
 simp only [vsAll, resA, retA.eq_2, eq_self, Try.results125]
 exact ⟨_, mrg_sub _ _ a1, ⟨_, rfl⟩, a3⟩
theorem linf_tri {h : Hl} (k : OkH h) (im : Nat) (H : Hp) (ho : H im = some (.memo (wetM h))) : PTri Try.prog (fnA 109) [hP h im, u64 (2 ^ h.so.length - 1 : Nat)] H (infA h im) := by
 refine Tri.drop ?_
 refine tri_wm Try.func109 (by kernel_rfl) rfl (by simp only [List.length_append, List.length_cons, List.length_nil, Try.ntmps109]; decide) ?_
 refine wps_cutG2 (m := mset []) (σ := Unit) (fun _ => True) (fun _ => [(2, hbA h im), (5, .rptr 1 1 (fun _ => [cndAV h]) 0 0)]) (fun _ => H) (fun _ => []) ?_ fun _ _ => ?_
 ·simp only [vsAll, loadA, loadRow, partA, partOk, boxA, boxZ, cellA, okAll, stAll, opsA, opA, dstOk, nilSliceOp, argFr, Nat.reduceLT, Nat.reduceEqDiff, ↓reduceIte, eq_self, wtAll, Try.ntmps109]
  refine callK_pure (lcond_tri h im _ k ho) ?_
  simp only [vsAll, cellA, cellsA, opA, allocA, newCells, okCells, storeObj, dstOk, Nat.reduceLT, Nat.reduceEqDiff, ↓reduceIte, eq_self, wtAll]
  intro i5 hh_i5; (try simp only [Hp.set_none, ite_none] at hh_i5)
  refine cutG_ent (Ent.of [(2, hbA h im), (5, .ref i5 0 1 0 0)] (by simp only [vsAll, Nat.reduceEqDiff, ↓reduceIte, eq_self]) (H' := H.set i5 (.box 1 1 fun _ => [cndAV h])) (by (repeat (first | exact HSub_rfl | refine HSub_put_eq (by simp only [vsAll, ↓reduceIte, eq_self]) ?_ | refine HSub_drop2 (by simp only [eq_self, hh_i5]) ?_ | refine HSub_keep_eq (by simp only [vsAll, ↓reduceIte, eq_self, reduceCtorEq, Nat.reduceEqDiff, hh_i5]) ?_))) ?_)
  refine cutG_ent (Ent.freezeB (id := i5) (st := 1) (n := 1) (f := fun _ => [cndAV h]) (s' := Fr.of [(2, hbA h im), (5, .rptr 1 1 (fun _ => [cndAV h]) 0 0)]) (Hp.set_same _ _ _) (FzB.frz (.same (.hit (FzB.refl _)))) ?_)
  rw [Hp.del_set, Hp.del_none _ _ hh_i5]
  exact cutG_of () trivial (by simp only [vsAll, Nat.reduceEqDiff, ↓reduceIte, eq_self]) rfl HSub_rfl
 ·refine wps_vs (m := mset []) ?_
  simp only [vsAll, okAll, stAll, opsA, opA, dstOk, nilSliceOp, resA, retA.eq_1, Nat.reduceLT, Nat.reduceEqDiff, ↓reduceIte, eq_self, Try.ntmps109, Try.results109]
  exact dropR_pure rfl HSub_rfl
theorem infl_len {h : Hl} (k : OkH h) : ∀ (n : Nat) (b : List Int), b.length + n = h.sm.length → (infl h n b).length ≤ 5 ^ n := by
 intro n
 induction n with
 | zero => intro b _; exact Nat.le_refl _
 | succ n ih =>
   intro b hb
   have hM := k.M (i := b.length) (by omega)
   have key : ∀ L : List Nat, (L.flatMap fun x : Nat => if okP h (b ++ [(x : Int)]) = true then infl h n (b ++ [(x : Int)]) else []).length ≤ L.length * 5 ^ n := by
    intro L
    induction L with
    | nil => simp
    | cons x L ihL =>
      rw [List.flatMap_cons, List.length_append, List.length_cons, Nat.add_mul, Nat.one_mul, Nat.add_comm]
      refine Nat.add_le_add ihL ?_
      split
      ·exact ih _ (by simp; omega)
      ·exact Nat.zero_le _
   refine Nat.le_trans (key _) ?_
   rw [List.length_range, Nat.pow_succ, Nat.mul_comm]
   exact Nat.mul_le_mul_left _ (by omega)
theorem allT_len {h : Hl} (k : OkH h) : (allT h).length ≤ 15625 := by
 have := infl_len k h.N [] (by simp [Hl.N])
 have p : 5 ^ h.N ≤ 5 ^ 6 := Nat.pow_le_pow_right (by decide) k.nS
 unfold allT
 omega
def inC (l : List Int) : List AV := [i64 (l.getD 0 0), i64 (l.getD 1 0), i64 (l.getD 2 0), i64 (l.getD 3 0), i64 (l.getD 4 0), i64 (l.getD 5 0)]
theorem inC_arrL (l : List Int) : arrL (ifF l) 6 = inC l := rfl
def trF (h : Hl) : Nat → List AV := fun i => inC ((allT h).getD i [])
abbrev trA (h : Hl) : AV := .rsl (allT h).length 6 (trF h)
theorem lapp_tri {h : Hl} (k : OkH h) (im : Nat) (H : Hp) : PTri Try.prog (fnA 123) [.lit (.slice none 0 0), infA h im] H (trA h) := by
 refine Tri.thawX (R1 := fun r H' => ∃ id, H id = none ∧ r = .ret (.sl id 6 (allT h).length) ∧ H' = H.set id (.row 6 (allT h).length (trF h))) ?_ ?_
 ·refine Tri.drop ?_
  refine tri_m (m := mset [2]) Try.func123 (by kernel_rfl) rfl (by simp only [List.length_append, List.length_cons, List.length_nil, Try.ntmps123]; decide) ?_
  simp only [vsAll, cellA, opA, boxMutA, dstOk, nilSliceOp, argFr, Nat.reduceLT, Nat.reduceEqDiff, Nat.reduceBEq, ↓reduceIte, eq_self, Try.ntmps123]
  intro i2 hh_i2; (try simp only [Hp.set_none, ite_none] at hh_i2)
  refine vs_entF (Ent.nilBox 6 (trF h) (fun id _ => [.sl id 6 0]) (Hp.set_same _ _ _) (fun _ _ _ => rfl) (fun id q d hq hd => ?_) fun ir hir => ?_)
  ·match d, hd with
   | 0, _ => exact .hit
  have r1 : ¬ ir = i2 := fun e => by rw [e, Hp.set_same] at hir; cases hir
  rw [Hp.set_ne _ _ r1] at hir
  have r1' : ¬ i2 = ir := fun e => r1 e.symm
  skip
  refine vs_rangeE (σ := Unit) (caps := [hbA h im, .rptr 1 1 (fun _ => [cndAV h]) 0 0]) (ylL (allT h)) (fun i _ => i ≤ (allT h).length) (fun i _ => ((H.set ir (.row 6 i (trF h))).set i2 (.box 1 1 fun _ => [.sl ir 6 i]))) () Try.func125 (by kernel_rfl) rfl (by simp only [vsAll, opA, ↓reduceIte, eq_self]) (by simp only [vsAll, opA, ↓reduceIte, eq_self]) (by decide) (fun v hv => by obtain ⟨q, _, rfl⟩ := List.mem_map.1 hv; rfl)
   (fun yf H K hi => inf1_tri k hi) (Nat.zero_le _) ?_ ?_ ?_ ?_
  ·rw [Hp.set_comm H _ _ r1', Hp.set_set, Hp.set_comm H _ _ r1]
   exact HSub_rfl
  ·intro i _ _ q
   simp only [Hp.set]
   by_cases e1 : q = i2
   ·rw [if_pos e1, if_pos e1]; simp
   ·by_cases e2 : q = ir
    ·rw [if_neg e1, if_neg e1, if_pos e2, if_pos e2]; simp
    ·rw [if_neg e1, if_neg e1, if_neg e2, if_neg e2]
  ·rintro E i v ⟨⟩ hv hi ap lid did l' lo h1 h2 h3 e1 e2
   have q1 : E i2 = none := ap.E (by rw [Hp.set_same]; exact Option.some_ne_none _)
   have q2 : E ir = none := ap.E (by rw [Hp.set_ne _ _ r1, Hp.set_same]; exact Option.some_ne_none _)
   have b1 : mrg H E ir = none := by rw [mrg_none q2]; exact hir
   have b2 : mrg H E i2 = none := by rw [mrg_none q1]; exact hh_i2
   simp only [Hp.set_none] at h1 h2
   obtain ⟨⟨f1, f1'⟩, ⟨f2, f2'⟩, f3⟩ := h1
   obtain ⟨⟨g1, g1'⟩, ⟨g2, g2'⟩, g3⟩ := h2
   have f3' : mrg H E lid = none := by rw [mrg_none e1]; exact f3
   have g3' : mrg H E did = none := by rw [mrg_none e2]; exact g3
   have eM : ∀ i, mrg ((H.set ir (.row 6 i (trF h))).set i2 (.box 1 1 fun _ => [.sl ir 6 i])) E = ((mrg H E).set ir (.row 6 i (trF h))).set i2 (.box 1 1 fun _ => [.sl ir 6 i]) := fun i => by rw [mrg_setA q1, mrg_setA q2]
   simp only [eM]
   have h4 : ¬ did = lid := fun e => h3 e.symm
   generalize mrg H E = M at *
   obtain ⟨q, hq, rfl⟩ : ∃ q, (allT h)[i]? = some q ∧ v = [ifAV q] := by
    unfold ylL at hv
    rw [List.getElem?_map] at hv
    cases hz : (allT h)[i]? with
    | none => rw [hz] at hv; cases hv
    | some q => rw [hz] at hv; exact ⟨q, rfl, (Option.some.inj hv).symm⟩
   have hle := allT_len k
   have hil := (List.getElem?_eq_some_iff.1 hq).1
   have hgi : (allT h).getD i [] = q := by rw [List.getD_eq_getElem?_getD, hq]; rfl
   skip
   simp only [vsAll, loadA, loadRow, partA, partOk, cellA, cellsA, okParts, buildSliceA, partIdx, elemsA, lensA, partsA, partsOk, opA, allocA, newCells, okCells, storeObj, appendA, dstOk, quietOk, Nat.reduceMul, Nat.reduceLT, Nat.reduceLeDiff, Nat.reduceEqDiff, Nat.reduceBEq, ↓reduceIte, eq_self, wtAll, f1, f1', g1', AsgE_normal, RndE_normal]
   intro i5 hh_i5; (try simp only [ite_none] at hh_i5)
   simp only [vsAll, Nat.reduceLT, ↓reduceIte, eq_self, r1, r1', f2, f2', g2', hh_i5, inC_arrL]
   refine ⟨fun _ _ => ⟨rfl, trivial⟩, rfl, fun j hj => ?_, by ((try clear hh_i2 r1 r1' hir h3 h4 f1 f2 f1' f2' g1 g2 g1' g2' b1 b2 f3' g3' hh_i5); omega), by ((try clear hh_i2 r1 r1' hir h3 h4 f1 f2 f1' f2' g1 g2 g1' g2' b1 b2 f3' g3' hh_i5); omega), ⟨_, _, rfl⟩, _, ⟨(), by ((try clear hh_i2 r1 r1' hir h3 h4 f1 f2 f1' f2' g1 g2 g1' g2' b1 b2 f3' g3' hh_i5); omega), rfl⟩, ?_⟩
   ·have : j = 0 := by ((try clear hh_i2 r1 r1' hir h3 h4 f1 f2 f1' f2' g1 g2 g1' g2' b1 b2 f3' g3' hh_i5); omega)
    subst this
    exact ⟨rfl, rfl, rfl, rfl, rfl, rfl, trivial⟩
   ·have eap : ∀ q', q' < i + 1 → appF i 1 (trF h) (fun i => [inC q].getD i []) q' = trF h q' := fun q' hq' => by
     rw [appF_at (by ((try clear hh_i2 r1 r1' hir h3 h4 f1 f2 f1' f2' g1 g2 g1' g2' b1 b2 f3' g3' hh_i5); omega))]
     by_cases e : q' < i
     ·rw [if_pos e]
     ·have : q' = i := by ((try clear hh_i2 r1 r1' hir h3 h4 f1 f2 f1' f2' g1 g2 g1' g2' b1 b2 f3' g3' hh_i5); omega)
      subst this
      rw [if_neg (by ((try clear hh_i2 r1 r1' hir h3 h4 f1 f2 f1' f2' g1 g2 g1' g2' b1 b2 f3' g3' hh_i5); omega)), Nat.sub_self]
      show inC q = inC _
      rw [hgi]
    refine Go.V.HSub.trans (Go.V.HSub.set (Go.V.HSub.set (.refl _) (row_ext fun q' hq' => eap q' hq')) (.refl _)) ?_
    (repeat (first | exact HSub_rfl | refine HSub_put_eq (by simp only [vsAll, ↓reduceIte, eq_self, r1, h4, f1, f2, g1, g2, hh_i5]) ?_ | refine HSub_drop2 (by simp only [eq_self, b1, b2, f3', g3', hh_i5]) ?_ | refine HSub_keep_eq (by simp only [vsAll, ↓reduceIte, eq_self, reduceCtorEq, Nat.reduceEqDiff, hh_i2, r1, r1', hir, h3, h4, f1, f2, f1', f2', g1, g2, g1', g2', b1, b2, f3', g3', hh_i5]) ?_))
  ·rintro ⟨⟩ hi lid did lo h1 h2 h3
   simp only [Hp.set_none] at h1 h2
   obtain ⟨⟨f1, f1'⟩, ⟨f2, f2'⟩, f3⟩ := h1
   obtain ⟨⟨g1, g1'⟩, ⟨g2, g2'⟩, g3⟩ := h2
   have eL : (ylL (allT h)).length = (allT h).length := by simp [ylL]
   simp only [eL]
   have h4 : ¬ did = lid := fun e => h3 e.symm
   skip
   simp only [vsAll, loadA, loadRow, partA, partOk, opA, dstOk, nilSliceOp, resA, retA.eq_1, Nat.reduceLT, Nat.reduceEqDiff, Nat.reduceBEq, ↓reduceIte, eq_self, wtAll, Try.results123, h4, f1', g1']
   exact ⟨_, by (repeat (first | exact HSub_rfl | refine HSub_put_eq (by simp only [vsAll, ↓reduceIte, eq_self, r1, f2', g2']) ?_ | refine HSub_drop2 (by simp only [eq_self, hh_i2, hir, f3, g3]) ?_ | refine HSub_keep_eq (by simp only [vsAll, ↓reduceIte, eq_self, reduceCtorEq, Nat.reduceEqDiff, hh_i2, r1, r1', hir, h3, h4, f1, f2, f1', f2', g1, g2, g1', g2', f3, g3]) ?_)), ir, hir, rfl, rfl⟩
 ·rintro r H' ⟨id, hid, rfl, rfl⟩
  exact .inr ⟨_, trA h, id, 6, _, trF h, rfl, .inr ⟨Hp.set_same _ _ _, .leaf ⟨rfl, trF h, fun _ _ => rfl, rfl⟩⟩, rfl, set_del hid⟩
theorem lcol_tri {h : Hl} (k : OkH h) (im : Nat) (H : Hp) : PTri Try.prog (fnA 108) [infA h im] H (trA h) := by
 refine tri_v0 (mset []) Try.func108 (by kernel_rfl) rfl (by simp only [List.length_append, List.length_cons, List.length_nil, Try.ntmps108]; decide) ?_
 simp only [vsAll, okAll, stAll, opsA, opA, dstOk, nilSliceOp, argFr, Nat.reduceLT, ↓reduceIte, reduceCtorEq, eq_self, Try.ntmps108]
 refine callK_pure (lapp_tri k im _) ?_
 simp only [vsAll, opA, dstOk, nilSliceOp, resA, retA.eq_1, Nat.reduceLT, ↓reduceIte, eq_self, Try.results108]
end Go.Proofs.Ytclkjifgipcamaa
end
section
set_option linter.unusedVariables false
set_option linter.unusedSimpArgs false
set_option maxHeartbeats 4000000
set_option maxRecDepth 100000
namespace Go.Proofs.Ytclkjifgipcamaa
open Go.V
theorem ltru_tri {h : Hl} (k : OkH h) (im : Nat) (H : Hp) (ho : H im = some (.memo (wetM h))) (hT : 0 < (allT h).length) : PTri Try.prog (fnA 67) [hP h im] H (trA h) := by
 refine tri_v0 (mset []) Try.func67 (by kernel_rfl) rfl (by simp only [List.length_append, List.length_cons, List.length_nil, Try.ntmps67]; decide) ?_
 simp only [vsAll, okAll, stAll, opsA, opA, dstOk, nilSliceOp, argFr, Nat.reduceLT, ↓reduceIte, reduceCtorEq, eq_self, Try.ntmps67]
 refine callK_pure (levery_tri h im _ k) ?_
 simp only [vsAll, okAll, stAll, opsA, opA, dstOk, Nat.reduceLT, Nat.reduceEqDiff, ↓reduceIte, eq_self]
 refine callK_pure (linf_tri k im _ ho) ?_
 simp only [vsAll, okAll, stAll, opsA, opA, dstOk, Nat.reduceLT, ↓reduceIte, eq_self]
 refine callK_pure (lcol_tri k im _) ?_
 simp only [vsAll, binA, binLitA, intA, lenA, okAll, stAll, opsA, opA, dstOk, nilSliceOp, Nat.reduceLT, ↓reduceIte, eq_self, wtAll]
 refine lwant_call (fun _ => ?_) (fun hb => ?_)
 ·simp only [vsAll, opA, dstOk, nilSliceOp, resA, retA.eq_1, Nat.reduceLT, Nat.reduceEqDiff, ↓reduceIte, eq_self, Try.results67]
  done
 ·exact absurd hb (by rw [decide_eq_true (by omega)]; decide)
abbrev qAV (l : List Int) : AV := .arr 6 1 fun r => List.take 1 (List.drop (r * 1) (inC l))
theorem qAV_le (l : List Int) : AV.Le (qAV l) (ifAV l) := .arr fun i hi => by
 match i, hi with
 | 0, _ => rfl
 | 1, _ => rfl
 | 2, _ => rfl
 | 3, _ => rfl
 | 4, _ => rfl
 | 5, _ => rfl
theorem getD_mem {L : List (List Int)} {i : Nat} (h : i < L.length) : L.getD i [] ∈ L := by rw [List.getD_eq_getElem?_getD, List.getElem?_eq_getElem h]; exact List.getElem_mem h
theorem ptri_q {fv : AV} {l : List Int} {H : Hp} {v : AV} (h : PTri Try.prog fv [ifAV l] H v) : PTri Try.prog fv [qAV l] H v := Tri.args h rfl fun q hq => by
 match q, hq with
 | 0, _ => exact qAV_le l
theorem lsums_tri {L : List (List Int)} {F : List Int → Int} {fv : AV} {H : Hp} (hL : 0 < L.length) (hn : L.length ≤ 15625) (hok : fv.ok) (hst : fv.st = fv) (hf : ∀ l ∈ L, ∀ H', PTri Try.prog fv [ifAV l] H' (i64 (F l))) :
  PTri Try.prog (fnA 81) [.rsl L.length 6 (fun i => inC (L.getD i [])), fv] H (.agg [i64 (spnV F L).1, i64 (spnV F L).2]) := by
 refine Tri.drop ?_
 refine tri_v0 (mset [4, 5, 7]) Try.func81 (by kernel_rfl) rfl (by simp only [List.length_append, List.length_cons, List.length_nil, Try.ntmps81]; decide) ?_
 simp only [vsAll, allocA, dstOk, Nat.reduceAdd, Nat.reduceLT, eq_self, wtAll, Try.ntmps81]
 intro i4 hh_i4; (try simp only [Hp.set_none, ite_none] at hh_i4)
 have h0 := hf _ (getD_mem hL)
 refine vs_draw2 [0, 0, 0, 0, 0, 0, 0, 0, 0, 0, 0, 1, 3] [([0, 1, 2, 3, 4, 5, 6, 7, 8, 9, 10], [3, 4, 8, 9], 11), ([], [], 12)] [] (by decide +kernel) ?_
 simp only [vsAll, loadA, loadRow, indexAddrA, opA, dstOk, argFr, Nat.reduceMul, Nat.reduceLT, Nat.reduceEqDiff, Int.reduceLE, Int.reduceToNat, ↓reduceIte, reduceCtorEq, eq_self, wtAll, hok, hst]
 refine ⟨by ((try clear hh_i4); omega), hL, qcall _ ⟨hok, by simp only [vsAll, okAll, opsA, opA, ↓reduceIte, eq_self], by simp only [vsAll, stAll, opsA, opA, Nat.reduceEqDiff, ↓reduceIte, eq_self, hst]; exact ptri_q (h0 _)⟩ ?_⟩
 simp only [vsAll, loadA, loadRow, indexAddrA, opA, dstOk, argFr, Nat.reduceMul, Nat.reduceLT, Nat.reduceEqDiff, Int.reduceLE, Int.reduceToNat, ↓reduceIte, reduceCtorEq, eq_self, wtAll, hok, hst]
 refine ⟨by ((try clear hh_i4); omega), hL, qcall _ ⟨hok, by simp only [vsAll, okAll, opsA, opA, ↓reduceIte, eq_self], by simp only [vsAll, stAll, opsA, opA, Nat.reduceEqDiff, ↓reduceIte, eq_self, hst]; exact ptri_q (h0 _)⟩ ?_⟩
 simp only [vsAll, loadA, loadRow, lenA, cellA, cellsA, fillA, okParts, partsA, partsOk, opA, allocA, newCells, okCells, storeObj, dstOk, argFr, Nat.reduceAdd, Nat.reduceMul, Nat.reduceLT, Nat.reduceLeDiff, Nat.reduceEqDiff, ↓reduceIte, reduceCtorEq, eq_self, wtAll]
 intro i5 hh_i5; (try simp only [ite_none] at hh_i5)
 refine ⟨⟨hL, rcall _ ⟨hok, by simp only [vsAll, okAll, opsA, opA, Nat.reduceEqDiff, ↓reduceIte, eq_self], by simp only [vsAll, stAll, opsA, opA, Nat.reduceEqDiff, ↓reduceIte, eq_self, hst]; exact ptri_q (h0 _)⟩ (by simp only [vsAll, Nat.reduceEqDiff, ↓reduceIte, eq_self]), hL, rcall _ ⟨hok, by simp only [vsAll, okAll, opsA, opA, Nat.reduceEqDiff, ↓reduceIte, eq_self], by simp only [vsAll, stAll, opsA, opA, Nat.reduceEqDiff, ↓reduceIte, eq_self, hst]; exact ptri_q (h0 _)⟩ (by simp only [vsAll, Nat.reduceEqDiff, ↓reduceIte, eq_self])⟩, ?_⟩
 refine vs_loop (σ := Nat) (fun i => i ≤ L.length) (fun i => [(0, .rsl L.length 6 (fun i => inC (L.getD i []))), (1, fv), (4, .ref i4 0 2 0 0), (5, .ref i5 0 2 0 0), (19, .rsl L.length 6 (fun i => inC (L.getD i []))), (20, i64 L.length), (21, i64 i)])
  (fun i => (H.set i4 (.box 2 1 fun _ => [i64 0, i64 0])).set i5 (.box 2 1 fun _ => [i64 (spnL F L i).1, i64 (spnL F L i).2])) (fun i => L.length - i) 0 (Nat.zero_le _) ?_ ?_ fun i hi => ?_
 ·simp only [vsAll, argFr, Nat.reduceEqDiff, ↓reduceIte, reduceCtorEq, eq_self, Int.natCast_zero]
 ·rw [Hp.set_set]; exact HSub_rfl
 ·simp only [vsAll, binA, binLitA, intA, opA, dstOk, Nat.reduceLT, Nat.reduceEqDiff, ↓reduceIte, reduceCtorEq, eq_self]
  refine condD (fun hd => ?_) (fun hd => ?_)
  ·have hil : i < L.length := by ((try clear hh_i4 hh_i5); omega)
   have hi0 := hf _ (getD_mem hil)
   simp only [vsAll, loadA, loadRow, indexAddrA, opA, allocA, storeObj, dstOk, Nat.reduceMul, Nat.reduceLT, Nat.reduceEqDiff, ↓reduceIte, reduceCtorEq, eq_self, wtAll]
   refine ⟨⟨by ((try clear hh_i4 hh_i5); omega), by ((try clear hh_i4 hh_i5); omega)⟩, hil, ?_⟩
   intro i7 hh_i7; (try simp only [ite_none] at hh_i7)
   refine ⟨fun q hq => ?_, ?_⟩
   ·match q, hq with
    | 0, _ => exact ⟨rfl, trivial⟩
    | 1, _ => exact ⟨rfl, trivial⟩
    | 2, _ => exact ⟨rfl, trivial⟩
    | 3, _ => exact ⟨rfl, trivial⟩
    | 4, _ => exact ⟨rfl, trivial⟩
    | 5, _ => exact ⟨rfl, trivial⟩
   refine vs_draw2 [0, 0, 0, 0, 0, 0, 0, 0, 0, 0, 0, 0, 0, 1] [([0, 1, 2, 3, 4, 5, 6, 7, 8, 9, 10, 11, 12], [], 13)] [] (by decide +kernel) ?_
   simp only [vsAll, loadA, loadRow, partA, partOk, fieldAddrA, opA, dstOk, Nat.reduceLT, Nat.reduceEqDiff, ↓reduceIte, reduceCtorEq, eq_self, wtAll, hh_i7, hok, hst]
   refine qcall _ ⟨hok, by simp only [vsAll, okAll, opsA, opA, ↓reduceIte, eq_self], by simp only [vsAll, stAll, opsA, opA, Nat.reduceEqDiff, ↓reduceIte, eq_self, hst]; exact ptri_q (hi0 _)⟩ ?_
   simp only [vsAll, loadA, loadRow, partA, partOk, fieldAddrA, mmA, okAll, stAll, opsA, opA, dstOk, Nat.reduceLT, Nat.reduceEqDiff, ↓reduceIte, reduceCtorEq, eq_self, wtAll, hh_i7, hok, hst]
   refine qcall _ ⟨hok, by simp only [vsAll, okAll, opsA, opA, ↓reduceIte, eq_self], by simp only [vsAll, stAll, opsA, opA, Nat.reduceEqDiff, ↓reduceIte, eq_self, hst]; exact ptri_q (hi0 _)⟩ ?_
   simp only [vsAll, binA, binLitA, intA, cellA, cellsA, fillA, okParts, mmA, okAll, stAll, opsA, partsA, partsOk, opA, newCells, okCells, storeObj, dstOk, Nat.reduceAdd, Nat.reduceLT, Nat.reduceLeDiff, Nat.reduceEqDiff, ↓reduceIte, reduceCtorEq, eq_self, wtAll, hh_i7]
   refine ⟨by simp only [InR_i64]; ((try clear hh_i4 hh_i5 hh_i7); omega), loop_next (i + 1) hil (by ((try clear hh_i4 hh_i5 hh_i7); omega)) ?_ ?_⟩
   ·simp only [vsAll, Nat.reduceEqDiff, ↓reduceIte, reduceCtorEq, eq_self, Int.natCast_add, Int.natCast_one]
   ·have es : spnL F L (i + 1) = (min (spnL F L i).1 (F (L.getD i [])), max (spnL F L i).2 (F (L.getD i []))) := rfl
    rw [es]
    (repeat (first | exact HSub_rfl | refine HSub_put_eq (by simp only [vsAll, ↓reduceIte, eq_self, hh_i5, hh_i7]) ?_ | refine HSub_drop2 (by simp only [eq_self, hh_i4, hh_i5, hh_i7]) ?_ | refine HSub_keep_eq (by simp only [vsAll, ↓reduceIte, eq_self, reduceCtorEq, Nat.reduceEqDiff, hh_i4, hh_i5, hh_i7]) ?_))
  ·have ei : i = L.length := by ((try clear hh_i4 hh_i5); omega)
   subst ei
   simp only [vsAll, loadA, loadRow, partA, partOk, cellA, opA, newCells, okCells, storeObj, dstOk, resA, retA.eq_1, Nat.reduceAdd, Nat.reduceLT, Nat.reduceEqDiff, ↓reduceIte, reduceCtorEq, eq_self, wtAll, Try.results81, hh_i5]
   exact dropR_pure rfl (by (repeat (first | exact HSub_rfl | refine HSub_put_eq (by simp only [vsAll, ↓reduceIte, eq_self, reduceCtorEq, Nat.reduceEqDiff, hh_i4, hh_i5]) ?_ | refine HSub_drop2 (by simp only [eq_self, hh_i4, hh_i5]) ?_ | refine HSub_keep_eq (by simp only [vsAll, ↓reduceIte, eq_self, reduceCtorEq, Nat.reduceEqDiff, hh_i4, hh_i5]) ?_)))
theorem azT168 : azT Try.prog 168 = some (1, 1, [.nilFunc]) := by kernel_rfl
abbrev totA (S : Nat) : AV := .func (.func 82) [] [.rptr 1 1 (fun _ => [.func (.func 80) [] []]) 0 0, .rptr 1 1 (fun _ => [u64 (S : Nat)]) 0 0]
theorem tot1_tri (S : Nat) (l : List Int) (H : Hp) (hl : l.length ≤ 6) (hb : ∀ i, 0 ≤ l.getD i 0 ∧ l.getD i 0 ≤ 4) (hS : S < 2 ^ 60) : PTri Try.prog (totA S) [ifAV l] H (i64 (lsN S l 6)) := by
 refine tri_v0 (fun _ => false) Try.func82 (by kernel_rfl) rfl (by simp only [List.length_append, List.length_cons, List.length_nil, Try.ntmps82]; decide) ?_
 simp only [vsAll, loadA, loadRow, partA, partOk, boxA, boxZ, okAll, stAll, opsA, opA, dstOk, nilSliceOp, argFr, Nat.reduceLT, Nat.reduceEqDiff, ↓reduceIte, eq_self, wtAll, Try.ntmps82]
 refine callK_pure (lsum_tri S l _ hb hS) ?_
 simp only [vsAll, opA, dstOk, nilSliceOp, resA, retA.eq_1, Nat.reduceLT, ↓reduceIte, eq_self, Try.results82]
theorem ltotal_tri {h : Hl} (k : OkH h) (S : Nat) (im : Nat) (H : Hp) (ho : H im = some (.memo (wetM h))) (hT : 0 < (allT h).length) (hN : 0 < h.N) (hS : S < 2 ^ 60) :
  PTri Try.prog (fnA 36) [hP h im, u64 (S : Nat)] H (.agg [i64 (spnV (fun l => lsN S l 6) (allT h)).1, i64 (spnV (fun l => lsN S l 6) (allT h)).2]) := by
 refine Tri.drop ?_
 refine tri_wm Try.func36 (by kernel_rfl) rfl (by simp only [List.length_append, List.length_cons, List.length_nil, Try.ntmps36]; decide) ?_
 refine wps_cutG2 (m := mset [4]) (σ := Nat) (fun i4 => H i4 = none) (fun i4 => [(0, hP h im), (3, .rptr 1 1 (fun _ => [u64 (S : Nat)]) 0 0), (4, .ref i4 0 2 0 0), (5, .rptr 1 1 (fun _ => [.func (.func 80) [] []]) 0 0)])
  (fun i4 => H.set i4 (.box 2 1 fun _ => [i64 0, i64 0])) (fun _ => []) ?_ fun i4 h4 => ?_
 ·simp only [vsAll, boxA, boxZ, cellA, cellsA, opA, allocA, newCells, okCells, storeObj, dstOk, argFr, Nat.reduceAdd, Nat.reduceLT, Nat.reduceBEq, ↓reduceIte, eq_self, wtAll, Try.ntmps36, azT168]
  intro i4 hh_i4; (try simp only [Hp.set_none, ite_none] at hh_i4); intro i5 hh_i5; (try simp only [ite_none] at hh_i5)
  have q1 : ¬ i5 = i4 := hh_i5.1.1
  have q2 : H i5 = none := hh_i5.2
  refine cutG_ent (Ent.of [(0, hP h im), (3, .rptr 1 1 (fun _ => [u64 (S : Nat)]) 0 0), (4, .ref i4 0 2 0 0), (5, .ref i5 0 1 0 0)] (by simp only [vsAll, argFr, Nat.reduceEqDiff, ↓reduceIte, reduceCtorEq, eq_self]) (H' := (H.set i4 (.box 2 1 fun _ => [i64 0, i64 0])).set i5 (.box 1 1 fun _ => [.func (.func 80) [] []])) (by (repeat (first | exact HSub_rfl | refine HSub_put_eq (by simp only [vsAll, ↓reduceIte, eq_self, hh_i5]) ?_ | refine HSub_drop2 (by simp only [eq_self, hh_i4, hh_i5]) ?_ | refine HSub_keep_eq (by simp only [vsAll, ↓reduceIte, eq_self, reduceCtorEq, Nat.reduceEqDiff, hh_i4, hh_i5]) ?_))) ?_)
  refine cutG_ent (Ent.freezeB (id := i5) (st := 1) (n := 1) (f := fun _ => [.func (.func 80) [] []]) (s' := Fr.of [(0, hP h im), (3, .rptr 1 1 (fun _ => [u64 (S : Nat)]) 0 0), (4, .ref i4 0 2 0 0), (5, .rptr 1 1 (fun _ => [.func (.func 80) [] []]) 0 0)]) (Hp.set_same _ _ _) (FzB.frz (.same (.same (.same (.hit (FzB.refl _)))))) ?_)
  rw [Hp.del_set, Hp.del_none _ _ (by rw [Hp.set_ne _ _ q1]; exact q2)]
  exact cutG_of i4 hh_i4 (by simp only [vsAll, Nat.reduceEqDiff, ↓reduceIte, reduceCtorEq, eq_self]) rfl HSub_rfl
 ·refine wps_vs (m := mset [4]) ?_
  have n1 : ¬ im = i4 := fun e => by rw [e, h4] at ho; cases ho
  have hS' : ∀ l ∈ allT h, l.length ≤ 6 ∧ ∀ i, 0 ≤ l.getD i 0 ∧ l.getD i 0 ≤ 4 := fun l hl => by
   have t := (mem_all hN).1 hl
   have tl := t.len
   have nS := k.nS
   have hNe : h.N = h.sm.length := rfl
   refine ⟨by omega, fun i => ?_⟩
   by_cases e : i < h.N
   ·have := t.at_ i e
    have := k.M (i := i) e
    omega
   ·rw [List.getD_eq_getElem?_getD, List.getElem?_eq_none (by omega)]; decide
  skip
  simp only [vsAll, okAll, stAll, opsA, opA, dstOk, Nat.reduceLT, ↓reduceIte, eq_self, Try.ntmps36]
  refine callK_pure (ltru_tri k im _ (by rw [Hp.set_ne _ _ n1]; exact ho) hT) ?_
  simp only [vsAll, okAll, stAll, opsA, opA, dstOk, Nat.reduceLT, Nat.reduceEqDiff, ↓reduceIte, reduceCtorEq, eq_self]
  refine callK_pure (lsums_tri (L := allT h) (F := fun l => lsN S l 6) (fv := totA S) hT (allT_len k) trivial rfl (fun l hl H' => tot1_tri S l H' (hS' l hl).1 (hS' l hl).2 hS)) ?_
  simp only [vsAll, loadA, loadRow, partA, partOk, cellA, opA, newCells, okCells, storeObj, dstOk, resA, retA.eq_1, Nat.reduceAdd, Nat.reduceLT, Nat.reduceEqDiff, ↓reduceIte, reduceCtorEq, eq_self, wtAll, Try.results36]
  exact dropR_pure rfl (by (repeat (first | exact HSub_rfl | refine HSub_put_eq (by simp only [vsAll, ↓reduceIte, eq_self, reduceCtorEq, Nat.reduceEqDiff, h4]) ?_ | refine HSub_drop2 (by simp only [eq_self, h4]) ?_ | refine HSub_keep_eq (by simp only [vsAll, ↓reduceIte, eq_self, reduceCtorEq, Nat.reduceEqDiff, h4]) ?_)))
end Go.Proofs.Ytclkjifgipcamaa
end
