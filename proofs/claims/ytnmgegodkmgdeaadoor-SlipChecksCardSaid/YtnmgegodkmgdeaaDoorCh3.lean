/- Helper lemmas of this claim, part 3. -/
import Derived.Test.YtnmgegodkmgdeaaDoorChecked
import Derived.ChangeSame
import Derived.JoinedOf
import Derived.ProofKit
import Derived.Handed
import Derived.Shelf.Spec.TrailingZeros
import Derived.Test.YtnmgegodkmgdeaaDoorCh2
section
namespace Go.Proofs.YtnmgegodkmgdeaaDoor
open Go.V
theorem boolT4 : boolT Tryd.prog 4 = true := by kernel_rfl
theorem ifcT20 : ifcT Tryd.prog 20 = true := by kernel_rfl
theorem ifcT116 : ifcT Tryd.prog 116 = true := by kernel_rfl
theorem ifcT117 : ifcT Tryd.prog 117 = true := by kernel_rfl
theorem szT1 : szT Tryd.prog 1 = some (1, false) := by kernel_rfl
theorem zT1 : zT Tryd.prog 1 = false := by kernel_rfl
theorem arT1 : arT Tryd.prog 1 = none := by kernel_rfl
theorem conc1 : Program.concrete Tryd.prog 1 = true := by kernel_rfl
theorem szT2 : szT Tryd.prog 2 = some (1, false) := by kernel_rfl
theorem zT2 : zT Tryd.prog 2 = false := by kernel_rfl
theorem arT2 : arT Tryd.prog 2 = none := by kernel_rfl
theorem conc2 : Program.concrete Tryd.prog 2 = true := by kernel_rfl
theorem undS2 : (Program.underlying Tryd.prog 2).isSome = true := by kernel_rfl
theorem intT2 : intT Tryd.prog 2 = some .i64 := by kernel_rfl
theorem elT2 : elT Tryd.prog 2 = none := by kernel_rfl
theorem azT2 : azT Tryd.prog 2 = some (1, 1, [.int .i64 0]) := by kernel_rfl
theorem zeroT2 : zeroT Tryd.prog 2 = some [.int .i64 0] := by kernel_rfl
theorem szT3 : szT Tryd.prog 3 = some (1, false) := by kernel_rfl
theorem zT3 : zT Tryd.prog 3 = false := by kernel_rfl
theorem arT3 : arT Tryd.prog 3 = none := by kernel_rfl
theorem conc3 : Program.concrete Tryd.prog 3 = true := by kernel_rfl
theorem undS3 : (Program.underlying Tryd.prog 3).isSome = true := by kernel_rfl
theorem intT3 : intT Tryd.prog 3 = some .i64 := by kernel_rfl
theorem elT3 : elT Tryd.prog 3 = none := by kernel_rfl
theorem azT3 : azT Tryd.prog 3 = some (1, 1, [.int .i64 0]) := by kernel_rfl
theorem zeroT3 : zeroT Tryd.prog 3 = some [.int .i64 0] := by kernel_rfl
theorem szT4 : szT Tryd.prog 4 = some (1, false) := by kernel_rfl
theorem zT4 : zT Tryd.prog 4 = false := by kernel_rfl
theorem arT4 : arT Tryd.prog 4 = none := by kernel_rfl
theorem conc4 : Program.concrete Tryd.prog 4 = true := by kernel_rfl
theorem undS4 : (Program.underlying Tryd.prog 4).isSome = true := by kernel_rfl
theorem elT4 : elT Tryd.prog 4 = none := by kernel_rfl
theorem azT4 : azT Tryd.prog 4 = some (1, 1, [.bool false]) := by kernel_rfl
theorem zeroT4 : zeroT Tryd.prog 4 = some [.bool false] := by kernel_rfl
theorem szT5 : szT Tryd.prog 5 = some (1, false) := by kernel_rfl
theorem zT5 : zT Tryd.prog 5 = false := by kernel_rfl
theorem arT5 : arT Tryd.prog 5 = none := by kernel_rfl
theorem conc5 : Program.concrete Tryd.prog 5 = true := by kernel_rfl
theorem undS5 : (Program.underlying Tryd.prog 5).isSome = true := by kernel_rfl
theorem intT5 : intT Tryd.prog 5 = some .u8 := by kernel_rfl
theorem elT5 : elT Tryd.prog 5 = none := by kernel_rfl
theorem azT5 : azT Tryd.prog 5 = some (1, 1, [.int .u8 0]) := by kernel_rfl
theorem zeroT5 : zeroT Tryd.prog 5 = some [.int .u8 0] := by kernel_rfl
theorem szT12 : szT Tryd.prog 12 = some (1, false) := by kernel_rfl
theorem zT12 : zT Tryd.prog 12 = false := by kernel_rfl
theorem arT12 : arT Tryd.prog 12 = none := by kernel_rfl
theorem conc12 : Program.concrete Tryd.prog 12 = true := by kernel_rfl
theorem undS12 : (Program.underlying Tryd.prog 12).isSome = true := by kernel_rfl
theorem intT12 : intT Tryd.prog 12 = some .u64 := by kernel_rfl
theorem elT12 : elT Tryd.prog 12 = none := by kernel_rfl
theorem azT12 : azT Tryd.prog 12 = some (1, 1, [.int .u64 0]) := by kernel_rfl
theorem zeroT12 : zeroT Tryd.prog 12 = some [.int .u64 0] := by kernel_rfl
theorem szT13 : szT Tryd.prog 13 = some (2, true) := by kernel_rfl
theorem zT13 : zT Tryd.prog 13 = false := by kernel_rfl
theorem arT13 : arT Tryd.prog 13 = none := by kernel_rfl
theorem conc13 : Program.concrete Tryd.prog 13 = true := by kernel_rfl
theorem undS13 : (Program.underlying Tryd.prog 13).isSome = true := by kernel_rfl
theorem elT13 : elT Tryd.prog 13 = none := by kernel_rfl
theorem azT13 : azT Tryd.prog 13 = some (2, 1, [.string .empty, .int .u64 0]) := by kernel_rfl
theorem zeroT13 : zeroT Tryd.prog 13 = some [.string .empty, .int .u64 0] := by kernel_rfl
theorem bT13 : bT Tryd.prog 13 = true := by kernel_rfl
theorem fldT13_0 : fldT Tryd.prog 13 0 = some (0, 1, false) := by kernel_rfl
theorem fldT13_1 : fldT Tryd.prog 13 1 = some (1, 1, false) := by kernel_rfl
theorem szT20 : szT Tryd.prog 20 = some (1, false) := by kernel_rfl
theorem zT20 : zT Tryd.prog 20 = false := by kernel_rfl
theorem arT20 : arT Tryd.prog 20 = none := by kernel_rfl
theorem szT21 : szT Tryd.prog 21 = some (1, false) := by kernel_rfl
theorem zT21 : zT Tryd.prog 21 = false := by kernel_rfl
theorem arT21 : arT Tryd.prog 21 = none := by kernel_rfl
theorem conc21 : Program.concrete Tryd.prog 21 = true := by kernel_rfl
theorem undS21 : (Program.underlying Tryd.prog 21).isSome = true := by kernel_rfl
theorem intT21 : intT Tryd.prog 21 = some .i32 := by kernel_rfl
theorem elT21 : elT Tryd.prog 21 = none := by kernel_rfl
theorem azT21 : azT Tryd.prog 21 = some (1, 1, [.int .i32 0]) := by kernel_rfl
theorem zeroT21 : zeroT Tryd.prog 21 = some [.int .i32 0] := by kernel_rfl
theorem szT22 : szT Tryd.prog 22 = some (1, false) := by kernel_rfl
theorem zT22 : zT Tryd.prog 22 = false := by kernel_rfl
theorem arT22 : arT Tryd.prog 22 = none := by kernel_rfl
theorem conc22 : Program.concrete Tryd.prog 22 = true := by kernel_rfl
theorem undS22 : (Program.underlying Tryd.prog 22).isSome = true := by kernel_rfl
theorem elT22 : elT Tryd.prog 22 = some (2, true) := by kernel_rfl
theorem elB22 : elB Tryd.prog 22 = some (2, 16) := by kernel_rfl
theorem bsT22 : bsT Tryd.prog 22 = some 2 := by kernel_rfl
theorem mkT22 : mkT Tryd.prog 22 = some (2, 16, [.int .i64 0, .int .i64 0]) := by kernel_rfl
theorem azT22 : azT Tryd.prog 22 = some (1, 1, [.slice none 0 0]) := by kernel_rfl
theorem zeroT22 : zeroT Tryd.prog 22 = some [.slice none 0 0] := by kernel_rfl
theorem szT23 : szT Tryd.prog 23 = some (1, false) := by kernel_rfl
theorem zT23 : zT Tryd.prog 23 = false := by kernel_rfl
theorem arT23 : arT Tryd.prog 23 = none := by kernel_rfl
theorem conc23 : Program.concrete Tryd.prog 23 = true := by kernel_rfl
theorem undS23 : (Program.underlying Tryd.prog 23).isSome = true := by kernel_rfl
theorem elT23 : elT Tryd.prog 23 = some (3, true) := by kernel_rfl
theorem elB23 : elB Tryd.prog 23 = some (3, 24) := by kernel_rfl
theorem bsT23 : bsT Tryd.prog 23 = some 3 := by kernel_rfl
theorem mkT23 : mkT Tryd.prog 23 = some (3, 24, [.int .i64 0, .int .i64 0, .int .i64 0]) := by kernel_rfl
theorem azT23 : azT Tryd.prog 23 = some (1, 1, [.slice none 0 0]) := by kernel_rfl
theorem zeroT23 : zeroT Tryd.prog 23 = some [.slice none 0 0] := by kernel_rfl
theorem szT24 : szT Tryd.prog 24 = some (2, true) := by kernel_rfl
theorem zT24 : zT Tryd.prog 24 = false := by kernel_rfl
theorem arT24 : arT Tryd.prog 24 = none := by kernel_rfl
theorem conc24 : Program.concrete Tryd.prog 24 = true := by kernel_rfl
theorem undS24 : (Program.underlying Tryd.prog 24).isSome = true := by kernel_rfl
theorem elT24 : elT Tryd.prog 24 = none := by kernel_rfl
theorem azT24 : azT Tryd.prog 24 = some (2, 1, [.slice none 0 0, .slice none 0 0]) := by kernel_rfl
theorem zeroT24 : zeroT Tryd.prog 24 = some [.slice none 0 0, .slice none 0 0] := by kernel_rfl
theorem bT24 : bT Tryd.prog 24 = true := by kernel_rfl
theorem fldT24_0 : fldT Tryd.prog 24 0 = some (0, 1, false) := by kernel_rfl
theorem fldT24_1 : fldT Tryd.prog 24 1 = some (1, 1, false) := by kernel_rfl
theorem szT25 : szT Tryd.prog 25 = some (2, true) := by kernel_rfl
theorem zT25 : zT Tryd.prog 25 = false := by kernel_rfl
theorem arT25 : arT Tryd.prog 25 = none := by kernel_rfl
theorem conc25 : Program.concrete Tryd.prog 25 = true := by kernel_rfl
theorem undS25 : (Program.underlying Tryd.prog 25).isSome = true := by kernel_rfl
theorem elT25 : elT Tryd.prog 25 = none := by kernel_rfl
theorem azT25 : azT Tryd.prog 25 = some (2, 1, [.slice none 0 0, .slice none 0 0]) := by kernel_rfl
theorem zeroT25 : zeroT Tryd.prog 25 = some [.slice none 0 0, .slice none 0 0] := by kernel_rfl
theorem bT25 : bT Tryd.prog 25 = true := by kernel_rfl
theorem fldT25_0 : fldT Tryd.prog 25 0 = some (0, 1, false) := by kernel_rfl
theorem fldT25_1 : fldT Tryd.prog 25 1 = some (1, 1, false) := by kernel_rfl
theorem szT26 : szT Tryd.prog 26 = some (1, false) := by kernel_rfl
theorem zT26 : zT Tryd.prog 26 = false := by kernel_rfl
theorem arT26 : arT Tryd.prog 26 = none := by kernel_rfl
theorem conc26 : Program.concrete Tryd.prog 26 = true := by kernel_rfl
theorem undS26 : (Program.underlying Tryd.prog 26).isSome = true := by kernel_rfl
theorem elT26 : elT Tryd.prog 26 = some (1, false) := by kernel_rfl
theorem elB26 : elB Tryd.prog 26 = some (1, 8) := by kernel_rfl
theorem bsT26 : bsT Tryd.prog 26 = some 1 := by kernel_rfl
theorem mkT26 : mkT Tryd.prog 26 = some (1, 8, [.int .i64 0]) := by kernel_rfl
theorem azT26 : azT Tryd.prog 26 = some (1, 1, [.slice none 0 0]) := by kernel_rfl
theorem zeroT26 : zeroT Tryd.prog 26 = some [.slice none 0 0] := by kernel_rfl
theorem szT27 : szT Tryd.prog 27 = some (1, false) := by kernel_rfl
theorem zT27 : zT Tryd.prog 27 = false := by kernel_rfl
theorem arT27 : arT Tryd.prog 27 = none := by kernel_rfl
theorem conc27 : Program.concrete Tryd.prog 27 = true := by kernel_rfl
theorem szT28 : szT Tryd.prog 28 = some (1, false) := by kernel_rfl
theorem zT28 : zT Tryd.prog 28 = false := by kernel_rfl
theorem arT28 : arT Tryd.prog 28 = none := by kernel_rfl
theorem conc28 : Program.concrete Tryd.prog 28 = true := by kernel_rfl
theorem szT29 : szT Tryd.prog 29 = some (1, false) := by kernel_rfl
theorem zT29 : zT Tryd.prog 29 = false := by kernel_rfl
theorem arT29 : arT Tryd.prog 29 = none := by kernel_rfl
theorem conc29 : Program.concrete Tryd.prog 29 = true := by kernel_rfl
theorem undS29 : (Program.underlying Tryd.prog 29).isSome = true := by kernel_rfl
theorem intT29 : intT Tryd.prog 29 = some .i64 := by kernel_rfl
theorem elT29 : elT Tryd.prog 29 = none := by kernel_rfl
theorem azT29 : azT Tryd.prog 29 = some (1, 1, [.int .i64 0]) := by kernel_rfl
theorem zeroT29 : zeroT Tryd.prog 29 = some [.int .i64 0] := by kernel_rfl
theorem szT31 : szT Tryd.prog 31 = some (1, false) := by kernel_rfl
theorem zT31 : zT Tryd.prog 31 = false := by kernel_rfl
theorem arT31 : arT Tryd.prog 31 = none := by kernel_rfl
theorem conc31 : Program.concrete Tryd.prog 31 = true := by kernel_rfl
theorem szT33 : szT Tryd.prog 33 = some (1, false) := by kernel_rfl
theorem zT33 : zT Tryd.prog 33 = false := by kernel_rfl
theorem arT33 : arT Tryd.prog 33 = none := by kernel_rfl
theorem conc33 : Program.concrete Tryd.prog 33 = true := by kernel_rfl
theorem szT34 : szT Tryd.prog 34 = some (1, false) := by kernel_rfl
theorem zT34 : zT Tryd.prog 34 = false := by kernel_rfl
theorem arT34 : arT Tryd.prog 34 = none := by kernel_rfl
theorem conc34 : Program.concrete Tryd.prog 34 = true := by kernel_rfl
theorem szT35 : szT Tryd.prog 35 = some (1, false) := by kernel_rfl
theorem zT35 : zT Tryd.prog 35 = false := by kernel_rfl
theorem arT35 : arT Tryd.prog 35 = none := by kernel_rfl
theorem conc35 : Program.concrete Tryd.prog 35 = true := by kernel_rfl
theorem szT37 : szT Tryd.prog 37 = some (1, false) := by kernel_rfl
theorem zT37 : zT Tryd.prog 37 = false := by kernel_rfl
theorem arT37 : arT Tryd.prog 37 = none := by kernel_rfl
theorem conc37 : Program.concrete Tryd.prog 37 = true := by kernel_rfl
theorem szT38 : szT Tryd.prog 38 = some (1, false) := by kernel_rfl
theorem zT38 : zT Tryd.prog 38 = false := by kernel_rfl
theorem arT38 : arT Tryd.prog 38 = none := by kernel_rfl
theorem conc38 : Program.concrete Tryd.prog 38 = true := by kernel_rfl
theorem szT39 : szT Tryd.prog 39 = some (1, false) := by kernel_rfl
theorem zT39 : zT Tryd.prog 39 = false := by kernel_rfl
theorem arT39 : arT Tryd.prog 39 = none := by kernel_rfl
theorem conc39 : Program.concrete Tryd.prog 39 = true := by kernel_rfl
theorem szT40 : szT Tryd.prog 40 = some (1, false) := by kernel_rfl
theorem zT40 : zT Tryd.prog 40 = false := by kernel_rfl
theorem arT40 : arT Tryd.prog 40 = none := by kernel_rfl
theorem conc40 : Program.concrete Tryd.prog 40 = true := by kernel_rfl
theorem szT41 : szT Tryd.prog 41 = some (1, false) := by kernel_rfl
theorem zT41 : zT Tryd.prog 41 = false := by kernel_rfl
theorem arT41 : arT Tryd.prog 41 = none := by kernel_rfl
theorem conc41 : Program.concrete Tryd.prog 41 = true := by kernel_rfl
theorem undS41 : (Program.underlying Tryd.prog 41).isSome = true := by kernel_rfl
theorem intT41 : intT Tryd.prog 41 = some .u16 := by kernel_rfl
theorem elT41 : elT Tryd.prog 41 = none := by kernel_rfl
theorem azT41 : azT Tryd.prog 41 = some (1, 1, [.int .u16 0]) := by kernel_rfl
theorem zeroT41 : zeroT Tryd.prog 41 = some [.int .u16 0] := by kernel_rfl
theorem szT42 : szT Tryd.prog 42 = some (1, false) := by kernel_rfl
theorem zT42 : zT Tryd.prog 42 = false := by kernel_rfl
theorem arT42 : arT Tryd.prog 42 = none := by kernel_rfl
theorem conc42 : Program.concrete Tryd.prog 42 = true := by kernel_rfl
theorem undS42 : (Program.underlying Tryd.prog 42).isSome = true := by kernel_rfl
theorem elT42 : elT Tryd.prog 42 = some (1, false) := by kernel_rfl
theorem elB42 : elB Tryd.prog 42 = some (1, 1) := by kernel_rfl
theorem bsT42 : bsT Tryd.prog 42 = some 1 := by kernel_rfl
theorem mkT42 : mkT Tryd.prog 42 = some (1, 1, [.int .u8 0]) := by kernel_rfl
theorem azT42 : azT Tryd.prog 42 = some (1, 1, [.slice none 0 0]) := by kernel_rfl
theorem zeroT42 : zeroT Tryd.prog 42 = some [.slice none 0 0] := by kernel_rfl
theorem szT43 : szT Tryd.prog 43 = some (1, false) := by kernel_rfl
theorem zT43 : zT Tryd.prog 43 = false := by kernel_rfl
theorem arT43 : arT Tryd.prog 43 = none := by kernel_rfl
theorem conc43 : Program.concrete Tryd.prog 43 = true := by kernel_rfl
theorem szT44 : szT Tryd.prog 44 = some (1, false) := by kernel_rfl
theorem zT44 : zT Tryd.prog 44 = false := by kernel_rfl
theorem arT44 : arT Tryd.prog 44 = none := by kernel_rfl
theorem conc44 : Program.concrete Tryd.prog 44 = true := by kernel_rfl
theorem szT45 : szT Tryd.prog 45 = some (1, false) := by kernel_rfl
theorem zT45 : zT Tryd.prog 45 = false := by kernel_rfl
theorem arT45 : arT Tryd.prog 45 = none := by kernel_rfl
theorem conc45 : Program.concrete Tryd.prog 45 = true := by kernel_rfl
theorem szT46 : szT Tryd.prog 46 = some (1, false) := by kernel_rfl
theorem zT46 : zT Tryd.prog 46 = false := by kernel_rfl
theorem arT46 : arT Tryd.prog 46 = none := by kernel_rfl
theorem conc46 : Program.concrete Tryd.prog 46 = true := by kernel_rfl
theorem undS46 : (Program.underlying Tryd.prog 46).isSome = true := by kernel_rfl
theorem elT46 : elT Tryd.prog 46 = some (1, false) := by kernel_rfl
theorem elB46 : elB Tryd.prog 46 = some (1, 1) := by kernel_rfl
theorem bsT46 : bsT Tryd.prog 46 = some 1 := by kernel_rfl
theorem mkT46 : mkT Tryd.prog 46 = some (1, 1, [.bool false]) := by kernel_rfl
theorem azT46 : azT Tryd.prog 46 = some (1, 1, [.slice none 0 0]) := by kernel_rfl
theorem zeroT46 : zeroT Tryd.prog 46 = some [.slice none 0 0] := by kernel_rfl
theorem szT47 : szT Tryd.prog 47 = some (1, false) := by kernel_rfl
theorem zT47 : zT Tryd.prog 47 = false := by kernel_rfl
theorem arT47 : arT Tryd.prog 47 = none := by kernel_rfl
theorem conc47 : Program.concrete Tryd.prog 47 = true := by kernel_rfl
theorem szT48 : szT Tryd.prog 48 = some (1, false) := by kernel_rfl
theorem zT48 : zT Tryd.prog 48 = false := by kernel_rfl
theorem arT48 : arT Tryd.prog 48 = none := by kernel_rfl
theorem conc48 : Program.concrete Tryd.prog 48 = true := by kernel_rfl
theorem szT49 : szT Tryd.prog 49 = some (1, false) := by kernel_rfl
theorem zT49 : zT Tryd.prog 49 = false := by kernel_rfl
theorem arT49 : arT Tryd.prog 49 = none := by kernel_rfl
theorem conc49 : Program.concrete Tryd.prog 49 = true := by kernel_rfl
theorem szT50 : szT Tryd.prog 50 = some (2, true) := by kernel_rfl
theorem zT50 : zT Tryd.prog 50 = false := by kernel_rfl
theorem arT50 : arT Tryd.prog 50 = none := by kernel_rfl
theorem conc50 : Program.concrete Tryd.prog 50 = true := by kernel_rfl
theorem undS50 : (Program.underlying Tryd.prog 50).isSome = true := by kernel_rfl
theorem elT50 : elT Tryd.prog 50 = none := by kernel_rfl
theorem azT50 : azT Tryd.prog 50 = some (2, 1, [.int .i64 0, .int .i64 0]) := by kernel_rfl
theorem zeroT50 : zeroT Tryd.prog 50 = some [.int .i64 0, .int .i64 0] := by kernel_rfl
theorem bT50 : bT Tryd.prog 50 = true := by kernel_rfl
theorem fldT50_0 : fldT Tryd.prog 50 0 = some (0, 1, false) := by kernel_rfl
theorem fldT50_1 : fldT Tryd.prog 50 1 = some (1, 1, false) := by kernel_rfl
theorem szT51 : szT Tryd.prog 51 = some (2, true) := by kernel_rfl
theorem zT51 : zT Tryd.prog 51 = false := by kernel_rfl
theorem arT51 : arT Tryd.prog 51 = none := by kernel_rfl
theorem conc51 : Program.concrete Tryd.prog 51 = true := by kernel_rfl
theorem undS51 : (Program.underlying Tryd.prog 51).isSome = true := by kernel_rfl
theorem elT51 : elT Tryd.prog 51 = none := by kernel_rfl
theorem azT51 : azT Tryd.prog 51 = some (2, 1, [.int .i64 0, .int .i64 0]) := by kernel_rfl
theorem zeroT51 : zeroT Tryd.prog 51 = some [.int .i64 0, .int .i64 0] := by kernel_rfl
theorem bT51 : bT Tryd.prog 51 = true := by kernel_rfl
theorem fldT51_0 : fldT Tryd.prog 51 0 = some (0, 1, false) := by kernel_rfl
theorem fldT51_1 : fldT Tryd.prog 51 1 = some (1, 1, false) := by kernel_rfl
theorem szT52 : szT Tryd.prog 52 = some (1, false) := by kernel_rfl
theorem zT52 : zT Tryd.prog 52 = false := by kernel_rfl
theorem arT52 : arT Tryd.prog 52 = none := by kernel_rfl
theorem conc52 : Program.concrete Tryd.prog 52 = true := by kernel_rfl
theorem szT53 : szT Tryd.prog 53 = some (3, true) := by kernel_rfl
theorem zT53 : zT Tryd.prog 53 = false := by kernel_rfl
theorem arT53 : arT Tryd.prog 53 = none := by kernel_rfl
theorem conc53 : Program.concrete Tryd.prog 53 = true := by kernel_rfl
theorem undS53 : (Program.underlying Tryd.prog 53).isSome = true := by kernel_rfl
theorem elT53 : elT Tryd.prog 53 = none := by kernel_rfl
theorem azT53 : azT Tryd.prog 53 = some (3, 1, [.int .i64 0, .int .i64 0, .int .i64 0]) := by kernel_rfl
theorem zeroT53 : zeroT Tryd.prog 53 = some [.int .i64 0, .int .i64 0, .int .i64 0] := by kernel_rfl
theorem bT53 : bT Tryd.prog 53 = true := by kernel_rfl
theorem fldT53_0 : fldT Tryd.prog 53 0 = some (0, 1, false) := by kernel_rfl
theorem fldT53_1 : fldT Tryd.prog 53 1 = some (1, 1, false) := by kernel_rfl
theorem fldT53_2 : fldT Tryd.prog 53 2 = some (2, 1, false) := by kernel_rfl
theorem szT54 : szT Tryd.prog 54 = some (3, true) := by kernel_rfl
theorem zT54 : zT Tryd.prog 54 = false := by kernel_rfl
theorem arT54 : arT Tryd.prog 54 = none := by kernel_rfl
theorem conc54 : Program.concrete Tryd.prog 54 = true := by kernel_rfl
theorem undS54 : (Program.underlying Tryd.prog 54).isSome = true := by kernel_rfl
theorem elT54 : elT Tryd.prog 54 = none := by kernel_rfl
theorem azT54 : azT Tryd.prog 54 = some (3, 1, [.int .i64 0, .int .i64 0, .int .i64 0]) := by kernel_rfl
theorem zeroT54 : zeroT Tryd.prog 54 = some [.int .i64 0, .int .i64 0, .int .i64 0] := by kernel_rfl
theorem bT54 : bT Tryd.prog 54 = true := by kernel_rfl
theorem fldT54_0 : fldT Tryd.prog 54 0 = some (0, 1, false) := by kernel_rfl
theorem fldT54_1 : fldT Tryd.prog 54 1 = some (1, 1, false) := by kernel_rfl
theorem fldT54_2 : fldT Tryd.prog 54 2 = some (2, 1, false) := by kernel_rfl
theorem szT55 : szT Tryd.prog 55 = some (1, false) := by kernel_rfl
theorem zT55 : zT Tryd.prog 55 = false := by kernel_rfl
theorem arT55 : arT Tryd.prog 55 = none := by kernel_rfl
theorem conc55 : Program.concrete Tryd.prog 55 = true := by kernel_rfl
theorem undS55 : (Program.underlying Tryd.prog 55).isSome = true := by kernel_rfl
theorem elT55 : elT Tryd.prog 55 = some (1, false) := by kernel_rfl
theorem elB55 : elB Tryd.prog 55 = some (1, 24) := by kernel_rfl
theorem bsT55 : bsT Tryd.prog 55 = some 1 := by kernel_rfl
theorem mkT55 : mkT Tryd.prog 55 = some (1, 24, [.slice none 0 0]) := by kernel_rfl
theorem azT55 : azT Tryd.prog 55 = some (1, 1, [.slice none 0 0]) := by kernel_rfl
theorem zeroT55 : zeroT Tryd.prog 55 = some [.slice none 0 0] := by kernel_rfl
theorem szT56 : szT Tryd.prog 56 = some (1, false) := by kernel_rfl
theorem zT56 : zT Tryd.prog 56 = false := by kernel_rfl
theorem arT56 : arT Tryd.prog 56 = none := by kernel_rfl
theorem conc56 : Program.concrete Tryd.prog 56 = true := by kernel_rfl
theorem szT58 : szT Tryd.prog 58 = some (1, false) := by kernel_rfl
theorem zT58 : zT Tryd.prog 58 = false := by kernel_rfl
theorem arT58 : arT Tryd.prog 58 = none := by kernel_rfl
theorem conc58 : Program.concrete Tryd.prog 58 = true := by kernel_rfl
theorem szT59 : szT Tryd.prog 59 = some (1, false) := by kernel_rfl
theorem zT59 : zT Tryd.prog 59 = false := by kernel_rfl
theorem arT59 : arT Tryd.prog 59 = none := by kernel_rfl
theorem conc59 : Program.concrete Tryd.prog 59 = true := by kernel_rfl
theorem szT60 : szT Tryd.prog 60 = some (1, false) := by kernel_rfl
theorem zT60 : zT Tryd.prog 60 = false := by kernel_rfl
theorem arT60 : arT Tryd.prog 60 = none := by kernel_rfl
theorem conc60 : Program.concrete Tryd.prog 60 = true := by kernel_rfl
theorem szT61 : szT Tryd.prog 61 = some (1, false) := by kernel_rfl
theorem zT61 : zT Tryd.prog 61 = false := by kernel_rfl
theorem arT61 : arT Tryd.prog 61 = none := by kernel_rfl
theorem conc61 : Program.concrete Tryd.prog 61 = true := by kernel_rfl
theorem szT62 : szT Tryd.prog 62 = some (1, false) := by kernel_rfl
theorem zT62 : zT Tryd.prog 62 = false := by kernel_rfl
theorem arT62 : arT Tryd.prog 62 = none := by kernel_rfl
theorem conc62 : Program.concrete Tryd.prog 62 = true := by kernel_rfl
theorem szT63 : szT Tryd.prog 63 = some (1, false) := by kernel_rfl
theorem zT63 : zT Tryd.prog 63 = false := by kernel_rfl
theorem arT63 : arT Tryd.prog 63 = none := by kernel_rfl
theorem conc63 : Program.concrete Tryd.prog 63 = true := by kernel_rfl
theorem szT64 : szT Tryd.prog 64 = some (1, false) := by kernel_rfl
theorem zT64 : zT Tryd.prog 64 = false := by kernel_rfl
theorem arT64 : arT Tryd.prog 64 = none := by kernel_rfl
theorem conc64 : Program.concrete Tryd.prog 64 = true := by kernel_rfl
theorem szT65 : szT Tryd.prog 65 = some (1, false) := by kernel_rfl
theorem zT65 : zT Tryd.prog 65 = false := by kernel_rfl
theorem zeroT65 : azT Tryd.prog 65 = some (1, 1, [.pointer none]) := by kernel_rfl
theorem arT65 : arT Tryd.prog 65 = none := by kernel_rfl
theorem conc65 : Program.concrete Tryd.prog 65 = true := by kernel_rfl
theorem szT66 : szT Tryd.prog 66 = some (1, false) := by kernel_rfl
theorem zT66 : zT Tryd.prog 66 = false := by kernel_rfl
theorem arT66 : arT Tryd.prog 66 = none := by kernel_rfl
theorem conc66 : Program.concrete Tryd.prog 66 = true := by kernel_rfl
theorem szT67 : szT Tryd.prog 67 = some (1, false) := by kernel_rfl
theorem zT67 : zT Tryd.prog 67 = false := by kernel_rfl
theorem arT67 : arT Tryd.prog 67 = none := by kernel_rfl
theorem conc67 : Program.concrete Tryd.prog 67 = true := by kernel_rfl
theorem szT68 : szT Tryd.prog 68 = some (1, false) := by kernel_rfl
theorem zT68 : zT Tryd.prog 68 = false := by kernel_rfl
theorem zeroT68 : azT Tryd.prog 68 = some (1, 1, [.pointer none]) := by kernel_rfl
theorem arT68 : arT Tryd.prog 68 = none := by kernel_rfl
theorem conc68 : Program.concrete Tryd.prog 68 = true := by kernel_rfl
theorem szT69 : szT Tryd.prog 69 = some (1, false) := by kernel_rfl
theorem zT69 : zT Tryd.prog 69 = false := by kernel_rfl
theorem zeroT69 : azT Tryd.prog 69 = some (1, 1, [.pointer none]) := by kernel_rfl
theorem arT69 : arT Tryd.prog 69 = none := by kernel_rfl
theorem conc69 : Program.concrete Tryd.prog 69 = true := by kernel_rfl
theorem szT70 : szT Tryd.prog 70 = some (1, false) := by kernel_rfl
theorem zT70 : zT Tryd.prog 70 = false := by kernel_rfl
theorem arT70 : arT Tryd.prog 70 = none := by kernel_rfl
theorem conc70 : Program.concrete Tryd.prog 70 = true := by kernel_rfl
theorem szT71 : szT Tryd.prog 71 = some (1, false) := by kernel_rfl
theorem zT71 : zT Tryd.prog 71 = false := by kernel_rfl
theorem arT71 : arT Tryd.prog 71 = none := by kernel_rfl
theorem conc71 : Program.concrete Tryd.prog 71 = true := by kernel_rfl
theorem szT72 : szT Tryd.prog 72 = some (1, false) := by kernel_rfl
theorem zT72 : zT Tryd.prog 72 = false := by kernel_rfl
theorem arT72 : arT Tryd.prog 72 = none := by kernel_rfl
theorem conc72 : Program.concrete Tryd.prog 72 = true := by kernel_rfl
theorem undS72 : (Program.underlying Tryd.prog 72).isSome = true := by kernel_rfl
theorem intT72 : intT Tryd.prog 72 = some .u64 := by kernel_rfl
theorem elT72 : elT Tryd.prog 72 = none := by kernel_rfl
theorem azT72 : azT Tryd.prog 72 = some (1, 1, [.int .u64 0]) := by kernel_rfl
theorem zeroT72 : zeroT Tryd.prog 72 = some [.int .u64 0] := by kernel_rfl
theorem szT73 : szT Tryd.prog 73 = some (1, false) := by kernel_rfl
theorem zT73 : zT Tryd.prog 73 = false := by kernel_rfl
theorem arT73 : arT Tryd.prog 73 = none := by kernel_rfl
theorem conc73 : Program.concrete Tryd.prog 73 = true := by kernel_rfl
theorem undS73 : (Program.underlying Tryd.prog 73).isSome = true := by kernel_rfl
theorem intT73 : intT Tryd.prog 73 = some .u64 := by kernel_rfl
theorem elT73 : elT Tryd.prog 73 = none := by kernel_rfl
theorem azT73 : azT Tryd.prog 73 = some (1, 1, [.int .u64 0]) := by kernel_rfl
theorem zeroT73 : zeroT Tryd.prog 73 = some [.int .u64 0] := by kernel_rfl
theorem szT74 : szT Tryd.prog 74 = some (5, true) := by kernel_rfl
theorem zT74 : zT Tryd.prog 74 = false := by kernel_rfl
theorem conc74 : Program.concrete Tryd.prog 74 = true := by kernel_rfl
theorem undS74 : (Program.underlying Tryd.prog 74).isSome = true := by kernel_rfl
theorem elT74 : elT Tryd.prog 74 = none := by kernel_rfl
theorem arT74 : arT Tryd.prog 74 = some (5, 1, false) := by kernel_rfl
theorem azT74 : azT Tryd.prog 74 = some (1, 5, [.int .u64 0]) := by kernel_rfl
theorem zeroT74 : zeroT Tryd.prog 74 = some [.int .u64 0, .int .u64 0, .int .u64 0, .int .u64 0, .int .u64 0] := by kernel_rfl
theorem szT75 : szT Tryd.prog 75 = some (5, true) := by kernel_rfl
theorem zT75 : zT Tryd.prog 75 = false := by kernel_rfl
theorem conc75 : Program.concrete Tryd.prog 75 = true := by kernel_rfl
theorem undS75 : (Program.underlying Tryd.prog 75).isSome = true := by kernel_rfl
theorem elT75 : elT Tryd.prog 75 = none := by kernel_rfl
theorem arT75 : arT Tryd.prog 75 = some (5, 1, false) := by kernel_rfl
theorem azT75 : azT Tryd.prog 75 = some (1, 5, [.int .u64 0]) := by kernel_rfl
theorem zeroT75 : zeroT Tryd.prog 75 = some [.int .u64 0, .int .u64 0, .int .u64 0, .int .u64 0, .int .u64 0] := by kernel_rfl
theorem szT76 : szT Tryd.prog 76 = some (8, true) := by kernel_rfl
theorem zT76 : zT Tryd.prog 76 = false := by kernel_rfl
theorem arT76 : arT Tryd.prog 76 = none := by kernel_rfl
theorem conc76 : Program.concrete Tryd.prog 76 = true := by kernel_rfl
theorem undS76 : (Program.underlying Tryd.prog 76).isSome = true := by kernel_rfl
theorem elT76 : elT Tryd.prog 76 = none := by kernel_rfl
theorem azT76 : azT Tryd.prog 76 = some (8, 1, [.slice none 0 0, .slice none 0 0, .bool false, .int .u64 0, .int .u64 0, .int .u64 0, .int .u64 0, .int .u64 0]) := by kernel_rfl
theorem zeroT76 : zeroT Tryd.prog 76 = some [.slice none 0 0, .slice none 0 0, .bool false, .int .u64 0, .int .u64 0, .int .u64 0, .int .u64 0, .int .u64 0] := by kernel_rfl
theorem bT76 : bT Tryd.prog 76 = true := by kernel_rfl
theorem fldT76_0 : fldT Tryd.prog 76 0 = some (0, 2, true) := by kernel_rfl
theorem fldT76_1 : fldT Tryd.prog 76 1 = some (2, 1, false) := by kernel_rfl
theorem fldT76_2 : fldT Tryd.prog 76 2 = some (3, 5, true) := by kernel_rfl
theorem szT77 : szT Tryd.prog 77 = some (8, true) := by kernel_rfl
theorem zT77 : zT Tryd.prog 77 = false := by kernel_rfl
theorem arT77 : arT Tryd.prog 77 = none := by kernel_rfl
theorem conc77 : Program.concrete Tryd.prog 77 = true := by kernel_rfl
theorem undS77 : (Program.underlying Tryd.prog 77).isSome = true := by kernel_rfl
theorem elT77 : elT Tryd.prog 77 = none := by kernel_rfl
theorem azT77 : azT Tryd.prog 77 = some (8, 1, [.slice none 0 0, .slice none 0 0, .bool false, .int .u64 0, .int .u64 0, .int .u64 0, .int .u64 0, .int .u64 0]) := by kernel_rfl
theorem zeroT77 : zeroT Tryd.prog 77 = some [.slice none 0 0, .slice none 0 0, .bool false, .int .u64 0, .int .u64 0, .int .u64 0, .int .u64 0, .int .u64 0] := by kernel_rfl
theorem bT77 : bT Tryd.prog 77 = true := by kernel_rfl
theorem fldT77_0 : fldT Tryd.prog 77 0 = some (0, 2, true) := by kernel_rfl
theorem fldT77_1 : fldT Tryd.prog 77 1 = some (2, 1, false) := by kernel_rfl
theorem fldT77_2 : fldT Tryd.prog 77 2 = some (3, 5, true) := by kernel_rfl
theorem szT78 : szT Tryd.prog 78 = some (1, false) := by kernel_rfl
theorem zT78 : zT Tryd.prog 78 = false := by kernel_rfl
theorem arT78 : arT Tryd.prog 78 = none := by kernel_rfl
theorem conc78 : Program.concrete Tryd.prog 78 = true := by kernel_rfl
theorem szT79 : szT Tryd.prog 79 = some (1, false) := by kernel_rfl
theorem zT79 : zT Tryd.prog 79 = false := by kernel_rfl
theorem arT79 : arT Tryd.prog 79 = none := by kernel_rfl
theorem conc79 : Program.concrete Tryd.prog 79 = true := by kernel_rfl
theorem szT80 : szT Tryd.prog 80 = some (1, false) := by kernel_rfl
theorem zT80 : zT Tryd.prog 80 = false := by kernel_rfl
theorem arT80 : arT Tryd.prog 80 = none := by kernel_rfl
theorem conc80 : Program.concrete Tryd.prog 80 = true := by kernel_rfl
theorem szT81 : szT Tryd.prog 81 = some (1, false) := by kernel_rfl
theorem zT81 : zT Tryd.prog 81 = false := by kernel_rfl
theorem arT81 : arT Tryd.prog 81 = none := by kernel_rfl
theorem conc81 : Program.concrete Tryd.prog 81 = true := by kernel_rfl
theorem szT82 : szT Tryd.prog 82 = some (1, false) := by kernel_rfl
theorem zT82 : zT Tryd.prog 82 = false := by kernel_rfl
theorem arT82 : arT Tryd.prog 82 = none := by kernel_rfl
theorem conc82 : Program.concrete Tryd.prog 82 = true := by kernel_rfl
theorem szT83 : szT Tryd.prog 83 = some (0, true) := by kernel_rfl
theorem zT83 : zT Tryd.prog 83 = true := by kernel_rfl
theorem arT83 : arT Tryd.prog 83 = none := by kernel_rfl
theorem conc83 : Program.concrete Tryd.prog 83 = true := by kernel_rfl
theorem undS83 : (Program.underlying Tryd.prog 83).isSome = true := by kernel_rfl
theorem elT83 : elT Tryd.prog 83 = none := by kernel_rfl
theorem azT83 : azT Tryd.prog 83 = some (0, 1, []) := by kernel_rfl
theorem zeroT83 : zeroT Tryd.prog 83 = some [] := by kernel_rfl
theorem bT83 : bT Tryd.prog 83 = true := by kernel_rfl
theorem szT84 : szT Tryd.prog 84 = some (0, true) := by kernel_rfl
theorem zT84 : zT Tryd.prog 84 = true := by kernel_rfl
theorem arT84 : arT Tryd.prog 84 = none := by kernel_rfl
theorem conc84 : Program.concrete Tryd.prog 84 = true := by kernel_rfl
theorem undS84 : (Program.underlying Tryd.prog 84).isSome = true := by kernel_rfl
theorem elT84 : elT Tryd.prog 84 = none := by kernel_rfl
theorem azT84 : azT Tryd.prog 84 = some (0, 1, []) := by kernel_rfl
theorem zeroT84 : zeroT Tryd.prog 84 = some [] := by kernel_rfl
theorem bT84 : bT Tryd.prog 84 = true := by kernel_rfl
theorem szT85 : szT Tryd.prog 85 = some (0, true) := by kernel_rfl
theorem zT85 : zT Tryd.prog 85 = true := by kernel_rfl
theorem arT85 : arT Tryd.prog 85 = none := by kernel_rfl
theorem conc85 : Program.concrete Tryd.prog 85 = true := by kernel_rfl
theorem undS85 : (Program.underlying Tryd.prog 85).isSome = true := by kernel_rfl
theorem elT85 : elT Tryd.prog 85 = none := by kernel_rfl
theorem azT85 : azT Tryd.prog 85 = some (0, 1, []) := by kernel_rfl
theorem zeroT85 : zeroT Tryd.prog 85 = some [] := by kernel_rfl
theorem bT85 : bT Tryd.prog 85 = true := by kernel_rfl
theorem szT86 : szT Tryd.prog 86 = some (0, true) := by kernel_rfl
theorem zT86 : zT Tryd.prog 86 = true := by kernel_rfl
theorem arT86 : arT Tryd.prog 86 = none := by kernel_rfl
theorem conc86 : Program.concrete Tryd.prog 86 = true := by kernel_rfl
theorem undS86 : (Program.underlying Tryd.prog 86).isSome = true := by kernel_rfl
theorem elT86 : elT Tryd.prog 86 = none := by kernel_rfl
theorem azT86 : azT Tryd.prog 86 = some (0, 1, []) := by kernel_rfl
theorem zeroT86 : zeroT Tryd.prog 86 = some [] := by kernel_rfl
theorem bT86 : bT Tryd.prog 86 = true := by kernel_rfl
theorem szT87 : szT Tryd.prog 87 = some (1, false) := by kernel_rfl
theorem zT87 : zT Tryd.prog 87 = false := by kernel_rfl
theorem arT87 : arT Tryd.prog 87 = none := by kernel_rfl
theorem conc87 : Program.concrete Tryd.prog 87 = true := by kernel_rfl
theorem szT89 : szT Tryd.prog 89 = some (1, false) := by kernel_rfl
theorem zT89 : zT Tryd.prog 89 = false := by kernel_rfl
theorem arT89 : arT Tryd.prog 89 = none := by kernel_rfl
theorem conc89 : Program.concrete Tryd.prog 89 = true := by kernel_rfl
theorem szT90 : szT Tryd.prog 90 = some (1, false) := by kernel_rfl
theorem zT90 : zT Tryd.prog 90 = false := by kernel_rfl
theorem arT90 : arT Tryd.prog 90 = none := by kernel_rfl
theorem conc90 : Program.concrete Tryd.prog 90 = true := by kernel_rfl
theorem szT91 : szT Tryd.prog 91 = some (3, true) := by kernel_rfl
theorem zT91 : zT Tryd.prog 91 = false := by kernel_rfl
theorem arT91 : arT Tryd.prog 91 = none := by kernel_rfl
theorem conc91 : Program.concrete Tryd.prog 91 = true := by kernel_rfl
theorem undS91 : (Program.underlying Tryd.prog 91).isSome = true := by kernel_rfl
theorem elT91 : elT Tryd.prog 91 = none := by kernel_rfl
theorem azT91 : azT Tryd.prog 91 = some (3, 1, [.int .i64 0, .nilFunc, .nilFunc]) := by kernel_rfl
theorem zeroT91 : zeroT Tryd.prog 91 = some [.int .i64 0, .nilFunc, .nilFunc] := by kernel_rfl
theorem bT91 : bT Tryd.prog 91 = true := by kernel_rfl
theorem fldT91_0 : fldT Tryd.prog 91 0 = some (0, 1, false) := by kernel_rfl
theorem fldT91_1 : fldT Tryd.prog 91 1 = some (1, 1, false) := by kernel_rfl
theorem fldT91_2 : fldT Tryd.prog 91 2 = some (2, 1, false) := by kernel_rfl
theorem szT92 : szT Tryd.prog 92 = some (3, true) := by kernel_rfl
theorem zT92 : zT Tryd.prog 92 = false := by kernel_rfl
theorem arT92 : arT Tryd.prog 92 = none := by kernel_rfl
theorem conc92 : Program.concrete Tryd.prog 92 = true := by kernel_rfl
theorem undS92 : (Program.underlying Tryd.prog 92).isSome = true := by kernel_rfl
theorem elT92 : elT Tryd.prog 92 = none := by kernel_rfl
theorem azT92 : azT Tryd.prog 92 = some (3, 1, [.int .i64 0, .nilFunc, .nilFunc]) := by kernel_rfl
theorem zeroT92 : zeroT Tryd.prog 92 = some [.int .i64 0, .nilFunc, .nilFunc] := by kernel_rfl
theorem bT92 : bT Tryd.prog 92 = true := by kernel_rfl
theorem fldT92_0 : fldT Tryd.prog 92 0 = some (0, 1, false) := by kernel_rfl
theorem fldT92_1 : fldT Tryd.prog 92 1 = some (1, 1, false) := by kernel_rfl
theorem fldT92_2 : fldT Tryd.prog 92 2 = some (2, 1, false) := by kernel_rfl
theorem szT93 : szT Tryd.prog 93 = some (2, true) := by kernel_rfl
theorem zT93 : zT Tryd.prog 93 = false := by kernel_rfl
theorem arT93 : arT Tryd.prog 93 = none := by kernel_rfl
theorem conc93 : Program.concrete Tryd.prog 93 = true := by kernel_rfl
theorem undS93 : (Program.underlying Tryd.prog 93).isSome = true := by kernel_rfl
theorem elT93 : elT Tryd.prog 93 = none := by kernel_rfl
theorem azT93 : azT Tryd.prog 93 = some (2, 1, [.int .i64 0, .int .i64 0]) := by kernel_rfl
theorem zeroT93 : zeroT Tryd.prog 93 = some [.int .i64 0, .int .i64 0] := by kernel_rfl
theorem bT93 : bT Tryd.prog 93 = true := by kernel_rfl
theorem fldT93_0 : fldT Tryd.prog 93 0 = some (0, 1, false) := by kernel_rfl
theorem fldT93_1 : fldT Tryd.prog 93 1 = some (1, 1, false) := by kernel_rfl
theorem szT94 : szT Tryd.prog 94 = some (2, true) := by kernel_rfl
theorem zT94 : zT Tryd.prog 94 = false := by kernel_rfl
theorem arT94 : arT Tryd.prog 94 = none := by kernel_rfl
theorem conc94 : Program.concrete Tryd.prog 94 = true := by kernel_rfl
theorem undS94 : (Program.underlying Tryd.prog 94).isSome = true := by kernel_rfl
theorem elT94 : elT Tryd.prog 94 = none := by kernel_rfl
theorem azT94 : azT Tryd.prog 94 = some (2, 1, [.int .i64 0, .int .i64 0]) := by kernel_rfl
theorem zeroT94 : zeroT Tryd.prog 94 = some [.int .i64 0, .int .i64 0] := by kernel_rfl
theorem bT94 : bT Tryd.prog 94 = true := by kernel_rfl
theorem fldT94_0 : fldT Tryd.prog 94 0 = some (0, 1, false) := by kernel_rfl
theorem fldT94_1 : fldT Tryd.prog 94 1 = some (1, 1, false) := by kernel_rfl
theorem szT95 : szT Tryd.prog 95 = some (1, false) := by kernel_rfl
theorem zT95 : zT Tryd.prog 95 = false := by kernel_rfl
theorem arT95 : arT Tryd.prog 95 = none := by kernel_rfl
theorem conc95 : Program.concrete Tryd.prog 95 = true := by kernel_rfl
theorem szT97 : szT Tryd.prog 97 = some (1, false) := by kernel_rfl
theorem zT97 : zT Tryd.prog 97 = false := by kernel_rfl
theorem arT97 : arT Tryd.prog 97 = none := by kernel_rfl
theorem conc97 : Program.concrete Tryd.prog 97 = true := by kernel_rfl
theorem szT98 : szT Tryd.prog 98 = some (1, false) := by kernel_rfl
theorem zT98 : zT Tryd.prog 98 = false := by kernel_rfl
theorem arT98 : arT Tryd.prog 98 = none := by kernel_rfl
theorem conc98 : Program.concrete Tryd.prog 98 = true := by kernel_rfl
theorem szT100 : szT Tryd.prog 100 = some (1, false) := by kernel_rfl
theorem zT100 : zT Tryd.prog 100 = false := by kernel_rfl
theorem arT100 : arT Tryd.prog 100 = none := by kernel_rfl
theorem conc100 : Program.concrete Tryd.prog 100 = true := by kernel_rfl
theorem szT101 : szT Tryd.prog 101 = some (1, false) := by kernel_rfl
theorem zT101 : zT Tryd.prog 101 = false := by kernel_rfl
theorem arT101 : arT Tryd.prog 101 = none := by kernel_rfl
theorem conc101 : Program.concrete Tryd.prog 101 = true := by kernel_rfl
theorem szT102 : szT Tryd.prog 102 = some (1, false) := by kernel_rfl
theorem zT102 : zT Tryd.prog 102 = false := by kernel_rfl
theorem arT102 : arT Tryd.prog 102 = none := by kernel_rfl
theorem conc102 : Program.concrete Tryd.prog 102 = true := by kernel_rfl
theorem szT103 : szT Tryd.prog 103 = some (1, false) := by kernel_rfl
theorem zT103 : zT Tryd.prog 103 = false := by kernel_rfl
theorem arT103 : arT Tryd.prog 103 = none := by kernel_rfl
theorem conc103 : Program.concrete Tryd.prog 103 = true := by kernel_rfl
theorem szT104 : szT Tryd.prog 104 = some (1, false) := by kernel_rfl
theorem zT104 : zT Tryd.prog 104 = false := by kernel_rfl
theorem arT104 : arT Tryd.prog 104 = none := by kernel_rfl
theorem conc104 : Program.concrete Tryd.prog 104 = true := by kernel_rfl
theorem szT105 : szT Tryd.prog 105 = some (1, false) := by kernel_rfl
theorem zT105 : zT Tryd.prog 105 = false := by kernel_rfl
theorem arT105 : arT Tryd.prog 105 = none := by kernel_rfl
theorem conc105 : Program.concrete Tryd.prog 105 = true := by kernel_rfl
theorem szT106 : szT Tryd.prog 106 = some (1, false) := by kernel_rfl
theorem zT106 : zT Tryd.prog 106 = false := by kernel_rfl
theorem arT106 : arT Tryd.prog 106 = none := by kernel_rfl
theorem conc106 : Program.concrete Tryd.prog 106 = true := by kernel_rfl
theorem szT107 : szT Tryd.prog 107 = some (1, false) := by kernel_rfl
theorem zT107 : zT Tryd.prog 107 = false := by kernel_rfl
theorem arT107 : arT Tryd.prog 107 = none := by kernel_rfl
theorem conc107 : Program.concrete Tryd.prog 107 = true := by kernel_rfl
theorem szT108 : szT Tryd.prog 108 = some (1, true) := by kernel_rfl
theorem zT108 : zT Tryd.prog 108 = false := by kernel_rfl
theorem arT108 : arT Tryd.prog 108 = none := by kernel_rfl
theorem conc108 : Program.concrete Tryd.prog 108 = true := by kernel_rfl
theorem undS108 : (Program.underlying Tryd.prog 108).isSome = true := by kernel_rfl
theorem elT108 : elT Tryd.prog 108 = none := by kernel_rfl
theorem azT108 : azT Tryd.prog 108 = some (1, 1, [.int .i64 0]) := by kernel_rfl
theorem zeroT108 : zeroT Tryd.prog 108 = some [.int .i64 0] := by kernel_rfl
theorem bT108 : bT Tryd.prog 108 = true := by kernel_rfl
theorem fldT108_0 : fldT Tryd.prog 108 0 = some (0, 1, false) := by kernel_rfl
theorem szT109 : szT Tryd.prog 109 = some (1, true) := by kernel_rfl
theorem zT109 : zT Tryd.prog 109 = false := by kernel_rfl
theorem arT109 : arT Tryd.prog 109 = none := by kernel_rfl
theorem conc109 : Program.concrete Tryd.prog 109 = true := by kernel_rfl
theorem undS109 : (Program.underlying Tryd.prog 109).isSome = true := by kernel_rfl
theorem elT109 : elT Tryd.prog 109 = none := by kernel_rfl
theorem azT109 : azT Tryd.prog 109 = some (1, 1, [.int .i64 0]) := by kernel_rfl
theorem zeroT109 : zeroT Tryd.prog 109 = some [.int .i64 0] := by kernel_rfl
theorem bT109 : bT Tryd.prog 109 = true := by kernel_rfl
theorem fldT109_0 : fldT Tryd.prog 109 0 = some (0, 1, false) := by kernel_rfl
theorem szT111 : szT Tryd.prog 111 = some (1, false) := by kernel_rfl
theorem zT111 : zT Tryd.prog 111 = false := by kernel_rfl
theorem arT111 : arT Tryd.prog 111 = none := by kernel_rfl
theorem conc111 : Program.concrete Tryd.prog 111 = true := by kernel_rfl
theorem szT112 : szT Tryd.prog 112 = some (1, false) := by kernel_rfl
theorem zT112 : zT Tryd.prog 112 = false := by kernel_rfl
theorem arT112 : arT Tryd.prog 112 = none := by kernel_rfl
theorem conc112 : Program.concrete Tryd.prog 112 = true := by kernel_rfl
theorem szT113 : szT Tryd.prog 113 = some (1, false) := by kernel_rfl
theorem zT113 : zT Tryd.prog 113 = false := by kernel_rfl
theorem arT113 : arT Tryd.prog 113 = none := by kernel_rfl
theorem conc113 : Program.concrete Tryd.prog 113 = true := by kernel_rfl
theorem szT114 : szT Tryd.prog 114 = some (1, false) := by kernel_rfl
theorem zT114 : zT Tryd.prog 114 = false := by kernel_rfl
theorem arT114 : arT Tryd.prog 114 = none := by kernel_rfl
theorem conc114 : Program.concrete Tryd.prog 114 = true := by kernel_rfl
theorem szT115 : szT Tryd.prog 115 = some (1, false) := by kernel_rfl
theorem zT115 : zT Tryd.prog 115 = false := by kernel_rfl
theorem arT115 : arT Tryd.prog 115 = none := by kernel_rfl
theorem conc115 : Program.concrete Tryd.prog 115 = true := by kernel_rfl
theorem szT116 : szT Tryd.prog 116 = some (1, false) := by kernel_rfl
theorem zT116 : zT Tryd.prog 116 = false := by kernel_rfl
theorem arT116 : arT Tryd.prog 116 = none := by kernel_rfl
theorem szT117 : szT Tryd.prog 117 = some (1, false) := by kernel_rfl
theorem zT117 : zT Tryd.prog 117 = false := by kernel_rfl
theorem arT117 : arT Tryd.prog 117 = none := by kernel_rfl
theorem szT118 : szT Tryd.prog 118 = some (1, false) := by kernel_rfl
theorem zT118 : zT Tryd.prog 118 = false := by kernel_rfl
theorem arT118 : arT Tryd.prog 118 = none := by kernel_rfl
theorem conc118 : Program.concrete Tryd.prog 118 = true := by kernel_rfl
theorem szT119 : szT Tryd.prog 119 = some (1, false) := by kernel_rfl
theorem zT119 : zT Tryd.prog 119 = false := by kernel_rfl
theorem arT119 : arT Tryd.prog 119 = none := by kernel_rfl
theorem conc119 : Program.concrete Tryd.prog 119 = true := by kernel_rfl
theorem szT120 : szT Tryd.prog 120 = some (1, false) := by kernel_rfl
theorem zT120 : zT Tryd.prog 120 = false := by kernel_rfl
theorem arT120 : arT Tryd.prog 120 = none := by kernel_rfl
theorem conc120 : Program.concrete Tryd.prog 120 = true := by kernel_rfl
theorem szT121 : szT Tryd.prog 121 = some (2, true) := by kernel_rfl
theorem zT121 : zT Tryd.prog 121 = false := by kernel_rfl
theorem arT121 : arT Tryd.prog 121 = none := by kernel_rfl
theorem conc121 : Program.concrete Tryd.prog 121 = true := by kernel_rfl
theorem undS121 : (Program.underlying Tryd.prog 121).isSome = true := by kernel_rfl
theorem elT121 : elT Tryd.prog 121 = none := by kernel_rfl
theorem azT121 : azT Tryd.prog 121 = some (2, 1, [.int .i64 0, .bool false]) := by kernel_rfl
theorem zeroT121 : zeroT Tryd.prog 121 = some [.int .i64 0, .bool false] := by kernel_rfl
theorem bT121 : bT Tryd.prog 121 = true := by kernel_rfl
theorem fldT121_0 : fldT Tryd.prog 121 0 = some (0, 1, false) := by kernel_rfl
theorem fldT121_1 : fldT Tryd.prog 121 1 = some (1, 1, false) := by kernel_rfl
theorem szT122 : szT Tryd.prog 122 = some (2, true) := by kernel_rfl
theorem zT122 : zT Tryd.prog 122 = false := by kernel_rfl
theorem arT122 : arT Tryd.prog 122 = none := by kernel_rfl
theorem conc122 : Program.concrete Tryd.prog 122 = true := by kernel_rfl
theorem undS122 : (Program.underlying Tryd.prog 122).isSome = true := by kernel_rfl
theorem elT122 : elT Tryd.prog 122 = none := by kernel_rfl
theorem azT122 : azT Tryd.prog 122 = some (2, 1, [.int .i64 0, .bool false]) := by kernel_rfl
theorem zeroT122 : zeroT Tryd.prog 122 = some [.int .i64 0, .bool false] := by kernel_rfl
theorem bT122 : bT Tryd.prog 122 = true := by kernel_rfl
theorem fldT122_0 : fldT Tryd.prog 122 0 = some (0, 1, false) := by kernel_rfl
theorem fldT122_1 : fldT Tryd.prog 122 1 = some (1, 1, false) := by kernel_rfl
theorem szT124 : szT Tryd.prog 124 = some (1, false) := by kernel_rfl
theorem zT124 : zT Tryd.prog 124 = false := by kernel_rfl
theorem arT124 : arT Tryd.prog 124 = none := by kernel_rfl
theorem conc124 : Program.concrete Tryd.prog 124 = true := by kernel_rfl
theorem szT125 : szT Tryd.prog 125 = some (1, false) := by kernel_rfl
theorem zT125 : zT Tryd.prog 125 = false := by kernel_rfl
theorem arT125 : arT Tryd.prog 125 = none := by kernel_rfl
theorem conc125 : Program.concrete Tryd.prog 125 = true := by kernel_rfl
theorem szT126 : szT Tryd.prog 126 = some (1, false) := by kernel_rfl
theorem zT126 : zT Tryd.prog 126 = false := by kernel_rfl
theorem arT126 : arT Tryd.prog 126 = none := by kernel_rfl
theorem conc126 : Program.concrete Tryd.prog 126 = true := by kernel_rfl
theorem szT127 : szT Tryd.prog 127 = some (1, false) := by kernel_rfl
theorem zT127 : zT Tryd.prog 127 = false := by kernel_rfl
theorem arT127 : arT Tryd.prog 127 = none := by kernel_rfl
theorem conc127 : Program.concrete Tryd.prog 127 = true := by kernel_rfl
theorem undS127 : (Program.underlying Tryd.prog 127).isSome = true := by kernel_rfl
theorem intT127 : intT Tryd.prog 127 = some .u32 := by kernel_rfl
theorem elT127 : elT Tryd.prog 127 = none := by kernel_rfl
theorem azT127 : azT Tryd.prog 127 = some (1, 1, [.int .u32 0]) := by kernel_rfl
theorem zeroT127 : zeroT Tryd.prog 127 = some [.int .u32 0] := by kernel_rfl
theorem szT128 : szT Tryd.prog 128 = some (1, false) := by kernel_rfl
theorem zT128 : zT Tryd.prog 128 = false := by kernel_rfl
theorem arT128 : arT Tryd.prog 128 = none := by kernel_rfl
theorem conc128 : Program.concrete Tryd.prog 128 = true := by kernel_rfl
theorem szT129 : szT Tryd.prog 129 = some (1, false) := by kernel_rfl
theorem zT129 : zT Tryd.prog 129 = false := by kernel_rfl
theorem arT129 : arT Tryd.prog 129 = none := by kernel_rfl
theorem conc129 : Program.concrete Tryd.prog 129 = true := by kernel_rfl
theorem undS129 : (Program.underlying Tryd.prog 129).isSome = true := by kernel_rfl
theorem intT129 : intT Tryd.prog 129 = some .u64 := by kernel_rfl
theorem elT129 : elT Tryd.prog 129 = none := by kernel_rfl
theorem azT129 : azT Tryd.prog 129 = some (1, 1, [.int .u64 0]) := by kernel_rfl
theorem zeroT129 : zeroT Tryd.prog 129 = some [.int .u64 0] := by kernel_rfl
theorem szT130 : szT Tryd.prog 130 = some (32, true) := by kernel_rfl
theorem zT130 : zT Tryd.prog 130 = false := by kernel_rfl
theorem conc130 : Program.concrete Tryd.prog 130 = true := by kernel_rfl
theorem undS130 : (Program.underlying Tryd.prog 130).isSome = true := by kernel_rfl
theorem elT130 : elT Tryd.prog 130 = none := by kernel_rfl
theorem arT130 : arT Tryd.prog 130 = some (32, 1, false) := by kernel_rfl
theorem azT130 : azT Tryd.prog 130 = some (1, 32, [.int .u8 0]) := by kernel_rfl
theorem szT131 : szT Tryd.prog 131 = some (64, true) := by kernel_rfl
theorem zT131 : zT Tryd.prog 131 = false := by kernel_rfl
theorem conc131 : Program.concrete Tryd.prog 131 = true := by kernel_rfl
theorem undS131 : (Program.underlying Tryd.prog 131).isSome = true := by kernel_rfl
theorem elT131 : elT Tryd.prog 131 = none := by kernel_rfl
theorem arT131 : arT Tryd.prog 131 = some (64, 1, false) := by kernel_rfl
theorem azT131 : azT Tryd.prog 131 = some (1, 64, [.int .u8 0]) := by kernel_rfl
theorem szT132 : szT Tryd.prog 132 = some (1, false) := by kernel_rfl
theorem zT132 : zT Tryd.prog 132 = false := by kernel_rfl
theorem arT132 : arT Tryd.prog 132 = none := by kernel_rfl
theorem conc132 : Program.concrete Tryd.prog 132 = true := by kernel_rfl
theorem szT138 : szT Tryd.prog 138 = some (1, false) := by kernel_rfl
theorem zT138 : zT Tryd.prog 138 = false := by kernel_rfl
theorem arT138 : arT Tryd.prog 138 = none := by kernel_rfl
theorem conc138 : Program.concrete Tryd.prog 138 = true := by kernel_rfl
theorem szT141 : szT Tryd.prog 141 = some (1, false) := by kernel_rfl
theorem zT141 : zT Tryd.prog 141 = false := by kernel_rfl
theorem arT141 : arT Tryd.prog 141 = none := by kernel_rfl
theorem conc141 : Program.concrete Tryd.prog 141 = true := by kernel_rfl
theorem szT142 : szT Tryd.prog 142 = some (1, false) := by kernel_rfl
theorem zT142 : zT Tryd.prog 142 = false := by kernel_rfl
theorem zeroT142 : azT Tryd.prog 142 = some (1, 1, [.pointer none]) := by kernel_rfl
theorem arT142 : arT Tryd.prog 142 = none := by kernel_rfl
theorem conc142 : Program.concrete Tryd.prog 142 = true := by kernel_rfl
theorem szT147 : szT Tryd.prog 147 = some (1, false) := by kernel_rfl
theorem zT147 : zT Tryd.prog 147 = false := by kernel_rfl
theorem arT147 : arT Tryd.prog 147 = none := by kernel_rfl
theorem conc147 : Program.concrete Tryd.prog 147 = true := by kernel_rfl
theorem szT148 : szT Tryd.prog 148 = some (1, false) := by kernel_rfl
theorem zT148 : zT Tryd.prog 148 = false := by kernel_rfl
theorem arT148 : arT Tryd.prog 148 = none := by kernel_rfl
theorem conc148 : Program.concrete Tryd.prog 148 = true := by kernel_rfl
theorem undS148 : (Program.underlying Tryd.prog 148).isSome = true := by kernel_rfl
theorem elT148 : elT Tryd.prog 148 = none := by kernel_rfl
theorem azT148 : azT Tryd.prog 148 = some (1, 1, [.pointer none]) := by kernel_rfl
theorem zeroT148 : zeroT Tryd.prog 148 = some [.pointer none] := by kernel_rfl
theorem fldT86_0 : fldT Tryd.prog 86 0 = none := by kernel_rfl
theorem zfT86 : zfT Tryd.prog 86 0 86 = true := by kernel_rfl
theorem wtAll : type_of% (And.intro (And.intro (And.intro (And.intro (And.intro (And.intro (And.intro (And.intro (And.intro (@boolT4) (@ifcT20)) (And.intro (@ifcT116) (And.intro (@ifcT117) (@szT1)))) (And.intro (And.intro (@zT1) (And.intro (@arT1) (@conc1))) (And.intro (@szT2) (And.intro (@zT2) (@arT2))))) (And.intro (And.intro (And.intro (@conc2) (@undS2)) (And.intro (@intT2) (And.intro (@elT2) (@azT2)))) (And.intro (And.intro (@zeroT2) (And.intro (@szT3) (@zT3))) (And.intro (@arT3) (And.intro (@conc3) (@undS3)))))) (And.intro (And.intro (And.intro (And.intro (@intT3) (@elT3)) (And.intro (@azT3) (And.intro (@zeroT3) (@szT4)))) (And.intro (And.intro (@zT4) (And.intro (@arT4) (@conc4))) (And.intro (@undS4) (And.intro (@elT4) (@azT4))))) (And.intro (And.intro (And.intro (@zeroT4) (And.intro (@szT5) (@zT5))) (And.intro (@arT5) (And.intro (@conc5) (@undS5)))) (And.intro (And.intro (@intT5) (And.intro (@elT5) (@azT5))) (And.intro (@zeroT5) (And.intro (@szT12) (@zT12))))))) (And.intro (And.intro (And.intro (And.intro (And.intro (@arT12) (@conc12)) (And.intro (@undS12) (And.intro (@intT12) (@elT12)))) (And.intro (And.intro (@azT12) (And.intro (@zeroT12) (@szT13))) (And.intro (@zT13) (And.intro (@arT13) (@conc13))))) (And.intro (And.intro (And.intro (@undS13) (And.intro (@elT13) (@azT13))) (And.intro (@zeroT13) (And.intro (@bT13) (@fldT13_0)))) (And.intro (And.intro (@fldT13_1) (And.intro (@szT20) (@zT20))) (And.intro (@arT20) (And.intro (@szT21) (@zT21)))))) (And.intro (And.intro (And.intro (And.intro (@arT21) (@conc21)) (And.intro (@undS21) (And.intro (@intT21) (@elT21)))) (And.intro (And.intro (@azT21) (And.intro (@zeroT21) (@szT22))) (And.intro (@zT22) (And.intro (@arT22) (@conc22))))) (And.intro (And.intro (And.intro (@undS22) (And.intro (@elT22) (@elB22))) (And.intro (@bsT22) (And.intro (@mkT22) (@azT22)))) (And.intro (And.intro (@zeroT22) (And.intro (@szT23) (@zT23))) (And.intro (@arT23) (And.intro (@conc23) (@undS23)))))))) (And.intro (And.intro (And.intro (And.intro (And.intro (And.intro (@elT23) (@elB23)) (And.intro (@bsT23) (And.intro (@mkT23) (@azT23)))) (And.intro (And.intro (@zeroT23) (And.intro (@szT24) (@zT24))) (And.intro (@arT24) (And.intro (@conc24) (@undS24))))) (And.intro (And.intro (And.intro (@elT24) (And.intro (@azT24) (@zeroT24))) (And.intro (@bT24) (And.intro (@fldT24_0) (@fldT24_1)))) (And.intro (And.intro (@szT25) (And.intro (@zT25) (@arT25))) (And.intro (@conc25) (And.intro (@undS25) (@elT25)))))) (And.intro (And.intro (And.intro (And.intro (@azT25) (@zeroT25)) (And.intro (@bT25) (And.intro (@fldT25_0) (@fldT25_1)))) (And.intro (And.intro (@szT26) (And.intro (@zT26) (@arT26))) (And.intro (@conc26) (And.intro (@undS26) (@elT26))))) (And.intro (And.intro (And.intro (@elB26) (And.intro (@bsT26) (@mkT26))) (And.intro (@azT26) (And.intro (@zeroT26) (@szT27)))) (And.intro (And.intro (@zT27) (And.intro (@arT27) (@conc27))) (And.intro (@szT28) (And.intro (@zT28) (@arT28))))))) (And.intro (And.intro (And.intro (And.intro (And.intro (@conc28) (@szT29)) (And.intro (@zT29) (And.intro (@arT29) (@conc29)))) (And.intro (And.intro (@undS29) (And.intro (@intT29) (@elT29))) (And.intro (@azT29) (And.intro (@zeroT29) (@szT31))))) (And.intro (And.intro (And.intro (@zT31) (And.intro (@arT31) (@conc31))) (And.intro (@szT33) (And.intro (@zT33) (@arT33)))) (And.intro (And.intro (@conc33) (And.intro (@szT34) (@zT34))) (And.intro (@arT34) (And.intro (@conc34) (@szT35)))))) (And.intro (And.intro (And.intro (And.intro (@zT35) (@arT35)) (And.intro (@conc35) (And.intro (@szT37) (@zT37)))) (And.intro (And.intro (@arT37) (And.intro (@conc37) (@szT38))) (And.intro (@zT38) (And.intro (@arT38) (@conc38))))) (And.intro (And.intro (And.intro (@szT39) (And.intro (@zT39) (@arT39))) (And.intro (@conc39) (And.intro (@szT40) (@zT40)))) (And.intro (And.intro (@arT40) (And.intro (@conc40) (@szT41))) (And.intro (@zT41) (And.intro (@arT41) (@conc41))))))))) (And.intro (And.intro (And.intro (And.intro (And.intro (And.intro (And.intro (@undS41) (@intT41)) (And.intro (@elT41) (And.intro (@azT41) (@zeroT41)))) (And.intro (And.intro (@szT42) (And.intro (@zT42) (@arT42))) (And.intro (@conc42) (And.intro (@undS42) (@elT42))))) (And.intro (And.intro (And.intro (@elB42) (@bsT42)) (And.intro (@mkT42) (And.intro (@azT42) (@zeroT42)))) (And.intro (And.intro (@szT43) (And.intro (@zT43) (@arT43))) (And.intro (@conc43) (And.intro (@szT44) (@zT44)))))) (And.intro (And.intro (And.intro (And.intro (@arT44) (@conc44)) (And.intro (@szT45) (And.intro (@zT45) (@arT45)))) (And.intro (And.intro (@conc45) (And.intro (@szT46) (@zT46))) (And.intro (@arT46) (And.intro (@conc46) (@undS46))))) (And.intro (And.intro (And.intro (@elT46) (And.intro (@elB46) (@bsT46))) (And.intro (@mkT46) (And.intro (@azT46) (@zeroT46)))) (And.intro (And.intro (@szT47) (And.intro (@zT47) (@arT47))) (And.intro (@conc47) (And.intro (@szT48) (@zT48))))))) (And.intro (And.intro (And.intro (And.intro (And.intro (@arT48) (@conc48)) (And.intro (@szT49) (And.intro (@zT49) (@arT49)))) (And.intro (And.intro (@conc49) (And.intro (@szT50) (@zT50))) (And.intro (@arT50) (And.intro (@conc50) (@undS50))))) (And.intro (And.intro (And.intro (@elT50) (And.intro (@azT50) (@zeroT50))) (And.intro (@bT50) (And.intro (@fldT50_0) (@fldT50_1)))) (And.intro (And.intro (@szT51) (And.intro (@zT51) (@arT51))) (And.intro (@conc51) (And.intro (@undS51) (@elT51)))))) (And.intro (And.intro (And.intro (And.intro (@azT51) (@zeroT51)) (And.intro (@bT51) (And.intro (@fldT51_0) (@fldT51_1)))) (And.intro (And.intro (@szT52) (And.intro (@zT52) (@arT52))) (And.intro (@conc52) (And.intro (@szT53) (@zT53))))) (And.intro (And.intro (And.intro (@arT53) (And.intro (@conc53) (@undS53))) (And.intro (@elT53) (And.intro (@azT53) (@zeroT53)))) (And.intro (And.intro (@bT53) (And.intro (@fldT53_0) (@fldT53_1))) (And.intro (@fldT53_2) (And.intro (@szT54) (@zT54)))))))) (And.intro (And.intro (And.intro (And.intro (And.intro (And.intro (@arT54) (@conc54)) (And.intro (@undS54) (And.intro (@elT54) (@azT54)))) (And.intro (And.intro (@zeroT54) (And.intro (@bT54) (@fldT54_0))) (And.intro (@fldT54_1) (And.intro (@fldT54_2) (@szT55))))) (And.intro (And.intro (And.intro (@zT55) (And.intro (@arT55) (@conc55))) (And.intro (@undS55) (And.intro (@elT55) (@elB55)))) (And.intro (And.intro (@bsT55) (And.intro (@mkT55) (@azT55))) (And.intro (@zeroT55) (And.intro (@szT56) (@zT56)))))) (And.intro (And.intro (And.intro (And.intro (@arT56) (@conc56)) (And.intro (@szT58) (And.intro (@zT58) (@arT58)))) (And.intro (And.intro (@conc58) (And.intro (@szT59) (@zT59))) (And.intro (@arT59) (And.intro (@conc59) (@szT60))))) (And.intro (And.intro (And.intro (@zT60) (And.intro (@arT60) (@conc60))) (And.intro (@szT61) (And.intro (@zT61) (@arT61)))) (And.intro (And.intro (@conc61) (And.intro (@szT62) (@zT62))) (And.intro (@arT62) (And.intro (@conc62) (@szT63))))))) (And.intro (And.intro (And.intro (And.intro (And.intro (@zT63) (@arT63)) (And.intro (@conc63) (And.intro (@szT64) (@zT64)))) (And.intro (And.intro (@arT64) (And.intro (@conc64) (@szT65))) (And.intro (@zT65) (And.intro (@zeroT65) (@arT65))))) (And.intro (And.intro (And.intro (@conc65) (And.intro (@szT66) (@zT66))) (And.intro (@arT66) (And.intro (@conc66) (@szT67)))) (And.intro (And.intro (@zT67) (And.intro (@arT67) (@conc67))) (And.intro (@szT68) (And.intro (@zT68) (@zeroT68)))))) (And.intro (And.intro (And.intro (And.intro (@arT68) (@conc68)) (And.intro (@szT69) (And.intro (@zT69) (@zeroT69)))) (And.intro (And.intro (@arT69) (And.intro (@conc69) (@szT70))) (And.intro (@zT70) (And.intro (@arT70) (@conc70))))) (And.intro (And.intro (And.intro (@szT71) (And.intro (@zT71) (@arT71))) (And.intro (@conc71) (And.intro (@szT72) (@zT72)))) (And.intro (And.intro (@arT72) (And.intro (@conc72) (@undS72))) (And.intro (@intT72) (And.intro (@elT72) (@azT72)))))))))) (And.intro (And.intro (And.intro (And.intro (And.intro (And.intro (And.intro (And.intro (@zeroT72) (@szT73)) (And.intro (@zT73) (And.intro (@arT73) (@conc73)))) (And.intro (And.intro (@undS73) (And.intro (@intT73) (@elT73))) (And.intro (@azT73) (And.intro (@zeroT73) (@szT74))))) (And.intro (And.intro (And.intro (@zT74) (@conc74)) (And.intro (@undS74) (And.intro (@elT74) (@arT74)))) (And.intro (And.intro (@azT74) (And.intro (@zeroT74) (@szT75))) (And.intro (@zT75) (And.intro (@conc75) (@undS75)))))) (And.intro (And.intro (And.intro (And.intro (@elT75) (@arT75)) (And.intro (@azT75) (And.intro (@zeroT75) (@szT76)))) (And.intro (And.intro (@zT76) (And.intro (@arT76) (@conc76))) (And.intro (@undS76) (And.intro (@elT76) (@azT76))))) (And.intro (And.intro (And.intro (@zeroT76) (And.intro (@bT76) (@fldT76_0))) (And.intro (@fldT76_1) (And.intro (@fldT76_2) (@szT77)))) (And.intro (And.intro (@zT77) (And.intro (@arT77) (@conc77))) (And.intro (@undS77) (And.intro (@elT77) (@azT77))))))) (And.intro (And.intro (And.intro (And.intro (And.intro (@zeroT77) (@bT77)) (And.intro (@fldT77_0) (And.intro (@fldT77_1) (@fldT77_2)))) (And.intro (And.intro (@szT78) (And.intro (@zT78) (@arT78))) (And.intro (@conc78) (And.intro (@szT79) (@zT79))))) (And.intro (And.intro (And.intro (@arT79) (And.intro (@conc79) (@szT80))) (And.intro (@zT80) (And.intro (@arT80) (@conc80)))) (And.intro (And.intro (@szT81) (And.intro (@zT81) (@arT81))) (And.intro (@conc81) (And.intro (@szT82) (@zT82)))))) (And.intro (And.intro (And.intro (And.intro (@arT82) (@conc82)) (And.intro (@szT83) (And.intro (@zT83) (@arT83)))) (And.intro (And.intro (@conc83) (And.intro (@undS83) (@elT83))) (And.intro (@azT83) (And.intro (@zeroT83) (@bT83))))) (And.intro (And.intro (And.intro (@szT84) (And.intro (@zT84) (@arT84))) (And.intro (@conc84) (And.intro (@undS84) (@elT84)))) (And.intro (And.intro (@azT84) (And.intro (@zeroT84) (@bT84))) (And.intro (@szT85) (And.intro (@zT85) (@arT85)))))))) (And.intro (And.intro (And.intro (And.intro (And.intro (And.intro (@conc85) (@undS85)) (And.intro (@elT85) (And.intro (@azT85) (@zeroT85)))) (And.intro (And.intro (@bT85) (And.intro (@szT86) (@zT86))) (And.intro (@arT86) (And.intro (@conc86) (@undS86))))) (And.intro (And.intro (And.intro (@elT86) (And.intro (@azT86) (@zeroT86))) (And.intro (@bT86) (And.intro (@szT87) (@zT87)))) (And.intro (And.intro (@arT87) (And.intro (@conc87) (@szT89))) (And.intro (@zT89) (And.intro (@arT89) (@conc89)))))) (And.intro (And.intro (And.intro (And.intro (@szT90) (@zT90)) (And.intro (@arT90) (And.intro (@conc90) (@szT91)))) (And.intro (And.intro (@zT91) (And.intro (@arT91) (@conc91))) (And.intro (@undS91) (And.intro (@elT91) (@azT91))))) (And.intro (And.intro (And.intro (@zeroT91) (And.intro (@bT91) (@fldT91_0))) (And.intro (@fldT91_1) (And.intro (@fldT91_2) (@szT92)))) (And.intro (And.intro (@zT92) (And.intro (@arT92) (@conc92))) (And.intro (@undS92) (And.intro (@elT92) (@azT92))))))) (And.intro (And.intro (And.intro (And.intro (And.intro (@zeroT92) (@bT92)) (And.intro (@fldT92_0) (And.intro (@fldT92_1) (@fldT92_2)))) (And.intro (And.intro (@szT93) (And.intro (@zT93) (@arT93))) (And.intro (@conc93) (And.intro (@undS93) (@elT93))))) (And.intro (And.intro (And.intro (@azT93) (And.intro (@zeroT93) (@bT93))) (And.intro (@fldT93_0) (And.intro (@fldT93_1) (@szT94)))) (And.intro (And.intro (@zT94) (And.intro (@arT94) (@conc94))) (And.intro (@undS94) (And.intro (@elT94) (@azT94)))))) (And.intro (And.intro (And.intro (And.intro (@zeroT94) (@bT94)) (And.intro (@fldT94_0) (And.intro (@fldT94_1) (@szT95)))) (And.intro (And.intro (@zT95) (And.intro (@arT95) (@conc95))) (And.intro (@szT97) (And.intro (@zT97) (@arT97))))) (And.intro (And.intro (And.intro (@conc97) (And.intro (@szT98) (@zT98))) (And.intro (@arT98) (And.intro (@conc98) (@szT100)))) (And.intro (And.intro (@zT100) (And.intro (@arT100) (@conc100))) (And.intro (@szT101) (And.intro (@zT101) (@arT101))))))))) (And.intro (And.intro (And.intro (And.intro (And.intro (And.intro (And.intro (@conc101) (@szT102)) (And.intro (@zT102) (And.intro (@arT102) (@conc102)))) (And.intro (And.intro (@szT103) (And.intro (@zT103) (@arT103))) (And.intro (@conc103) (And.intro (@szT104) (@zT104))))) (And.intro (And.intro (And.intro (@arT104) (And.intro (@conc104) (@szT105))) (And.intro (@zT105) (And.intro (@arT105) (@conc105)))) (And.intro (And.intro (@szT106) (And.intro (@zT106) (@arT106))) (And.intro (@conc106) (And.intro (@szT107) (@zT107)))))) (And.intro (And.intro (And.intro (And.intro (@arT107) (@conc107)) (And.intro (@szT108) (And.intro (@zT108) (@arT108)))) (And.intro (And.intro (@conc108) (And.intro (@undS108) (@elT108))) (And.intro (@azT108) (And.intro (@zeroT108) (@bT108))))) (And.intro (And.intro (And.intro (@fldT108_0) (And.intro (@szT109) (@zT109))) (And.intro (@arT109) (And.intro (@conc109) (@undS109)))) (And.intro (And.intro (@elT109) (And.intro (@azT109) (@zeroT109))) (And.intro (@bT109) (And.intro (@fldT109_0) (@szT111))))))) (And.intro (And.intro (And.intro (And.intro (And.intro (@zT111) (@arT111)) (And.intro (@conc111) (And.intro (@szT112) (@zT112)))) (And.intro (And.intro (@arT112) (And.intro (@conc112) (@szT113))) (And.intro (@zT113) (And.intro (@arT113) (@conc113))))) (And.intro (And.intro (And.intro (@szT114) (And.intro (@zT114) (@arT114))) (And.intro (@conc114) (And.intro (@szT115) (@zT115)))) (And.intro (And.intro (@arT115) (And.intro (@conc115) (@szT116))) (And.intro (@zT116) (And.intro (@arT116) (@szT117)))))) (And.intro (And.intro (And.intro (And.intro (@zT117) (@arT117)) (And.intro (@szT118) (And.intro (@zT118) (@arT118)))) (And.intro (And.intro (@conc118) (And.intro (@szT119) (@zT119))) (And.intro (@arT119) (And.intro (@conc119) (@szT120))))) (And.intro (And.intro (And.intro (@zT120) (And.intro (@arT120) (@conc120))) (And.intro (@szT121) (And.intro (@zT121) (@arT121)))) (And.intro (And.intro (@conc121) (And.intro (@undS121) (@elT121))) (And.intro (@azT121) (And.intro (@zeroT121) (@bT121)))))))) (And.intro (And.intro (And.intro (And.intro (And.intro (And.intro (@fldT121_0) (@fldT121_1)) (And.intro (@szT122) (And.intro (@zT122) (@arT122)))) (And.intro (And.intro (@conc122) (And.intro (@undS122) (@elT122))) (And.intro (@azT122) (And.intro (@zeroT122) (@bT122))))) (And.intro (And.intro (And.intro (@fldT122_0) (And.intro (@fldT122_1) (@szT124))) (And.intro (@zT124) (And.intro (@arT124) (@conc124)))) (And.intro (And.intro (@szT125) (And.intro (@zT125) (@arT125))) (And.intro (@conc125) (And.intro (@szT126) (@zT126)))))) (And.intro (And.intro (And.intro (And.intro (@arT126) (@conc126)) (And.intro (@szT127) (And.intro (@zT127) (@arT127)))) (And.intro (And.intro (@conc127) (And.intro (@undS127) (@intT127))) (And.intro (@elT127) (And.intro (@azT127) (@zeroT127))))) (And.intro (And.intro (And.intro (@szT128) (And.intro (@zT128) (@arT128))) (And.intro (@conc128) (And.intro (@szT129) (@zT129)))) (And.intro (And.intro (@arT129) (And.intro (@conc129) (@undS129))) (And.intro (@intT129) (And.intro (@elT129) (@azT129))))))) (And.intro (And.intro (And.intro (And.intro (And.intro (@zeroT129) (@szT130)) (And.intro (@zT130) (And.intro (@conc130) (@undS130)))) (And.intro (And.intro (@elT130) (And.intro (@arT130) (@azT130))) (And.intro (@szT131) (And.intro (@zT131) (@conc131))))) (And.intro (And.intro (And.intro (@undS131) (And.intro (@elT131) (@arT131))) (And.intro (@azT131) (And.intro (@szT132) (@zT132)))) (And.intro (And.intro (@arT132) (And.intro (@conc132) (@szT138))) (And.intro (@zT138) (And.intro (@arT138) (@conc138)))))) (And.intro (And.intro (And.intro (And.intro (@szT141) (@zT141)) (And.intro (@arT141) (And.intro (@conc141) (@szT142)))) (And.intro (And.intro (@zT142) (And.intro (@zeroT142) (@arT142))) (And.intro (@conc142) (And.intro (@szT147) (@zT147))))) (And.intro (And.intro (And.intro (@arT147) (And.intro (@conc147) (@szT148))) (And.intro (@zT148) (And.intro (@arT148) (@conc148)))) (And.intro (And.intro (@undS148) (And.intro (@elT148) (@azT148))) (And.intro (@zeroT148) (And.intro (@fldT86_0) (@zfT86))))))))))) := And.intro (And.intro (And.intro (And.intro (And.intro (And.intro (And.intro (And.intro (And.intro (@boolT4) (@ifcT20)) (And.intro (@ifcT116) (And.intro (@ifcT117) (@szT1)))) (And.intro (And.intro (@zT1) (And.intro (@arT1) (@conc1))) (And.intro (@szT2) (And.intro (@zT2) (@arT2))))) (And.intro (And.intro (And.intro (@conc2) (@undS2)) (And.intro (@intT2) (And.intro (@elT2) (@azT2)))) (And.intro (And.intro (@zeroT2) (And.intro (@szT3) (@zT3))) (And.intro (@arT3) (And.intro (@conc3) (@undS3)))))) (And.intro (And.intro (And.intro (And.intro (@intT3) (@elT3)) (And.intro (@azT3) (And.intro (@zeroT3) (@szT4)))) (And.intro (And.intro (@zT4) (And.intro (@arT4) (@conc4))) (And.intro (@undS4) (And.intro (@elT4) (@azT4))))) (And.intro (And.intro (And.intro (@zeroT4) (And.intro (@szT5) (@zT5))) (And.intro (@arT5) (And.intro (@conc5) (@undS5)))) (And.intro (And.intro (@intT5) (And.intro (@elT5) (@azT5))) (And.intro (@zeroT5) (And.intro (@szT12) (@zT12))))))) (And.intro (And.intro (And.intro (And.intro (And.intro (@arT12) (@conc12)) (And.intro (@undS12) (And.intro (@intT12) (@elT12)))) (And.intro (And.intro (@azT12) (And.intro (@zeroT12) (@szT13))) (And.intro (@zT13) (And.intro (@arT13) (@conc13))))) (And.intro (And.intro (And.intro (@undS13) (And.intro (@elT13) (@azT13))) (And.intro (@zeroT13) (And.intro (@bT13) (@fldT13_0)))) (And.intro (And.intro (@fldT13_1) (And.intro (@szT20) (@zT20))) (And.intro (@arT20) (And.intro (@szT21) (@zT21)))))) (And.intro (And.intro (And.intro (And.intro (@arT21) (@conc21)) (And.intro (@undS21) (And.intro (@intT21) (@elT21)))) (And.intro (And.intro (@azT21) (And.intro (@zeroT21) (@szT22))) (And.intro (@zT22) (And.intro (@arT22) (@conc22))))) (And.intro (And.intro (And.intro (@undS22) (And.intro (@elT22) (@elB22))) (And.intro (@bsT22) (And.intro (@mkT22) (@azT22)))) (And.intro (And.intro (@zeroT22) (And.intro (@szT23) (@zT23))) (And.intro (@arT23) (And.intro (@conc23) (@undS23)))))))) (And.intro (And.intro (And.intro (And.intro (And.intro (And.intro (@elT23) (@elB23)) (And.intro (@bsT23) (And.intro (@mkT23) (@azT23)))) (And.intro (And.intro (@zeroT23) (And.intro (@szT24) (@zT24))) (And.intro (@arT24) (And.intro (@conc24) (@undS24))))) (And.intro (And.intro (And.intro (@elT24) (And.intro (@azT24) (@zeroT24))) (And.intro (@bT24) (And.intro (@fldT24_0) (@fldT24_1)))) (And.intro (And.intro (@szT25) (And.intro (@zT25) (@arT25))) (And.intro (@conc25) (And.intro (@undS25) (@elT25)))))) (And.intro (And.intro (And.intro (And.intro (@azT25) (@zeroT25)) (And.intro (@bT25) (And.intro (@fldT25_0) (@fldT25_1)))) (And.intro (And.intro (@szT26) (And.intro (@zT26) (@arT26))) (And.intro (@conc26) (And.intro (@undS26) (@elT26))))) (And.intro (And.intro (And.intro (@elB26) (And.intro (@bsT26) (@mkT26))) (And.intro (@azT26) (And.intro (@zeroT26) (@szT27)))) (And.intro (And.intro (@zT27) (And.intro (@arT27) (@conc27))) (And.intro (@szT28) (And.intro (@zT28) (@arT28))))))) (And.intro (And.intro (And.intro (And.intro (And.intro (@conc28) (@szT29)) (And.intro (@zT29) (And.intro (@arT29) (@conc29)))) (And.intro (And.intro (@undS29) (And.intro (@intT29) (@elT29))) (And.intro (@azT29) (And.intro (@zeroT29) (@szT31))))) (And.intro (And.intro (And.intro (@zT31) (And.intro (@arT31) (@conc31))) (And.intro (@szT33) (And.intro (@zT33) (@arT33)))) (And.intro (And.intro (@conc33) (And.intro (@szT34) (@zT34))) (And.intro (@arT34) (And.intro (@conc34) (@szT35)))))) (And.intro (And.intro (And.intro (And.intro (@zT35) (@arT35)) (And.intro (@conc35) (And.intro (@szT37) (@zT37)))) (And.intro (And.intro (@arT37) (And.intro (@conc37) (@szT38))) (And.intro (@zT38) (And.intro (@arT38) (@conc38))))) (And.intro (And.intro (And.intro (@szT39) (And.intro (@zT39) (@arT39))) (And.intro (@conc39) (And.intro (@szT40) (@zT40)))) (And.intro (And.intro (@arT40) (And.intro (@conc40) (@szT41))) (And.intro (@zT41) (And.intro (@arT41) (@conc41))))))))) (And.intro (And.intro (And.intro (And.intro (And.intro (And.intro (And.intro (@undS41) (@intT41)) (And.intro (@elT41) (And.intro (@azT41) (@zeroT41)))) (And.intro (And.intro (@szT42) (And.intro (@zT42) (@arT42))) (And.intro (@conc42) (And.intro (@undS42) (@elT42))))) (And.intro (And.intro (And.intro (@elB42) (@bsT42)) (And.intro (@mkT42) (And.intro (@azT42) (@zeroT42)))) (And.intro (And.intro (@szT43) (And.intro (@zT43) (@arT43))) (And.intro (@conc43) (And.intro (@szT44) (@zT44)))))) (And.intro (And.intro (And.intro (And.intro (@arT44) (@conc44)) (And.intro (@szT45) (And.intro (@zT45) (@arT45)))) (And.intro (And.intro (@conc45) (And.intro (@szT46) (@zT46))) (And.intro (@arT46) (And.intro (@conc46) (@undS46))))) (And.intro (And.intro (And.intro (@elT46) (And.intro (@elB46) (@bsT46))) (And.intro (@mkT46) (And.intro (@azT46) (@zeroT46)))) (And.intro (And.intro (@szT47) (And.intro (@zT47) (@arT47))) (And.intro (@conc47) (And.intro (@szT48) (@zT48))))))) (And.intro (And.intro (And.intro (And.intro (And.intro (@arT48) (@conc48)) (And.intro (@szT49) (And.intro (@zT49) (@arT49)))) (And.intro (And.intro (@conc49) (And.intro (@szT50) (@zT50))) (And.intro (@arT50) (And.intro (@conc50) (@undS50))))) (And.intro (And.intro (And.intro (@elT50) (And.intro (@azT50) (@zeroT50))) (And.intro (@bT50) (And.intro (@fldT50_0) (@fldT50_1)))) (And.intro (And.intro (@szT51) (And.intro (@zT51) (@arT51))) (And.intro (@conc51) (And.intro (@undS51) (@elT51)))))) (And.intro (And.intro (And.intro (And.intro (@azT51) (@zeroT51)) (And.intro (@bT51) (And.intro (@fldT51_0) (@fldT51_1)))) (And.intro (And.intro (@szT52) (And.intro (@zT52) (@arT52))) (And.intro (@conc52) (And.intro (@szT53) (@zT53))))) (And.intro (And.intro (And.intro (@arT53) (And.intro (@conc53) (@undS53))) (And.intro (@elT53) (And.intro (@azT53) (@zeroT53)))) (And.intro (And.intro (@bT53) (And.intro (@fldT53_0) (@fldT53_1))) (And.intro (@fldT53_2) (And.intro (@szT54) (@zT54)))))))) (And.intro (And.intro (And.intro (And.intro (And.intro (And.intro (@arT54) (@conc54)) (And.intro (@undS54) (And.intro (@elT54) (@azT54)))) (And.intro (And.intro (@zeroT54) (And.intro (@bT54) (@fldT54_0))) (And.intro (@fldT54_1) (And.intro (@fldT54_2) (@szT55))))) (And.intro (And.intro (And.intro (@zT55) (And.intro (@arT55) (@conc55))) (And.intro (@undS55) (And.intro (@elT55) (@elB55)))) (And.intro (And.intro (@bsT55) (And.intro (@mkT55) (@azT55))) (And.intro (@zeroT55) (And.intro (@szT56) (@zT56)))))) (And.intro (And.intro (And.intro (And.intro (@arT56) (@conc56)) (And.intro (@szT58) (And.intro (@zT58) (@arT58)))) (And.intro (And.intro (@conc58) (And.intro (@szT59) (@zT59))) (And.intro (@arT59) (And.intro (@conc59) (@szT60))))) (And.intro (And.intro (And.intro (@zT60) (And.intro (@arT60) (@conc60))) (And.intro (@szT61) (And.intro (@zT61) (@arT61)))) (And.intro (And.intro (@conc61) (And.intro (@szT62) (@zT62))) (And.intro (@arT62) (And.intro (@conc62) (@szT63))))))) (And.intro (And.intro (And.intro (And.intro (And.intro (@zT63) (@arT63)) (And.intro (@conc63) (And.intro (@szT64) (@zT64)))) (And.intro (And.intro (@arT64) (And.intro (@conc64) (@szT65))) (And.intro (@zT65) (And.intro (@zeroT65) (@arT65))))) (And.intro (And.intro (And.intro (@conc65) (And.intro (@szT66) (@zT66))) (And.intro (@arT66) (And.intro (@conc66) (@szT67)))) (And.intro (And.intro (@zT67) (And.intro (@arT67) (@conc67))) (And.intro (@szT68) (And.intro (@zT68) (@zeroT68)))))) (And.intro (And.intro (And.intro (And.intro (@arT68) (@conc68)) (And.intro (@szT69) (And.intro (@zT69) (@zeroT69)))) (And.intro (And.intro (@arT69) (And.intro (@conc69) (@szT70))) (And.intro (@zT70) (And.intro (@arT70) (@conc70))))) (And.intro (And.intro (And.intro (@szT71) (And.intro (@zT71) (@arT71))) (And.intro (@conc71) (And.intro (@szT72) (@zT72)))) (And.intro (And.intro (@arT72) (And.intro (@conc72) (@undS72))) (And.intro (@intT72) (And.intro (@elT72) (@azT72)))))))))) (And.intro (And.intro (And.intro (And.intro (And.intro (And.intro (And.intro (And.intro (@zeroT72) (@szT73)) (And.intro (@zT73) (And.intro (@arT73) (@conc73)))) (And.intro (And.intro (@undS73) (And.intro (@intT73) (@elT73))) (And.intro (@azT73) (And.intro (@zeroT73) (@szT74))))) (And.intro (And.intro (And.intro (@zT74) (@conc74)) (And.intro (@undS74) (And.intro (@elT74) (@arT74)))) (And.intro (And.intro (@azT74) (And.intro (@zeroT74) (@szT75))) (And.intro (@zT75) (And.intro (@conc75) (@undS75)))))) (And.intro (And.intro (And.intro (And.intro (@elT75) (@arT75)) (And.intro (@azT75) (And.intro (@zeroT75) (@szT76)))) (And.intro (And.intro (@zT76) (And.intro (@arT76) (@conc76))) (And.intro (@undS76) (And.intro (@elT76) (@azT76))))) (And.intro (And.intro (And.intro (@zeroT76) (And.intro (@bT76) (@fldT76_0))) (And.intro (@fldT76_1) (And.intro (@fldT76_2) (@szT77)))) (And.intro (And.intro (@zT77) (And.intro (@arT77) (@conc77))) (And.intro (@undS77) (And.intro (@elT77) (@azT77))))))) (And.intro (And.intro (And.intro (And.intro (And.intro (@zeroT77) (@bT77)) (And.intro (@fldT77_0) (And.intro (@fldT77_1) (@fldT77_2)))) (And.intro (And.intro (@szT78) (And.intro (@zT78) (@arT78))) (And.intro (@conc78) (And.intro (@szT79) (@zT79))))) (And.intro (And.intro (And.intro (@arT79) (And.intro (@conc79) (@szT80))) (And.intro (@zT80) (And.intro (@arT80) (@conc80)))) (And.intro (And.intro (@szT81) (And.intro (@zT81) (@arT81))) (And.intro (@conc81) (And.intro (@szT82) (@zT82)))))) (And.intro (And.intro (And.intro (And.intro (@arT82) (@conc82)) (And.intro (@szT83) (And.intro (@zT83) (@arT83)))) (And.intro (And.intro (@conc83) (And.intro (@undS83) (@elT83))) (And.intro (@azT83) (And.intro (@zeroT83) (@bT83))))) (And.intro (And.intro (And.intro (@szT84) (And.intro (@zT84) (@arT84))) (And.intro (@conc84) (And.intro (@undS84) (@elT84)))) (And.intro (And.intro (@azT84) (And.intro (@zeroT84) (@bT84))) (And.intro (@szT85) (And.intro (@zT85) (@arT85)))))))) (And.intro (And.intro (And.intro (And.intro (And.intro (And.intro (@conc85) (@undS85)) (And.intro (@elT85) (And.intro (@azT85) (@zeroT85)))) (And.intro (And.intro (@bT85) (And.intro (@szT86) (@zT86))) (And.intro (@arT86) (And.intro (@conc86) (@undS86))))) (And.intro (And.intro (And.intro (@elT86) (And.intro (@azT86) (@zeroT86))) (And.intro (@bT86) (And.intro (@szT87) (@zT87)))) (And.intro (And.intro (@arT87) (And.intro (@conc87) (@szT89))) (And.intro (@zT89) (And.intro (@arT89) (@conc89)))))) (And.intro (And.intro (And.intro (And.intro (@szT90) (@zT90)) (And.intro (@arT90) (And.intro (@conc90) (@szT91)))) (And.intro (And.intro (@zT91) (And.intro (@arT91) (@conc91))) (And.intro (@undS91) (And.intro (@elT91) (@azT91))))) (And.intro (And.intro (And.intro (@zeroT91) (And.intro (@bT91) (@fldT91_0))) (And.intro (@fldT91_1) (And.intro (@fldT91_2) (@szT92)))) (And.intro (And.intro (@zT92) (And.intro (@arT92) (@conc92))) (And.intro (@undS92) (And.intro (@elT92) (@azT92))))))) (And.intro (And.intro (And.intro (And.intro (And.intro (@zeroT92) (@bT92)) (And.intro (@fldT92_0) (And.intro (@fldT92_1) (@fldT92_2)))) (And.intro (And.intro (@szT93) (And.intro (@zT93) (@arT93))) (And.intro (@conc93) (And.intro (@undS93) (@elT93))))) (And.intro (And.intro (And.intro (@azT93) (And.intro (@zeroT93) (@bT93))) (And.intro (@fldT93_0) (And.intro (@fldT93_1) (@szT94)))) (And.intro (And.intro (@zT94) (And.intro (@arT94) (@conc94))) (And.intro (@undS94) (And.intro (@elT94) (@azT94)))))) (And.intro (And.intro (And.intro (And.intro (@zeroT94) (@bT94)) (And.intro (@fldT94_0) (And.intro (@fldT94_1) (@szT95)))) (And.intro (And.intro (@zT95) (And.intro (@arT95) (@conc95))) (And.intro (@szT97) (And.intro (@zT97) (@arT97))))) (And.intro (And.intro (And.intro (@conc97) (And.intro (@szT98) (@zT98))) (And.intro (@arT98) (And.intro (@conc98) (@szT100)))) (And.intro (And.intro (@zT100) (And.intro (@arT100) (@conc100))) (And.intro (@szT101) (And.intro (@zT101) (@arT101))))))))) (And.intro (And.intro (And.intro (And.intro (And.intro (And.intro (And.intro (@conc101) (@szT102)) (And.intro (@zT102) (And.intro (@arT102) (@conc102)))) (And.intro (And.intro (@szT103) (And.intro (@zT103) (@arT103))) (And.intro (@conc103) (And.intro (@szT104) (@zT104))))) (And.intro (And.intro (And.intro (@arT104) (And.intro (@conc104) (@szT105))) (And.intro (@zT105) (And.intro (@arT105) (@conc105)))) (And.intro (And.intro (@szT106) (And.intro (@zT106) (@arT106))) (And.intro (@conc106) (And.intro (@szT107) (@zT107)))))) (And.intro (And.intro (And.intro (And.intro (@arT107) (@conc107)) (And.intro (@szT108) (And.intro (@zT108) (@arT108)))) (And.intro (And.intro (@conc108) (And.intro (@undS108) (@elT108))) (And.intro (@azT108) (And.intro (@zeroT108) (@bT108))))) (And.intro (And.intro (And.intro (@fldT108_0) (And.intro (@szT109) (@zT109))) (And.intro (@arT109) (And.intro (@conc109) (@undS109)))) (And.intro (And.intro (@elT109) (And.intro (@azT109) (@zeroT109))) (And.intro (@bT109) (And.intro (@fldT109_0) (@szT111))))))) (And.intro (And.intro (And.intro (And.intro (And.intro (@zT111) (@arT111)) (And.intro (@conc111) (And.intro (@szT112) (@zT112)))) (And.intro (And.intro (@arT112) (And.intro (@conc112) (@szT113))) (And.intro (@zT113) (And.intro (@arT113) (@conc113))))) (And.intro (And.intro (And.intro (@szT114) (And.intro (@zT114) (@arT114))) (And.intro (@conc114) (And.intro (@szT115) (@zT115)))) (And.intro (And.intro (@arT115) (And.intro (@conc115) (@szT116))) (And.intro (@zT116) (And.intro (@arT116) (@szT117)))))) (And.intro (And.intro (And.intro (And.intro (@zT117) (@arT117)) (And.intro (@szT118) (And.intro (@zT118) (@arT118)))) (And.intro (And.intro (@conc118) (And.intro (@szT119) (@zT119))) (And.intro (@arT119) (And.intro (@conc119) (@szT120))))) (And.intro (And.intro (And.intro (@zT120) (And.intro (@arT120) (@conc120))) (And.intro (@szT121) (And.intro (@zT121) (@arT121)))) (And.intro (And.intro (@conc121) (And.intro (@undS121) (@elT121))) (And.intro (@azT121) (And.intro (@zeroT121) (@bT121)))))))) (And.intro (And.intro (And.intro (And.intro (And.intro (And.intro (@fldT121_0) (@fldT121_1)) (And.intro (@szT122) (And.intro (@zT122) (@arT122)))) (And.intro (And.intro (@conc122) (And.intro (@undS122) (@elT122))) (And.intro (@azT122) (And.intro (@zeroT122) (@bT122))))) (And.intro (And.intro (And.intro (@fldT122_0) (And.intro (@fldT122_1) (@szT124))) (And.intro (@zT124) (And.intro (@arT124) (@conc124)))) (And.intro (And.intro (@szT125) (And.intro (@zT125) (@arT125))) (And.intro (@conc125) (And.intro (@szT126) (@zT126)))))) (And.intro (And.intro (And.intro (And.intro (@arT126) (@conc126)) (And.intro (@szT127) (And.intro (@zT127) (@arT127)))) (And.intro (And.intro (@conc127) (And.intro (@undS127) (@intT127))) (And.intro (@elT127) (And.intro (@azT127) (@zeroT127))))) (And.intro (And.intro (And.intro (@szT128) (And.intro (@zT128) (@arT128))) (And.intro (@conc128) (And.intro (@szT129) (@zT129)))) (And.intro (And.intro (@arT129) (And.intro (@conc129) (@undS129))) (And.intro (@intT129) (And.intro (@elT129) (@azT129))))))) (And.intro (And.intro (And.intro (And.intro (And.intro (@zeroT129) (@szT130)) (And.intro (@zT130) (And.intro (@conc130) (@undS130)))) (And.intro (And.intro (@elT130) (And.intro (@arT130) (@azT130))) (And.intro (@szT131) (And.intro (@zT131) (@conc131))))) (And.intro (And.intro (And.intro (@undS131) (And.intro (@elT131) (@arT131))) (And.intro (@azT131) (And.intro (@szT132) (@zT132)))) (And.intro (And.intro (@arT132) (And.intro (@conc132) (@szT138))) (And.intro (@zT138) (And.intro (@arT138) (@conc138)))))) (And.intro (And.intro (And.intro (And.intro (@szT141) (@zT141)) (And.intro (@arT141) (And.intro (@conc141) (@szT142)))) (And.intro (And.intro (@zT142) (And.intro (@zeroT142) (@arT142))) (And.intro (@conc142) (And.intro (@szT147) (@zT147))))) (And.intro (And.intro (And.intro (@arT147) (And.intro (@conc147) (@szT148))) (And.intro (@zT148) (And.intro (@arT148) (@conc148)))) (And.intro (And.intro (@undS148) (And.intro (@elT148) (@azT148))) (And.intro (@zeroT148) (And.intro (@fldT86_0) (@zfT86))))))))))
end Go.Proofs.YtnmgegodkmgdeaaDoor
end
section
set_option linter.unusedVariables false
set_option linter.unusedSimpArgs false
namespace Go.V
set_option linter.unusedSectionVars false
variable [Inhabited GivT]
theorem mapM_move {α β : Type} {f g : α → Option β} {Q : β → Prop} : ∀ (l : List α) (ys : List β), (∀ x ∈ l, ∀ y, f x = some y → Q y → g x = some y) → l.mapM f = some ys → (∀ y ∈ ys, Q y) → l.mapM g = some ys
  | [], ys, _, h, _ => by simpa using h
  | x :: l, ys, hfg, h, hq => by
    rw [List.mapM_cons] at h ⊢
    simp only [Option.bind_eq_bind, Option.bind_eq_some_iff, Option.pure_def, Option.some.injEq] at h ⊢
    obtain ⟨y, hy, zs, hz, rfl⟩ := h
    exact ⟨y, hfg x (by simp) y hy (hq y (by simp)), zs, mapM_move l zs (fun a ha => hfg a (by simp [ha])) hz (fun a ha => hq a (by simp [ha])), rfl⟩

theorem mapM_get {α β : Type} {f : α → Option β} : ∀ (l : List α) (ys : List β), l.mapM f = some ys → ys.length = l.length ∧ ∀ (i : Nat) (x : α), l[i]? = some x → ∃ y, ys[i]? = some y ∧ f x = some y
  | [], ys, h => by
    simp at h; subst h; simp
  | x :: l, ys, h => by
    rw [List.mapM_cons] at h
    simp only [Option.bind_eq_bind, Option.bind_eq_some_iff, Option.pure_def, Option.some.injEq] at h
    obtain ⟨y, hy, zs, hz, rfl⟩ := h
    obtain ⟨h1, h2⟩ := mapM_get l zs hz
    refine ⟨by simp [h1], fun i a ha => ?_⟩
    cases i with
    | zero => simp at ha; subst ha; exact ⟨y, by simp, hy⟩
    | succ i => simpa using h2 i a (by simpa using ha)

/-- Types of numbers, truths, structs and slices of such. -/
def goodT (P : Program) : Nat → TypeId → Bool
  | 0, _ => false
  | d + 1, t => match P.underlying t with
    | some .bool => true
    | some (.int _) => true
    | some (.struct fs) => fs.toList.all fun f => goodT P d f.type
    | some (.slice e) => decide (0 < P.cellsOf e) && goodT P d e
    | _ => false

theorem cell_move {W W' : World} (hh : ∀ b, b < W.heap.size → W'.heap[b]? = W.heap[b]?) {a : Addr} {v : Value} (h : W.cell? a = some v) : W'.cell? a = some v := by
  unfold World.cell? at h ⊢
  split at h
  · rename_i c e fz hb
    rw [hh _ (Array.getElem?_eq_some_iff.1 hb).1, hb]
    exact h
  · cases h

theorem cells_move {W W' : World} (hh : ∀ b, b < W.heap.size → W'.heap[b]? = W.heap[b]?) {base : Nat} {a : Addr} {n : Nat} {vs : List Value} (h : W.cells? base a n = some vs) : W'.cells? base a n = some vs := by
  unfold World.cells? at h ⊢
  split at h
  · rename_i hb
    rw [if_pos hb]
    exact mapM_move (Q := fun _ => True) _ _ (fun i _ y hy _ => cell_move hh hy) h (fun _ _ => trivial)
  · cases h

theorem trod_move {H : Type} {enc : TypeId × Value → H} {P : Program} {W W' : World} {held : Bool} (hh : ∀ b, b < W.heap.size → W'.heap[b]? = W.heap[b]?) {sp : Nat → Bool} :
    ∀ (d fuel : Nat) (t : TypeId) (cs : List Value) (x : DataW H × List MemPlace), goodT P d t = true → DataW.trod enc P W 0 (fun _ => true) held fuel t cs = some x → (∀ p ∈ x.2, sp p.block = true) →
      DataW.trod enc P W' 0 sp held fuel t cs = some x := by
  intro d
  induction d with
  | zero => intro fuel t cs x hg; cases hg
  | succ d ih =>
    intro fuel t cs x hg h hs
    cases fuel with
    | zero => cases h
    | succ fuel =>
      unfold goodT at hg
      unfold DataW.trod at h ⊢
      cases hu : P.underlying t with
      | none => rw [hu] at hg; cases hg
      | some td =>
        rw [hu] at hg h
        cases td <;> simp only at hg <;> try (exact absurd hg Bool.false_ne_true)
        case bool =>
          split at h <;> simp_all
        case int k =>
          split at h <;> simp_all
        case struct fs =>
          split at h <;> try (simp_all; done)
          case _ fs' heq =>
            simp only [Option.some.injEq, TypeDesc.struct.injEq] at heq
            subst heq
            split at h
            case isTrue hl =>
              rw [if_pos hl]
              rw [Option.map_eq_some_iff] at h ⊢
              obtain ⟨ys, hy, rfl⟩ := h
              refine ⟨ys, ?_, rfl⟩
              refine mapM_move (Q := fun y => ∀ p ∈ y.2, sp p.block = true) _ _ (fun f hf y hy hq => ?_) hy (fun y hy p hp => hs p (List.mem_flatMap.2 ⟨y, hy, hp⟩))
              exact ih fuel f.type _ y (List.all_eq_true.1 hg f hf) hy hq
            case isFalse hl => cases h
        case slice e =>
          simp only [Bool.and_eq_true, decide_eq_true_eq] at hg
          obtain ⟨hpos, hg⟩ := hg
          split at h <;> try (simp_all; done)
          case _ e' a len cap heq =>
            simp only [Option.some.injEq, TypeDesc.slice.injEq] at heq
            subst heq
            have hel : ∀ i y, (W.cells? 0 (a.add (i * P.cellsOf e)) (P.cellsOf e)).bind (DataW.trod enc P W 0 (fun _ => true) held fuel e) = some y → (∀ p ∈ y.2, sp p.block = true) →
                (W'.cells? 0 (a.add (i * P.cellsOf e)) (P.cellsOf e)).bind (DataW.trod enc P W' 0 sp held fuel e) = some y := by
              intro i y hy hq
              rw [Option.bind_eq_some_iff] at hy ⊢
              obtain ⟨c, h1, h2⟩ := hy
              exact ⟨c, cells_move hh h1, ih fuel e c y hg h2 hq⟩
            simp only at h ⊢
            split at h
            case isFalse hl => cases h
            case isTrue hl =>
              rw [if_pos hl]
              rw [Option.bind_eq_some_iff] at h ⊢
              obtain ⟨es, he, h⟩ := h
              rw [if_pos trivial, Option.map_eq_some_iff] at h
              obtain ⟨rs, hr, rfl⟩ := h
              have hs2 : ∀ y ∈ es ++ rs, ∀ p ∈ y.2, sp p.block = true := fun y hy p hp => hs p (List.mem_append.2 (.inr (List.mem_flatMap.2 ⟨y, hy, hp⟩)))
              refine ⟨es, mapM_move (Q := fun y => ∀ p ∈ y.2, sp p.block = true) _ _ (fun i _ y hy hq => hel i y hy hq) he (fun y hy => hs2 y (by simp [hy])), ?_⟩
              rw [Option.map_eq_some_iff]
              refine ⟨rs, ?_, rfl⟩
              have hrl := (mapM_get _ _ hr).1
              by_cases hz : es.length + rs.length = 0
              · have : rs = [] := List.eq_nil_of_length_eq_zero (by omega)
                subst this
                have hc : cap - len = 0 := by simpa using hrl.symm
                split
                · rw [hc]; rfl
                · rfl
              · have hsp : sp a.block = true := by
                  refine hs (.cell a.block (a.off + 0)) (List.mem_append.2 (.inl ?_))
                  unfold MemPlace.row
                  refine List.mem_map.2 ⟨0, List.mem_range.2 ?_, rfl⟩
                  exact Nat.mul_pos (by omega) hpos
                rw [if_pos hsp]
                exact mapM_move (Q := fun y => ∀ p ∈ y.2, sp p.block = true) _ _ (fun j _ y hy hq => hel _ y hy hq) hr (fun y hy => hs2 y (by simp [hy]))

theorem trodAll_move {H : Type} {enc : TypeId × Value → H} {P : Program} {W W' : World} {held : Bool} (hh : ∀ b, b < W.heap.size → W'.heap[b]? = W.heap[b]?) {sp : Nat → Bool} (d : Nat) :
    ∀ (ts : List TypeId) (vs : List Value) (ds : List (DataW H)) (ps : List MemPlace), (∀ t ∈ ts, goodT P d t = true) → DataW.TrodAll enc P W 0 (fun _ => true) held ts vs ds ps → (∀ p ∈ ps, sp p.block = true) →
      DataW.TrodAll enc P W' 0 sp held ts vs ds ps
  | [], [], [], ps, _, h, _ => h
  | t :: ts, v :: vs, x :: ds, ps, hg, h, hs => by
    obtain ⟨p, q, ⟨fuel, h1⟩, h2, rfl⟩ := h
    exact ⟨p, q, ⟨fuel, trod_move hh d fuel t _ (x, p) (hg t (by simp)) h1 (fun z hz => hs z (by simp [hz]))⟩, trodAll_move hh d ts vs ds q (fun u hu => hg u (by simp [hu])) h2 (fun z hz => hs z (by simp [hz])), rfl⟩
  | [], _ :: _, _, _, _, h, _ => h.elim
  | [], [], _ :: _, _, _, h, _ => h.elim
  | _ :: _, [], _, _, _, h, _ => h.elim
  | _ :: _, _ :: _, [], _, _, h, _ => h.elim

/-- The state in which a call begins: all memory that is there is never written. -/
def st0 (W : World) : St := { w := W, imm := fun b => b < W.heap.size, loc := fun _ _ => .unk, next := 0 }
def H0 : Hp := fun _ => none
theorem st0_rel (W : World) (hg : ∀ p ∈ (default : GivT).l, VRel (st0 W) p.1 p.2) : HRel (st0 W) H0 := ⟨fun i _ => ⟨rfl, fun _ => rfl⟩, fun b h => h, fun i o h => (by cases h), fun i j o o' b h => (by cases h), hg⟩

inductive LitK where
  | int (k : IntKind)
  | bool
  deriving DecidableEq

def LitK.ok : LitK → Value → Prop
  | .int k, v => ∃ n, v = .int k n ∧ (Lit.int k n).wf = true
  | .bool, v => ∃ b, v = .bool b

/-- A type whose values are so many numbers and truths. -/
def litsT (P : Program) : Nat → TypeId → Option (List LitK)
  | 0, _ => none
  | d + 1, t => match P.underlying t with
    | some .bool => some [.bool]
    | some (.int k) => some [.int k]
    | some (.struct fs) => match fs.toList.foldl (fun acc f => match acc with
        | some ks => match litsT P d f.type with
          | some l => if f.offset = ks.length ∧ P.cellsOf f.type = l.length then some (ks ++ l) else none
          | none => none
        | none => none) (some []) with
      | some ks => if P.cellsOf t = ks.length then some ks else none
      | none => none
    | _ => none

def LitsOk (ks : List LitK) (cs : List Value) : Prop := cs.length = ks.length ∧ ∀ (i : Nat) (k : LitK) (v : Value), ks[i]? = some k → cs[i]? = some v → k.ok v

theorem LitsOk.append {ks ls : List LitK} {cs ds : List Value} (h : LitsOk ks cs) (h' : LitsOk ls ds) : LitsOk (ks ++ ls) (cs ++ ds) := by
  refine ⟨by simp [h.1, h'.1], fun i k v hk hv => ?_⟩
  by_cases hi : i < ks.length
  · rw [List.getElem?_append_left hi] at hk
    rw [List.getElem?_append_left (by rw [h.1]; exact hi)] at hv
    exact h.2 i k v hk hv
  · rw [List.getElem?_append_right (by omega)] at hk
    rw [List.getElem?_append_right (by rw [h.1]; omega), h.1] at hv
    exact h'.2 _ k v hk hv

theorem trod_lits {H : Type} {enc : TypeId × Value → H} {P : Program} {W : World} {held : Bool} {sp : Nat → Bool} :
    ∀ (d fuel : Nat) (t : TypeId) (cs : List Value) (x : DataW H × List MemPlace) (ks : List LitK), litsT P d t = some ks → DataW.trod enc P W 0 sp held fuel t cs = some x → LitsOk ks cs := by
  intro d
  induction d with
  | zero => intro fuel t cs x ks hg; cases hg
  | succ d ih =>
    intro fuel t cs x ks hg h
    cases fuel with
    | zero => cases h
    | succ fuel =>
      unfold litsT at hg
      unfold DataW.trod at h
      cases hu : P.underlying t with
      | none => rw [hu] at hg; cases hg
      | some td =>
        rw [hu] at hg h
        cases td <;> simp only at hg <;> try (cases hg; done)
        case bool =>
          cases hg
          split at h <;> simp_all
          rename_i b
          exact ⟨rfl, fun i k v hk hv => by cases i <;> simp at hk hv; subst hk hv; exact ⟨_, rfl⟩⟩
        case int k =>
          cases hg
          split at h <;> simp_all
          rename_i n hh
          exact ⟨rfl, fun i k v hk hv => by cases i <;> simp at hk hv; subst hk hv; exact ⟨_, rfl, h.1.2⟩⟩
        case struct fs =>
          split at h <;> try (simp_all; done)
          case _ fs' heq =>
            simp only [Option.some.injEq, TypeDesc.struct.injEq] at heq
            subst heq
            split at h
            case isFalse hl => cases h
            case isTrue hl =>
              rw [Option.map_eq_some_iff] at h
              obtain ⟨ys, hy, rfl⟩ := h
              have key : ∀ (c : List Value) (l : List Field) (acc ks : List LitK), (∀ f ∈ l, ∃ y, DataW.trod enc P W 0 sp held fuel f.type ((c.drop f.offset).take (P.cellsOf f.type)) = some y) → LitsOk acc (c.take acc.length) →
                  l.foldl (fun acc f => match acc with
                    | some ks => match litsT P d f.type with
                      | some l => if f.offset = ks.length ∧ P.cellsOf f.type = l.length then some (ks ++ l) else none
                      | none => none
                    | none => none) (some acc) = some ks → LitsOk ks (c.take ks.length) := by
                intro c l
                induction l with
                | nil => intro acc ks _ ha he; simp at he; subst he; exact ha
                | cons f l ih2 =>
                  intro acc ks hf ha he
                  simp only [List.foldl_cons] at he
                  have hnone : ∀ l : List Field, l.foldl (fun acc f => match acc with
                    | some ks => match litsT P d f.type with
                      | some l => if f.offset = ks.length ∧ P.cellsOf f.type = l.length then some (ks ++ l) else none
                      | none => none
                    | none => none) none = (none : Option (List LitK)) := by
                    intro l; induction l with
                    | nil => rfl
                    | cons a l ih => simpa using ih
                  cases hl2 : litsT P d f.type with
                  | none => rw [hl2] at he; simp only at he; rw [hnone] at he; cases he
                  | some lk =>
                    rw [hl2] at he
                    simp only at he
                    by_cases hc : f.offset = acc.length ∧ P.cellsOf f.type = lk.length
                    · rw [if_pos hc] at he
                      obtain ⟨y, hy⟩ := hf f (by simp)
                      have := ih fuel f.type _ y lk hl2 hy
                      rw [hc.1, hc.2] at this
                      have hap := ha.append this
                      refine ih2 (acc ++ lk) ks (fun g hg => hf g (by simp [hg])) ?_ he
                      rw [List.length_append, List.take_add]
                      exact hap
                    · rw [if_neg hc, hnone] at he; cases he
              split at hg
              case h_2 => cases hg
              case h_1 ks' he =>
                split at hg
                case isFalse => cases hg
                case isTrue hc =>
                  cases hg
                  have := key _ fs.toList [] ks (fun f hf => by
                    obtain ⟨i, hi⟩ := List.getElem?_of_mem hf
                    obtain ⟨y, _, h2⟩ := (mapM_get _ _ hy).2 i f hi
                    exact ⟨y, h2⟩) ⟨by simp, fun i k v hk => by simp at hk⟩ he
                  rw [List.take_of_length_le (by rw [hl, hc]; exact Nat.le_refl _)] at this
                  exact this

end Go.V
end
section
set_option linter.unusedVariables false
set_option linter.unusedSimpArgs false
namespace Go.V
set_option linter.unusedSectionVars false
variable [Inhabited GivT]
theorem trod_slice_rel {H : Type} {enc : TypeId × Value → H} {P : Program} {W : World} {held : Bool} {sp : Nat → Bool} {d fuel : Nat} {t e : TypeId} {v : Value} {x : DataW H × List MemPlace} {ks : List LitK}
    (ht : P.underlying t = some (.slice e)) (hk : litsT P d e = some ks) (hsz : P.cellsOf e = ks.length) (hpos : 0 < ks.length) (h : DataW.trod enc P W 0 sp held fuel t [v] = some x) :
    ∃ (n : Nat) (g : Nat → List Value), n ≤ maxLen ∧ (∀ i, i < n → LitsOk ks (g i)) ∧ VRel (st0 W) (.rsl n ks.length (fun i => (g i).map AV.lit)) v := by
  cases fuel with
  | zero => cases h
  | succ fuel =>
    unfold DataW.trod at h
    rw [ht] at h
    split at h <;> try (simp_all; done)
    · rename_i heq heq2
      simp only [List.cons.injEq, and_true] at heq2
      subst heq2
      exact ⟨0, fun _ => [], Nat.zero_le _, fun i hi => by omega, .rsl0⟩
    · rename_i e' a len cap heq heq2
      simp only [Option.some.injEq, TypeDesc.slice.injEq] at heq
      simp only [List.cons.injEq, and_true] at heq2
      subst heq heq2
      simp only at h
      split at h
      case isFalse hl => cases h
      case isTrue hl =>
        rw [Option.bind_eq_some_iff] at h
        obtain ⟨es, he, -⟩ := h
        let g : Nat → List Value := fun i => match W.cells? 0 (a.add (i * P.cellsOf e)) (P.cellsOf e) with
          | some c => c
          | none => []
        have hel : ∀ i, i < len → W.cells? 0 (a.add (i * P.cellsOf e)) (P.cellsOf e) = some (g i) ∧ LitsOk ks (g i) := by
          intro i hi
          obtain ⟨y, _, hy⟩ := (mapM_get _ _ he).2 i i (by simp [hi])
          rw [Option.bind_eq_some_iff] at hy
          obtain ⟨c, h1, h2⟩ := hy
          have : g i = c := by simp only [g, h1]
          rw [this]
          exact ⟨h1, trod_lits d fuel _ c y ks hk h2⟩
        refine ⟨len, g, Nat.le_trans hl.2.1 hl.2.2, fun i hi => (hel i hi).2, ?_⟩
        by_cases h0 : len = 0
        · subst h0; exact .rsl0
        have hcell : ∀ i j, i < len → j < ks.length → ∃ u, (g i)[j]? = some u ∧ W.cell? ((a.add (i * P.cellsOf e)).add j) = some u := by
          intro i j hi hj
          have h1 := (hel i hi).1
          unfold World.cells? at h1
          rw [if_pos (Nat.zero_le _)] at h1
          exact (mapM_get _ _ h1).2 j j (by simp [hsz, hj])
        obtain ⟨b, off, spot⟩ := a
        obtain ⟨u0, _, hc0⟩ := hcell 0 0 (by omega) hpos
        rw [show ((⟨b, off, spot⟩ : Addr).add (0 * P.cellsOf e)).add 0 = ⟨b, off, spot⟩ from by simp [Addr.add]] at hc0
        unfold World.cell? at hc0
        split at hc0
        case h_2 => cases hc0
        case h_1 c ct fz hb =>
          have hspot : spot = none := by
            cases spot with
            | none => rfl
            | some s => simp at hc0
          subst hspot
          have hadd : ∀ i j, (((⟨b, off, none⟩ : Addr).add (i * P.cellsOf e)).add j) = ⟨b, off + i * P.cellsOf e + j, none⟩ := fun i j => by rw [addr_add, addr_add]
          have hall : ∀ i j, i < len → j < ks.length → ∃ u, (g i)[j]? = some u ∧ c[off + i * ks.length + j]? = some u := by
            intro i j hi hj
            obtain ⟨u, h1, h2⟩ := hcell i j hi hj
            rw [hadd] at h2
            unfold World.cell? at h2
            simp only at hb
            rw [show W.heap[(⟨b, off + i * P.cellsOf e + j, none⟩ : Addr).block]? = some (.cells c ct fz) from hb] at h2
            simp only [Option.isSome_none, Bool.false_eq_true, if_false, hsz] at h2
            exact ⟨u, h1, h2⟩
          refine .rsl (c := c) (e := ct) (fz := fz) ?_ hb ?_ (fun i hi => by simpa using (hel i hi).2.1) (fun i j hi hj => ?_) hl.2.1
          · exact (Array.getElem?_eq_some_iff.1 hb).1
          · obtain ⟨u, _, h2⟩ := hall (len - 1) (ks.length - 1) (by omega) (by omega)
            have := (Array.getElem?_eq_some_iff.1 h2).1
            have e1 : len * ks.length = (len - 1) * ks.length + ks.length := by
              obtain ⟨q, rfl⟩ : ∃ q, len = q + 1 := ⟨len - 1, by omega⟩
              rw [Nat.add_sub_cancel, Nat.succ_mul]
            omega
          · obtain ⟨u, h1, h2⟩ := hall i j hi hj
            rw [List.getD_eq_getElem?_getD, List.getElem?_map, h1, Array.getD_eq_getD_getElem?, h2]
            exact .lit _

end Go.V
end
section
set_option linter.unusedVariables false
set_option linter.unusedSimpArgs false
namespace Go.V
set_option linter.unusedSectionVars false
variable [Inhabited GivT]
open Go.ChangeShapes Go.WideShapes
theorem law_post {H : Type} {enc : TypeId × Value → H} {P : Program} {f : Func} {s : ChangeSpec} {apart fresh handsOn again : Bool} {W W' : World} {args : Array Value} {ds gs : List (DataW H)} {before : List MemPlace} {tb : TypeId} {d : Nat}
    (hv0 : s.vars = []) (hrt : f.resultTypes = #[tb]) (hb : P.underlying tb = some .bool) (hgood : ∀ t ∈ f.params.toList, goodT P d t = true)
    (hW : DataW.Whole enc P f.params.toList s.vars apart W args.toList ds gs before)
    (hfn : s.fn H (ds ++ gs) = { results := [.lit (.bool true)], args := ds })
    (hh : ∀ b, b < W.heap.size → W'.heap[b]? = W.heap[b]?) (hos : W'.os = W.os) (hout : W'.output = W.output) : s.post enc P f apart fresh handsOn again W args (.bool true) W' := by
  have hW' := hW
  obtain ⟨p, q, hA, hV, rfl, hz, hn⟩ := hW
  rw [hv0] at hV
  have hgq : gs = [] ∧ q = [] := by
    cases gs with
    | nil => exact ⟨rfl, hV⟩
    | cons _ _ => exact hV.elim
  obtain ⟨rfl, rfl⟩ := hgq
  have hlt : ∀ z ∈ p ++ [], z.block < W.heap.size := fun z hz => hW'.lt z hz
  have hold : ∀ z ∈ p, (fun b => decide (b < W.heap.size)) z.block = true := fun z hz => by simpa using hlt z (by simpa using hz)
  have hres : ∀ (b : Nat) (sp : Nat → Bool) (hd : Bool), DataW.TrodAll enc P W' b sp hd f.resultTypes.toList ((Value.bool true).resultList f.resultTypes.size) (s.fn H (ds ++ [])).results [] := by
    intro b sp hd
    rw [hfn, hrt]
    exact ⟨[], [], ⟨1, by simp [DataW.trod, hb, Value.cells]⟩, rfl, rfl⟩
  have hargs : ∀ sp : Nat → Bool, (∀ z ∈ p, sp z.block = true) → DataW.TrodAll enc P W' 0 sp true f.params.toList args.toList (s.fn H (ds ++ [])).args p := by
    intro sp hs
    rw [hfn]
    exact trodAll_move hh d _ _ _ _ hgood hA hs
  refine ⟨ds, [], p ++ [], [], p, [], hW', hres _ _ _, hargs _ hold, ?_, ⟨hos, hout, fun i hi => ?_⟩, fun _ => ?_⟩
  · rw [hv0, hfn]; exact rfl
  · rw [hh i hi]
    cases W.heap[i]? with
    | none => rfl
    | some o => cases o <;> first | exact ⟨rfl, rfl, rfl, fun _ _ => rfl⟩ | exact .inr ⟨rfl, rfl⟩ | rfl
  · refine ⟨fun j t r h1 h2 => ?_, _, [], ([] ++ p) ++ [], ⟨[] ++ p, [], trodAll_append (hargs _ (fun _ _ => rfl)) (hres _ _ _), ?_, rfl, ?_, ?_⟩, ?_⟩
    · rw [hrt] at h1 h2
      have hj : j = 0 := by
        have := (Array.getElem?_eq_some_iff.1 h1).1
        simp at this; omega
      subst hj
      simp [Value.resultList] at h1 h2
      subst h1 h2
      simp [Value.okWide, hb, Cell.okWide, Cell.ok]
    · rw [hv0]; exact rfl
    · intro b off hm
      have hm' : MemPlace.cell b off ∈ p ++ [] := by simpa using hm
      have := hz b off hm'
      have hb' : b < W.heap.size := hlt _ hm'
      unfold World.frozen? at this ⊢
      simp only [hh b hb']
      exact this
    · intro ha
      have := hn ha
      simpa using this
    · intro z hz _
      simpa using hz

end Go.V
end
section
set_option linter.unusedVariables false
set_option linter.unusedSimpArgs false
namespace Go.V
set_option linter.unusedSectionVars false
variable [Inhabited GivT]
theorem law_calls {P : Program} {f : FuncId} {fn : Func} {c : Code} {W : World} {args : Array Value} {avs : List AV} (hf : P.funcs[f]? = some fn) (hname : (fn.name == "runtime.NumGoroutine") = false) (hb : fn.body = some c)
    (hT : Tri P (.func (.func f) [] []) avs H0 fun r _ => r = .ret (.lit (.bool true))) (hg : ∀ p ∈ (default : GivT).l, VRel (st0 W) p.1 p.2) (ha : VRels (st0 W) avs args.toList) :
    Calls P f args W fun e W' => e = .returned (.bool true) ∧ (∀ b, b < W.heap.size → W'.heap[b]? = W.heap[b]?) ∧ W'.os = W.os ∧ W'.output = W.output := by
  obtain ⟨nx, h1, h2⟩ := hT (st0 W) (.func (.func f) #[] #[]) args.toList (st0_rel W hg) (.func rfl rfl (fun k hk => absurd hk (by simp)) (fun k hk => absurd hk (by simp))) ha
  have hcf : (callFunc f args).run P W = .ok (.enter f args) W := by
    simp only [callFunc, Sem.run_bind, run_program, Result.andThen_ok, hf, hname, hb]
    simp
  simp only [Deferred.ofValue, Sem.run_bind, Sem.run_pure, Result.andThen_ok, invoke] at h1
  have e : (#[] : Array Value) ++ args.toList.toArray ++ #[] = args := by simp
  rw [e] at h1
  have h1' : (callFunc f args).run P W = .ok nx W := h1
  rw [hcf] at h1'
  injection h1' with h1' _
  subst h1'
  refine Calls.mono h2 ?_
  rintro e w ⟨S', r, H', rfl, hle, hH', hrr, hr⟩
  subst hr
  refine ⟨?_, fun b hb => hle.keep b hb, hle.os, hle.output⟩
  cases e with
  | returned v => rw [VRel.lit_inv hrr]
  | panicked ch => exact hrr.elim
  | outgrown => exact hrr.elim

end Go.V
end
section
set_option linter.unusedVariables false
set_option linter.unusedSimpArgs false
namespace Go.V
set_option linter.unusedSectionVars false
variable [Inhabited GivT]
open Go.ChangeShapes
def st2 (P : Program) (t a oa b ob : Nat) : Bool := match P.underlying t with
  | some (.struct fs) => (match fs.toList with
    | [f0, f1] => f0.type == a && f0.offset == oa && f1.type == b && f1.offset == ob
    | _ => false)
  | _ => false
end Go.V
end
section
set_option linter.unusedVariables false
namespace Go.V
set_option linter.unusedSectionVars false
variable [Inhabited GivT]
theorem frz_step {S : St} {H : Hp} {id st n : Nat} {f : Nat → List AV} (hH : HRel S H) (ho : H id = some (.row st n f)) :
    ∃ S2, S2.w = S.w ∧ Le S S2 ∧ HRel S2 (H.del id) ∧ ∀ v, VRel S (.sl id st n) v → VRel S2 (.rsl n st f) v := by
  obtain ⟨hg, hcase⟩ := hH.obj id _ ho
  rcases hcase with ⟨rfl, hnil⟩ | ⟨b, c, e, hl, hb, hni, hc⟩
  · refine ⟨S, rfl, Le.refl S, hH.sub ?_, ?_⟩
    · intro j o' hj
      by_cases ej : j = id
      · simp [Hp.del, ej] at hj
      · exact ⟨o', by rw [Hp.del_ne _ ej] at hj; exact hj, .refl _⟩
    · intro v this
      cases this with
      | sl hl => rw [hnil] at hl; cases hl
      | slnil _ => exact .rsl0
  · have hle := S.frz_le b
    refine ⟨S.frz b, rfl, hle, ?_, ?_⟩
    · refine ⟨fun i hi => ⟨?_, (hH.fresh i hi).2⟩, ?_, ?_, ?_, fun p hp => (hH.giv p hp).mono hle⟩
      · simp only [Hp.del]; split
        · rfl
        · exact (hH.fresh i hi).1
      · rintro x (hx | rfl)
        · exact hH.immlt x hx
        · exact (Array.getElem?_eq_some_iff.1 hb).1
      · intro i o hi
        have ne : i ≠ id := by intro e; simp [Hp.del, e] at hi
        rw [Hp.del_ne _ ne] at hi
        have old := hH.obj i o hi
        have hne : ∀ x, S.loc i o.gen = .blk x → x ≠ b := fun x hx e => ne (hH.inj i id o _ x hi ho hx (by subst e; exact hl))
        cases o with
        | box st' n' f' =>
          obtain ⟨b', c', e', h1, h2, h3, h4⟩ := old
          exact ⟨b', c', e', h1, h2, fun hx => hx.elim h3 (hne b' h1), h4.1, h4.2.1, fun i j hi hj => (h4.2.2 i j hi hj).mono hle⟩
        | row st' n' f' =>
          obtain ⟨g1, old⟩ := old
          refine ⟨g1, old.imp (fun x => x) ?_⟩
          rintro ⟨b', c', e', h1, h2, h3, h4⟩
          exact ⟨b', c', e', h1, h2, fun hx => hx.elim h3 (hne b' h1), h4.1, h4.2.1, fun i j hi hj => (h4.2.2 i j hi hj).mono hle⟩
        | memo F =>
          obtain ⟨b', es, k, h1, h2, h3, h4⟩ := old
          exact ⟨b', es, k, h1, h2, fun hx => hx.elim h3 (hne b' h1), h4⟩
        | raw o =>
          obtain ⟨b', h1, h2, h3, h4⟩ := old
          exact ⟨b', h1, h2, h3, fun hx => hx.elim h4 (hne b' h1)⟩
        | loop l n s ps assign body st pend did =>
          obtain ⟨h1, h2, fn, tmps, D, h3, h4, h5, h6⟩ := old
          exact ⟨h1, fun hx => hx.elim h2 (hne l h1), fn, tmps, D, h3, h4, h5.mono hle, h6⟩
      · intro i j o o' x hi hj
        have ne : i ≠ id := by intro e; simp [Hp.del, e] at hi
        have ne' : j ≠ id := by intro e; simp [Hp.del, e] at hj
        rw [Hp.del_ne _ ne] at hi
        rw [Hp.del_ne _ ne'] at hj
        exact hH.inj i j o o' x hi hj
    · intro v this
      cases this with
      | sl hl' hb' _ hlen' =>
        rw [hl] at hl'; cases hl'
        exact .rsl (off := 0) (.inr rfl) hb (by rw [Nat.zero_add]; exact hc.1) hc.2.1 (fun i j hi hj => by rw [Nat.zero_add]; exact (hc.2.2 i j hi hj).mono hle) hlen'
      | slnil hl' => rw [hl] at hl'; cases hl'

/-- What is frozen: the row's slices become its data. -/
def Frz (id st n : Nat) (f : Nat → List AV) (x y : AV) : Prop := y = x ∨ (x = .sl id st n ∧ y = .rsl n st f)
theorem Frz.rfl {id st n : Nat} {f : Nat → List AV} {x : AV} : Frz id st n f x x := .inl (Eq.refl x)
theorem Frz.hit {id st n : Nat} {f : Nat → List AV} : Frz id st n f (.sl id st n) (.rsl n st f) := .inr ⟨Eq.refl _, Eq.refl _⟩

end Go.V
end
section
set_option linter.unusedVariables false
namespace Go.V
set_option linter.unusedSectionVars false
variable [Inhabited GivT]
/-- Nil becomes a row of none. -/
def Nld (id st : Nat) (x y : AV) : Prop := y = x ∨ (x = .lit (.slice none 0 0) ∧ y = .sl id st 0)
theorem Nld.rfl {id st : Nat} {x : AV} : Nld id st x x := .inl (Eq.refl x)
theorem Nld.hit {id st : Nat} : Nld id st (.lit (.slice none 0 0)) (.sl id st 0) := .inr ⟨Eq.refl _, Eq.refl _⟩

end Go.V
end
section
set_option linter.unusedVariables false
namespace Go.V
set_option linter.unusedSectionVars false
variable [Inhabited GivT]
/-- A value in which a row is now data. -/
inductive FrzD (id st n : Nat) (f : Nat → List AV) : AV → AV → Prop
  | same (x : AV) : FrzD id st n f x x
  | hit {g : Nat → List AV} (h : ∀ i, i < n → f i = g i) : FrzD id st n f (.sl id st n) (.rsl n st g)
  | agg {cs cs' : List AV} (hl : cs'.length = cs.length) (h : ∀ k, k < cs.length → FrzD id st n f (cs.getD k .any) (cs'.getD k .any)) : FrzD id st n f (.agg cs) (.agg cs')
  | tuple {cs cs' : List AV} (hl : cs'.length = cs.length) (h : ∀ k, k < cs.length → FrzD id st n f (cs.getD k .any) (cs'.getD k .any)) : FrzD id st n f (.tuple cs) (.tuple cs')

theorem FrzD.conv {S S2 : St} {id st n : Nat} {f : Nat → List AV} (hle : Le S S2) (hc : ∀ v, VRel S (.sl id st n) v → VRel S2 (.rsl n st f) v) {x y : AV} (hxy : FrzD id st n f x y) : ∀ v, VRel S x v → VRel S2 y v := by
  induction hxy with
  | same x => intro v hv; exact hv.mono hle
  | hit h => intro v hv; exact AV.Le.rsl h _ _ (hc v hv)
  | agg hl h ih =>
    intro v hv
    cases hv with
    | agg hn hv => exact .agg (hn.trans hl.symm) fun k hk => ih k (by omega) _ (hv k (by omega))
  | tuple hl h ih =>
    intro v hv
    cases hv with
    | tuple hn hv => exact .tuple (hn.trans hl.symm) fun k hk => ih k (by omega) _ (hv k (by omega))

/-- A row that is handed back inside a value, to be written no more. -/
theorem Tri.thawD {P : Program} {fv : AV} {args : List AV} {H : Hp} {R1 R : Res → Hp → Prop} (h : Tri P fv args H R1)
    (hR : ∀ r H', R1 r H' → R r H' ∨ ∃ v v' id st n f, r = .ret v ∧ H' id = some (.row st n f) ∧ FrzD id st n f v v' ∧ R (.ret v') (H'.del id)) : Tri P fv args H R := by
  intro S vf vs hH hvf ha
  obtain ⟨nx, h1, h2⟩ := h S vf vs hH hvf ha
  have ho : ∀ e w, Out S R1 e w → Out S R e w := by
    rintro e w ⟨S', r, H', hw, hle, hH', hres, hr⟩
    rcases hR r H' hr with hr | ⟨v, v', id, st, n, f, rfl, hob, hf, hr⟩
    · exact ⟨S', r, H', hw, hle, hH', hres, hr⟩
    · cases e with
      | returned cv =>
        obtain ⟨S2, hw2, hle2, hH2, hc⟩ := frz_step hH' hob
        exact ⟨S2, .ret v', _, hw2.trans hw, hle.trans hle2, hH2, hf.conv hle2 hc cv hres, hr⟩
      | _ => exact hres.elim
  refine ⟨nx, h1, ?_⟩
  cases nx <;> simp only [NextOk] at h2 ⊢
  · exact Calls.mono h2 ho
  · exact h2.mono ho

end Go.V
end
section
set_option linter.unusedVariables false
namespace Go.V
set_option linter.unusedSectionVars false
variable [Inhabited GivT]
section
variable {r : Option Nat} {P : Program} {m : Option Tmp → Bool} {n : Nat} {k : List It} {s : Fr} {ds : List AD} {H : Hp} {Q : Post}
theorem vs_entL {c : Code} (h : Ent s ds H fun s ds H => VS r P m n (.code (.loop c) :: k) s ds H Q) : VS r P m n (.code (.loop c) :: k) s ds H Q :=
  (wps_ent h : WPS r P n (.loop c) s ds H (TK r P m n k Q))
end
end Go.V
end
section
set_option linter.unusedVariables false
set_option linter.unusedSimpArgs false
namespace Go.V
set_option linter.unusedSectionVars false
variable [Inhabited GivT]
abbrev i64 (n : Int) : AV := .lit (.int .i64 n)
abbrev u64 (n : Int) : AV := .lit (.int .u64 n)
abbrev u8 (n : Int) : AV := .lit (.int .u8 n)
abbrev u16 (n : Int) : AV := .lit (.int .u16 n)
abbrev boo (b : Bool) : AV := .lit (.bool b)
abbrev bx (n : Int) : AV := .rptr 1 1 (fun _ => [i64 n]) 0 0

theorem getD_snoc {α : Type} (l : List α) (x d : α) (k : Nat) : (l ++ [x]).getD k d = if k = l.length then x else l.getD k d := by
  by_cases h : k = l.length
  · subst h; simp
  · rw [if_neg h]
    by_cases h2 : k < l.length
    · rw [List.getD_eq_getElem?_getD, List.getD_eq_getElem?_getD, List.getElem?_append_left h2]
    · rw [List.getD_eq_getElem?_getD, List.getD_eq_getElem?_getD, List.getElem?_eq_none (by simp; omega), List.getElem?_eq_none (by omega)]
theorem take_snoc {α : Type} (l : List α) (i : Nat) (d : α) (h : i < l.length) : l.take (i + 1) = l.take i ++ [l.getD i d] := by
  rw [List.take_add_one, List.getD_eq_getElem?_getD, List.getElem?_eq_getElem h]; rfl
theorem mem_getD {α : Type} (l : List α) (i : Nat) (d : α) (h : i < l.length) : l.getD i d ∈ l := by
  rw [List.getD_eq_getElem?_getD, List.getElem?_eq_getElem h]; exact List.getElem_mem h
theorem getD_mem {α : Type} {l : List α} {x : α} (d : α) (h : x ∈ l) : ∃ i, i < l.length ∧ l.getD i d = x := by
  obtain ⟨i, hi, e⟩ := List.getElem_of_mem h
  exact ⟨i, hi, by rw [List.getD_eq_getElem?_getD, List.getElem?_eq_getElem hi]; exact e⟩
theorem getD_map {α β : Type} (f : α → β) (l : List α) (i : Nat) (d : α) (e : β) (h : i < l.length) : (l.map f).getD i e = f (l.getD i d) := by
  rw [List.getD_eq_getElem?_getD, List.getD_eq_getElem?_getD, List.getElem?_map, List.getElem?_eq_getElem h]; rfl

/-- A list, each thing of which is so many cells. -/
def lF {α : Type} (en : α → List AV) (d : α) (l : List α) : Nat → List AV := fun i => en (l.getD i d)
theorem app_lF {α : Type} (en : α → List AV) (d : α) (l : List α) (x : α) (g : Nat → List AV) (hg : g 0 = en x) : appF l.length 1 (lF en d l) g = lF en d (l ++ [x]) := by
  funext k
  simp only [appF, lF, hg, getD_snoc]
  split <;> rfl
abbrev enI (z : Int) : List AV := [i64 z]
abbrev enN (z : Nat) : List AV := [i64 (z : Int)]
abbrev enU (z : Nat) : List AV := [u64 (z : Int)]
def intF (l : List Int) : Nat → List AV := fun i => [i64 (l.getD i 0)]
abbrev intsAV (l : List Int) : AV := .rsl l.length 1 (intF l)
theorem intF_at (l : List Int) (i : Nat) : intF l i = [i64 (l.getD i 0)] := rfl
theorem app_ints (l : List Int) (w : Int) (g : Nat → List AV) (hg : g 0 = [i64 w]) : appF l.length 1 (intF l) g = intF (l ++ [w]) := app_lF enI 0 l w g hg
def llF (l : List (List Int)) : Nat → List AV := fun i => [intsAV (l.getD i [])]
abbrev llAV (l : List (List Int)) : AV := .rsl l.length 1 (llF l)
theorem bit_eq (S i : Nat) : decide ((((S : Int) / 2 ^ i).toNat &&& Int.toNat 1 : Nat) = (1 : Int)) = S.testBit i := by
  have e : ((S : Int) / 2 ^ i).toNat = S / 2 ^ i := by
    have : (S : Int) / 2 ^ i = ((S / 2 ^ i : Nat) : Int) := by simp
    rw [this]; rfl
  rw [e, Nat.testBit_eq_decide_div_mod_eq]
  show decide (((S / 2 ^ i &&& 1 : Nat) : Int) = 1) = _
  rw [Nat.and_one_is_mod]
  congr 1
  apply propext
  omega
theorem shr_ok (S i B : Nat) (hS : S < B) (hB : B ≤ 9223372036854775808) : 0 ≤ (S : Int) / 2 ^ i ∧ -9223372036854775808 ≤ (S : Int) / 2 ^ i ∧ (S : Int) / 2 ^ i ≤ 9223372036854775807 := by
  have ep : (0 : Int) < 2 ^ i := Int.pow_pos (by decide)
  have e0 : 0 ≤ (S : Int) / 2 ^ i := Int.ediv_nonneg (by omega) (by omega)
  have e1 : (S : Int) / 2 ^ i ≤ S := Int.ediv_le_self _ (by omega)
  omega
/-- How many bits there are. -/
def popN : Nat → Nat → Nat
  | 0, _ => 0
  | f + 1, s => s % 2 + popN f (s / 2)
def pop (s : Nat) : Nat := popN 64 s
end Go.V
end
section
set_option linter.unusedVariables false
set_option linter.unusedSimpArgs false
namespace Go.Proofs.YtnmgegodkmgdeaaDoor
open Go.V Go.RowKit
set_option maxHeartbeats 1000000 in
theorem tz64_core (x k idx : Nat) (w : World) (hx0 : ((x : Int) == 0) = false)
    (key : IntKind.u64.wrap (bits BinOp.and IntKind.u64 (x : Int) (IntKind.u64.wrap (-(x : Int))) * 285870213051353865) / 288230376151711744 = (idx : Int))
    (hi : idx < 64) (hk : k < 64) (hcell : w.cell? ⟨1, idx, none⟩ = some (.int .u8 k)) :
    Calls Tryd.prog 93 #[.int .u64 x] w fun e w' => e = .returned (.int .i64 k) ∧ w' = w := by
  go_enter Tryd.func93, Tryd.ntmps93
  go_wp2_with (simp only [key])
  go_ret
  exact ⟨rfl, rfl⟩
/-- What is given: the table. -/
def tabF : Nat → List AV := fun i => [.lit (.int .u8 (Lib.deBruijn64tab.getD i 0 : Nat))]
instance : Inhabited GivT := ⟨⟨[(.rptr 64 1 tabF 0 0, .pointer (some ⟨1, 0, none⟩))]⟩⟩
theorem tab_at {S : St} {H : Hp} (hH : HRel S H) : TabAt 1 Lib.deBruijn64tab S.w := by
  have h := hH.giv (.rptr 64 1 tabF 0 0, .pointer (some ⟨1, 0, none⟩)) (by show _ ∈ [_]; exact List.mem_singleton.2 rfl)
  intro j hj
  have hj : j < 64 := hj
  generalize hv : (Value.pointer (some ⟨1, 0, none⟩)) = v at h
  cases h with
  | @rptr _ _ _ _ _ b off c e fz hi hb hsz hf hh =>
    simp only [Value.pointer.injEq, Option.some.injEq, Addr.mk.injEq] at hv
    obtain ⟨rfl, h0, _⟩ := hv
    have ho : off = 0 := by omega
    subst ho
    have hc := hh j 0 hj (by decide)
    have hcz : j < c.size := by omega
    simp only [tabF, List.getD_cons_zero, Nat.zero_add, Nat.mul_one, Nat.add_zero] at hc
    have := hc.lit_inv
    rw [← this]
    simp [World.cell?, hb, Array.getD_eq_getD_getElem?, hcz]
theorem tz64 (x : Nat) (hx0 : x ≠ 0) (hx : x < 18446744073709551616) (w : World) (hT : TabAt 1 Lib.deBruijn64tab w) :
    Calls Tryd.prog 93 #[.int .u64 x] w fun e w' => e = .returned (.int .i64 (Lib.ctz 64 x)) ∧ w' = w := by
  obtain ⟨hlow, hk⟩ := Lib.lowest_bit 64 x hx0 hx
  obtain ⟨hi, htab⟩ := Lib.deBruijn64_at _ hk
  have hcell := hT _ hi
  rw [htab] at hcell
  exact tz64_core x _ _ w (by simp; omega) (tz64_key x _ hx hx0 hlow) hi hk hcell
/-- A function that is met by a contract of the library's own kind. -/
theorem tri_of_calls {P : Program} {f : FuncId} {fn : Func} {c : Code} {avs : List AV} {H : Hp} {v : Value} (hf : P.funcs[f]? = some fn) (hname : (fn.name == "runtime.NumGoroutine") = false) (hb : fn.body = some c)
    (h : ∀ (S : St) (vs : List Value), HRel S H → VRels S avs vs → Calls P f vs.toArray S.w fun e w' => e = .returned v ∧ w' = S.w) : PTri P (.func (.func f) [] []) avs H (.lit v) := by
  intro S vf vs hH hv ha
  have hvf : vf = .func (.func f) #[] #[] := by
    cases hv with
    | @func _ _ _ a b hn hm _ _ =>
      have e1 : a = #[] := Array.eq_empty_of_size_eq_zero (by simpa using hn)
      have e2 : b = #[] := Array.eq_empty_of_size_eq_zero (by simpa using hm)
      rw [e1, e2]
  subst hvf
  refine ⟨.enter f vs.toArray, ?_, ?_⟩
  · have e : (#[] : Array Value) ++ vs.toArray ++ #[] = vs.toArray := by simp
    simp only [Deferred.ofValue, Sem.run_bind, Sem.run_pure, Result.andThen_ok, invoke, e, callFunc, run_program, hf, hname, hb]
    simp
  · refine Calls.mono (h S vs hH ha) ?_
    rintro e w' ⟨rfl, rfl⟩
    exact ⟨S, .ret (.lit v), H, rfl, Le.refl S, hH, .lit _, rfl, rfl⟩
theorem tz64_tri (x : Nat) (H : Hp) (hx0 : x ≠ 0) (hx : x < 18446744073709551616) : PTri Tryd.prog (fnA 93) [u64 x] H (i64 (Lib.ctz 64 x : Nat)) := by
  refine tri_of_calls Tryd.func93 (by kernel_rfl) rfl fun S vs hH ha => ?_
  obtain ⟨h1, h2⟩ := ha
  match vs, h1 with
  | [v], _ =>
    have := h2 0 (by simp)
    simp only [List.getD_cons_zero] at this
    rw [this.lit_inv]
    exact tz64 x hx0 hx S.w (tab_at hH)
end Go.Proofs.YtnmgegodkmgdeaaDoor
end
section
set_option linter.unusedVariables false
set_option linter.unusedSimpArgs false
set_option maxHeartbeats 4000000
set_option maxRecDepth 100000
namespace Go.Proofs.YtnmgegodkmgdeaaDoor
open Go.V
/-- A ship. -/
structure Sh where
  fr : Int
  nd : Int
  td : Int
/-- A slip: how high each tide comes, and the ships. -/
structure Sl where
  hs : List (Int × Int)
  sh : List Sh
def sh0 : Sh := ⟨0, 0, 0⟩
abbrev Sh.cs (x : Sh) : List AV := [i64 x.fr, i64 x.nd, i64 x.td]
def spF (l : List (Int × Int)) : Nat → List AV := fun i => [i64 (l.getD i (0, 0)).1, i64 (l.getD i (0, 0)).2]
def shF (l : List Sh) : Nat → List AV := fun i => (l.getD i sh0).cs
theorem spF_at (l : List (Int × Int)) (i : Nat) : spF l i = [i64 (l.getD i (0, 0)).1, i64 (l.getD i (0, 0)).2] := rfl
theorem shF_at (l : List Sh) (i : Nat) : shF l i = [i64 (l.getD i sh0).fr, i64 (l.getD i sh0).nd, i64 (l.getD i sh0).td] := rfl
abbrev spAV (l : List (Int × Int)) : AV := .rsl l.length 2 (spF l)
abbrev shAV (l : List Sh) : AV := .rsl l.length 3 (shF l)
abbrev Sl.cs (s : Sl) : List AV := [spAV s.hs, shAV s.sh]
abbrev Sl.av (s : Sl) : AV := .agg s.cs
/-- No far too much of anything. -/
structure Near (s : Sl) : Prop where
  h : s.hs.length ≤ 40
  n : s.sh.length ≤ 40
def okH (h : Int × Int) : Prop := 0 ≤ h.1 ∧ h.1 ≤ h.2 ∧ h.2 ≤ 50 ∧ h.2 - h.1 ≤ 6
def okS (x : Sh) : Prop := (0 ≤ x.fr ∧ x.fr ≤ 16) ∧ (0 ≤ x.nd ∧ x.nd ≤ 50) ∧ 1 ≤ x.td ∧ x.td ≤ 6
/-- A valid slip. -/
structure Ok (s : Sl) : Prop where
  nH : s.hs.length ≤ 16
  nS : s.sh.length ≤ 5
  h : ∀ i, i < s.hs.length → okH (s.hs.getD i (0, 0))
  s : ∀ i, i < s.sh.length → okS (s.sh.getD i sh0)
instance (h : Int × Int) : Decidable (okH h) := by unfold okH; infer_instance
instance (x : Sh) : Decidable (okS x) := by unfold okS; infer_instance
theorem ok_iff (s : Sl) : Ok s ↔ (s.hs.length ≤ 16 ∧ s.sh.length ≤ 5) ∧ (∀ i, i < s.hs.length → okH (s.hs.getD i (0, 0))) ∧ ∀ i, i < s.sh.length → okS (s.sh.getD i sh0) :=
  ⟨fun k => ⟨⟨k.nH, k.nS⟩, k.h, k.s⟩, fun ⟨⟨a, b⟩, c, d⟩ => ⟨a, b, c, d⟩⟩
instance (s : Sl) : Decidable (Ok s) := decidable_of_iff _ (ok_iff s).symm
theorem Ok.near {s : Sl} (k : Ok s) : Near s := ⟨by have := k.nH; omega, by have := k.nS; omega⟩

/-- How high a tide comes, for sure or not. -/
def htI (s : Sl) (u : Bool) (t : Nat) : Int := if u = true then (s.hs.getD t (0, 0)).1 else (s.hs.getD t (0, 0)).2
/-- Is there a tide that is enough for a ship? -/
def enB (s : Sl) (u : Bool) (i : Nat) (t : Int) : Bool := (decide (0 ≤ t) && decide (t ≤ (s.hs.length : Int) - 1)) && decide ((s.sh.getD i sh0).nd ≤ htI s u t.toNat)
/-- The rule that a ship breaks by herself. -/
def alR (s : Sl) (u : Bool) (i : Nat) (t : Int) : Int := if t < (s.sh.getD i sh0).fr then 1 else if (!enB s u i t || !enB s u i (t + (s.sh.getD i sh0).td)) = true then 2 else 0
/-- Do two ships lie there at the same time? -/
def ovB (s : Sl) (a : Nat) (x : Int) (b : Nat) (y : Int) : Bool := decide (y < x + (s.sh.getD a sh0).td) && decide (x < y + (s.sh.getD b sh0).td)
/-- The rule that a ship breaks, those before her being on at theirs. -/
def brT (s : Sl) (u : Bool) (i : Nat) (t : Int) (b : List Int) : Int := if alR s u i t = 0 then if ((List.range i).any fun j => ovB s i t j (b.getD j 0)) = true then 3 else 0 else alR s u i t
def shipB (s : Sl) (n : Int) : Bool := decide (0 ≤ n) && decide (n ≤ (s.sh.length : Int) - 1)
def planB (s : Sl) (l : List Int) : Bool := (l.all fun t => decide (0 ≤ t) && decide (t ≤ 16)) && decide (l.length = s.sh.length)
def errE (s : Sl) (v : Bool) : Int := if Ok s then if v = true then 0 else 2 else 1

theorem in_tri (n lo hi : Int) (H : Hp) : PTri Tryd.prog (fnA 76) [i64 n, i64 lo, i64 hi] H (boo (decide (lo ≤ n) && decide (n ≤ hi))) := by
  refine tri_v0 (fun _ => false) Tryd.func76 (by kernel_rfl) rfl (by simp only [List.length_append, List.length_cons, List.length_nil, Tryd.ntmps76]; decide) ?_
  simp only [vsAll, binA, binLitA, intA, pickA, opA, guardV, dstOk, nilSliceOp, resA, argFr, retA.eq_1, Nat.reduceLT, Nat.reduceEqDiff, ↓reduceIte, reduceCtorEq, implies_true, eq_self, Tryd.ntmps76, Tryd.results76]
end Go.Proofs.YtnmgegodkmgdeaaDoor
end
section
set_option linter.unusedVariables false
set_option linter.unusedSimpArgs false
set_option maxHeartbeats 4000000
set_option maxRecDepth 100000
namespace Go.Proofs.YtnmgegodkmgdeaaDoor
open Go.V
theorem rslip_tri (s : Sl) (H : Hp) (kn : Near s) : PTri Tryd.prog (fnA 32) [s.av] H (boo (decide (Ok s))) := by
  have nH := kn.h
  have nS := kn.n
  refine Tri.drop ?_
  refine tri_v0 (fun _ => false) Tryd.func32 (by kernel_rfl) rfl (by simp only [List.length_append, List.length_cons, List.length_nil, Tryd.ntmps32]; decide) ?_
  have fail : ¬ Ok s → decide (Ok s) = false := fun h => decide_eq_false h
  simp only [vsAll, binA, binLitA, intA, loadA, loadRow, partA, partOk, fieldAddrA, lenA, boxA, boxZ, pickA, opA, guardV, dstOk, nilSliceOp, argFr, Nat.reduceAdd, Nat.reduceLT, Nat.reduceEqDiff, ↓reduceIte, implies_true, eq_self, wtAll, Tryd.ntmps32]
  refine condV (fun hc => ?_) (fun hc => ?_)
  · have hno : ¬ Ok s := fun k => by
      have := k.nH; have := k.nS
      simp only [Bool.or_eq_true, decide_eq_true_eq] at hc
      omega
    simp only [vsAll, opA, dstOk, nilSliceOp, resA, retA.eq_1, Nat.reduceLT, ↓reduceIte, eq_self, Tryd.results32, fail hno]
    exact dropR_pure rfl (by (repeat (first | exact HSub_rfl | refine HSub_put_eq (by simp only [vsAll, binA, binLitA, intA, aggA, aggV, boolA, nilA2, isConst, unA, loadA, loadRow, partA, partOk, fieldAddrA, indexAddrA, indexA, fieldA, extractA, lenA, nilCheckA, boxA, boxZ, cellA, cellsA, fillA, okParts, buildSliceA, buildMutA, makeSliceA, partIdx, elemsA, lensA, ifaceA, convA, mmA, pickA, okAll, stAll, opsA, partsA, partsOk, opA, allocA, boxMutA, newCells, okCells, storeObj, appendA, guardV, taA, nM, mapUpA, lookA, sliceA, sliceS, boundsA, opO, okO, copyA, dstOk, nilA, quietOk, nilSliceOp, deferV, panA, resA, argFr, retA.eq_1, retA.eq_2, Nat.reduceAdd, Nat.reduceSub, Nat.reduceMul, Nat.reduceLT, Nat.reduceLeDiff, Nat.reduceEqDiff, Nat.reduceBEq, Int.reduceAdd, Int.reduceSub, Int.reduceMul, Int.reduceNeg, Int.reduceLE, Int.reduceLT, Int.reduceEq, Int.reduceNe, Int.reduceToNat, ↓reduceIte, reduceCtorEq, implies_true, forall_const, eq_self, ne_eq, wtAll, Tryd.ntmps32, Tryd.results32]) ?_ | refine HSub_drop2 (by simp only [vsAll, binA, binLitA, intA, aggA, aggV, boolA, nilA2, isConst, unA, loadA, loadRow, partA, partOk, fieldAddrA, indexAddrA, indexA, fieldA, extractA, lenA, nilCheckA, boxA, boxZ, cellA, cellsA, fillA, okParts, buildSliceA, buildMutA, makeSliceA, partIdx, elemsA, lensA, ifaceA, convA, mmA, pickA, okAll, stAll, opsA, partsA, partsOk, opA, allocA, boxMutA, newCells, okCells, storeObj, appendA, guardV, taA, nM, mapUpA, lookA, sliceA, sliceS, boundsA, opO, okO, copyA, dstOk, nilA, quietOk, nilSliceOp, deferV, panA, resA, argFr, retA.eq_1, retA.eq_2, Nat.reduceAdd, Nat.reduceSub, Nat.reduceMul, Nat.reduceLT, Nat.reduceLeDiff, Nat.reduceEqDiff, Nat.reduceBEq, Int.reduceAdd, Int.reduceSub, Int.reduceMul, Int.reduceNeg, Int.reduceLE, Int.reduceLT, Int.reduceEq, Int.reduceNe, Int.reduceToNat, ↓reduceIte, reduceCtorEq, implies_true, forall_const, eq_self, ne_eq, wtAll, Tryd.ntmps32, Tryd.results32]) ?_ | refine HSub_keep_eq (by simp only [vsAll, binA, binLitA, intA, aggA, aggV, boolA, nilA2, isConst, unA, loadA, loadRow, partA, partOk, fieldAddrA, indexAddrA, indexA, fieldA, extractA, lenA, nilCheckA, boxA, boxZ, cellA, cellsA, fillA, okParts, buildSliceA, buildMutA, makeSliceA, partIdx, elemsA, lensA, ifaceA, convA, mmA, pickA, okAll, stAll, opsA, partsA, partsOk, opA, allocA, boxMutA, newCells, okCells, storeObj, appendA, guardV, taA, nM, mapUpA, lookA, sliceA, sliceS, boundsA, opO, okO, copyA, dstOk, nilA, quietOk, nilSliceOp, deferV, panA, resA, argFr, retA.eq_1, retA.eq_2, Nat.reduceAdd, Nat.reduceSub, Nat.reduceMul, Nat.reduceLT, Nat.reduceLeDiff, Nat.reduceEqDiff, Nat.reduceBEq, Int.reduceAdd, Int.reduceSub, Int.reduceMul, Int.reduceNeg, Int.reduceLE, Int.reduceLT, Int.reduceEq, Int.reduceNe, Int.reduceToNat, ↓reduceIte, reduceCtorEq, implies_true, forall_const, eq_self, ne_eq, wtAll, Tryd.ntmps32, Tryd.results32]) ?_)))
  · have hN : s.hs.length ≤ 16 ∧ s.sh.length ≤ 5 := by
      simp only [Bool.or_eq_false_iff, decide_eq_false_iff_not] at hc
      omega
    simp only [vsAll, opA, dstOk, nilSliceOp, Nat.reduceLT, eq_self]
    refine vs_loop (σ := Nat) (fun i => i ≤ s.hs.length ∧ ∀ j, j < i → okH (s.hs.getD j (0, 0))) (fun i => [(1, .rptr 1 2 (fun _ => s.cs) 0 0), (3, i64 i)]) (fun _ => H) (fun i => s.hs.length - i) 0 ⟨Nat.zero_le _, fun j hj => absurd hj (by omega)⟩ ?_ (HSub.refl _) fun i hi => ?_
    · simp only [vsAll, Nat.reduceEqDiff, ↓reduceIte, eq_self, Int.natCast_zero]
    · obtain ⟨hi, hall⟩ := hi
      simp only [vsAll, binA, binLitA, intA, loadA, loadRow, partA, partOk, fieldAddrA, lenA, opA, dstOk, Nat.reduceLT, Nat.reduceEqDiff, ↓reduceIte, eq_self, wtAll]
      refine condD (fun hd => ?_) (fun hd => ?_)
      · have hio : i < s.hs.length := by omega
        simp only [vsAll, binA, binLitA, intA, loadA, loadRow, partA, partOk, fieldAddrA, indexAddrA, cellA, cellsA, pickA, opA, allocA, newCells, okCells, storeObj, guardV, dstOk, Nat.reduceAdd, Nat.reduceLT, Nat.reduceEqDiff, ↓reduceIte, implies_true, eq_self, wtAll, spF_at]
        refine ⟨⟨by omega, by omega⟩, hio, ?_⟩
        intro i4 hh_i4; (try simp only [Hp.set_none, ite_none] at hh_i4)
        have hle : ∀ h : Int × Int, okH h ↔ (decide (h.1 < 0) || decide (h.2 < h.1) || decide (50 < h.2) || decide (6 < h.2 - h.1)) = false := fun h => by
          unfold okH
          simp only [Bool.or_eq_false_iff, decide_eq_false_iff_not]
          ((try clear hh_i4); omega)
        have hle := hle (s.hs.getD i (0, 0))
        have hnx : okH (s.hs.getD i (0, 0)) → ∀ j, j < i + 1 → okH (s.hs.getD j (0, 0)) := fun h j hj => by
          by_cases e : j = i
          · rw [e]; exact h
          · exact hall j (by ((try clear hh_i4); omega))
        have hno : ¬ okH (s.hs.getD i (0, 0)) → ¬ Ok s := fun h k => h (k.h i hio)
        generalize s.hs.getD i (0, 0) = h at *
        refine ⟨fun g => ⟨g, g, ?_⟩, condV (fun hc2 => ?_) (fun hc2 => ?_)⟩
        · simp only [Bool.or_eq_false_iff, decide_eq_false_iff_not] at g
          simp only [InR_i64]; ((try clear hh_i4); omega)
        · have hn := hno (fun q => by rw [hle.1 q] at hc2; cases hc2)
          simp only [vsAll, opA, dstOk, nilSliceOp, resA, retA.eq_1, Nat.reduceLT, ↓reduceIte, eq_self, Tryd.results32, fail hn]
          exact dropR_pure rfl (by (repeat (first | exact HSub_rfl | refine HSub_put_eq (by simp only [vsAll, binA, binLitA, intA, aggA, aggV, boolA, nilA2, isConst, unA, loadA, loadRow, partA, partOk, fieldAddrA, indexAddrA, indexA, fieldA, extractA, lenA, nilCheckA, boxA, boxZ, cellA, cellsA, fillA, okParts, buildSliceA, buildMutA, makeSliceA, partIdx, elemsA, lensA, ifaceA, convA, mmA, pickA, okAll, stAll, opsA, partsA, partsOk, opA, allocA, boxMutA, newCells, okCells, storeObj, appendA, guardV, taA, nM, mapUpA, lookA, sliceA, sliceS, boundsA, opO, okO, copyA, dstOk, nilA, quietOk, nilSliceOp, deferV, panA, resA, argFr, retA.eq_1, retA.eq_2, Nat.reduceAdd, Nat.reduceSub, Nat.reduceMul, Nat.reduceLT, Nat.reduceLeDiff, Nat.reduceEqDiff, Nat.reduceBEq, Int.reduceAdd, Int.reduceSub, Int.reduceMul, Int.reduceNeg, Int.reduceLE, Int.reduceLT, Int.reduceEq, Int.reduceNe, Int.reduceToNat, ↓reduceIte, reduceCtorEq, implies_true, forall_const, eq_self, ne_eq, wtAll, Tryd.ntmps32, Tryd.results32, hh_i4]) ?_ | refine HSub_drop2 (by simp only [eq_self, hh_i4]) ?_ | refine HSub_keep_eq (by simp only [vsAll, binA, binLitA, intA, aggA, aggV, boolA, nilA2, isConst, unA, loadA, loadRow, partA, partOk, fieldAddrA, indexAddrA, indexA, fieldA, extractA, lenA, nilCheckA, boxA, boxZ, cellA, cellsA, fillA, okParts, buildSliceA, buildMutA, makeSliceA, partIdx, elemsA, lensA, ifaceA, convA, mmA, pickA, okAll, stAll, opsA, partsA, partsOk, opA, allocA, boxMutA, newCells, okCells, storeObj, appendA, guardV, taA, nM, mapUpA, lookA, sliceA, sliceS, boundsA, opO, okO, copyA, dstOk, nilA, quietOk, nilSliceOp, deferV, panA, resA, argFr, retA.eq_1, retA.eq_2, Nat.reduceAdd, Nat.reduceSub, Nat.reduceMul, Nat.reduceLT, Nat.reduceLeDiff, Nat.reduceEqDiff, Nat.reduceBEq, Int.reduceAdd, Int.reduceSub, Int.reduceMul, Int.reduceNeg, Int.reduceLE, Int.reduceLT, Int.reduceEq, Int.reduceNe, Int.reduceToNat, ↓reduceIte, reduceCtorEq, implies_true, forall_const, eq_self, ne_eq, wtAll, Tryd.ntmps32, Tryd.results32, hh_i4]) ?_)))
        · have hk := hle.2 hc2
          simp only [vsAll, binA, binLitA, intA, opA, dstOk, nilSliceOp, Nat.reduceLT, Nat.reduceEqDiff, ↓reduceIte, eq_self]
          refine ⟨by simp only [InR_i64]; ((try clear hh_i4); omega), loop_next (i + 1) ⟨by ((try clear hh_i4); omega), hnx hk⟩ (by ((try clear hh_i4); omega)) ?_ ?_⟩
          · simp only [vsAll, Nat.reduceEqDiff, ↓reduceIte, eq_self, Int.natCast_add, Int.natCast_one]
          · (repeat (first | exact HSub_rfl | refine HSub_put_eq (by simp only [vsAll, binA, binLitA, intA, aggA, aggV, boolA, nilA2, isConst, unA, loadA, loadRow, partA, partOk, fieldAddrA, indexAddrA, indexA, fieldA, extractA, lenA, nilCheckA, boxA, boxZ, cellA, cellsA, fillA, okParts, buildSliceA, buildMutA, makeSliceA, partIdx, elemsA, lensA, ifaceA, convA, mmA, pickA, okAll, stAll, opsA, partsA, partsOk, opA, allocA, boxMutA, newCells, okCells, storeObj, appendA, guardV, taA, nM, mapUpA, lookA, sliceA, sliceS, boundsA, opO, okO, copyA, dstOk, nilA, quietOk, nilSliceOp, deferV, panA, resA, argFr, retA.eq_1, retA.eq_2, Nat.reduceAdd, Nat.reduceSub, Nat.reduceMul, Nat.reduceLT, Nat.reduceLeDiff, Nat.reduceEqDiff, Nat.reduceBEq, Int.reduceAdd, Int.reduceSub, Int.reduceMul, Int.reduceNeg, Int.reduceLE, Int.reduceLT, Int.reduceEq, Int.reduceNe, Int.reduceToNat, ↓reduceIte, reduceCtorEq, implies_true, forall_const, eq_self, ne_eq, wtAll, Tryd.ntmps32, Tryd.results32, hh_i4]) ?_ | refine HSub_drop2 (by simp only [eq_self, hh_i4]) ?_ | refine HSub_keep_eq (by simp only [vsAll, binA, binLitA, intA, aggA, aggV, boolA, nilA2, isConst, unA, loadA, loadRow, partA, partOk, fieldAddrA, indexAddrA, indexA, fieldA, extractA, lenA, nilCheckA, boxA, boxZ, cellA, cellsA, fillA, okParts, buildSliceA, buildMutA, makeSliceA, partIdx, elemsA, lensA, ifaceA, convA, mmA, pickA, okAll, stAll, opsA, partsA, partsOk, opA, allocA, boxMutA, newCells, okCells, storeObj, appendA, guardV, taA, nM, mapUpA, lookA, sliceA, sliceS, boundsA, opO, okO, copyA, dstOk, nilA, quietOk, nilSliceOp, deferV, panA, resA, argFr, retA.eq_1, retA.eq_2, Nat.reduceAdd, Nat.reduceSub, Nat.reduceMul, Nat.reduceLT, Nat.reduceLeDiff, Nat.reduceEqDiff, Nat.reduceBEq, Int.reduceAdd, Int.reduceSub, Int.reduceMul, Int.reduceNeg, Int.reduceLE, Int.reduceLT, Int.reduceEq, Int.reduceNe, Int.reduceToNat, ↓reduceIte, reduceCtorEq, implies_true, forall_const, eq_self, ne_eq, wtAll, Tryd.ntmps32, Tryd.results32, hh_i4]) ?_))
      · have ei : i = s.hs.length := by omega
        subst ei
        simp only [vsAll, opA, dstOk, nilSliceOp, Nat.reduceLT, ↓reduceIte, eq_self]
        refine vs_loop (σ := Nat) (fun i => i ≤ s.sh.length ∧ ∀ j, j < i → okS (s.sh.getD j sh0)) (fun i => [(1, .rptr 1 2 (fun _ => s.cs) 0 0), (5, i64 i)]) (fun _ => H) (fun i => s.sh.length - i) 0 ⟨Nat.zero_le _, fun j hj => absurd hj (by omega)⟩ ?_ (HSub.refl _) fun i hi2 => ?_
        · simp only [vsAll, Nat.reduceEqDiff, ↓reduceIte, eq_self, Int.natCast_zero]
        · obtain ⟨hi2, hall2⟩ := hi2
          simp only [vsAll, binA, binLitA, intA, loadA, loadRow, partA, partOk, fieldAddrA, lenA, opA, dstOk, Nat.reduceLT, Nat.reduceEqDiff, ↓reduceIte, eq_self, wtAll]
          refine condD (fun hd2 => ?_) (fun hd2 => ?_)
          · have hio : i < s.sh.length := by omega
            simp only [vsAll, loadA, loadRow, partA, partOk, fieldAddrA, indexAddrA, cellA, cellsA, okAll, stAll, opsA, opA, allocA, newCells, okCells, storeObj, dstOk, Nat.reduceAdd, Nat.reduceLT, Nat.reduceEqDiff, ↓reduceIte, eq_self, wtAll, shF_at]
            refine ⟨⟨by omega, by omega⟩, hio, ?_⟩
            intro i6 hh_i6; (try simp only [Hp.set_none, ite_none] at hh_i6)
            have hle : ∀ x : Sh, okS x ↔ (!(decide (0 ≤ x.fr) && decide (x.fr ≤ 16)) || !(decide (0 ≤ x.nd) && decide (x.nd ≤ 50)) || !(decide (1 ≤ x.td) && decide (x.td ≤ 6))) = false := fun x => by
              unfold okS
              simp only [Bool.or_eq_false_iff, Bool.not_eq_false', Bool.and_eq_true, decide_eq_true_eq]
              ((try clear hh_i6); omega)
            have hle := hle (s.sh.getD i sh0)
            have hnx : okS (s.sh.getD i sh0) → ∀ j, j < i + 1 → okS (s.sh.getD j sh0) := fun h j hj => by
              by_cases e : j = i
              · rw [e]; exact h
              · exact hall2 j (by ((try clear hh_i6); omega))
            have hno : ¬ okS (s.sh.getD i sh0) → ¬ Ok s := fun h k => h (k.s i hio)
            generalize s.sh.getD i sh0 = x at *
            refine callK_pure (in_tri _ _ _ _) ?_
            simp only [vsAll, unA, loadA, loadRow, partA, partOk, fieldAddrA, opA, guardV, dstOk, Nat.reduceLT, Nat.reduceEqDiff, ↓reduceIte, implies_true, eq_self, wtAll]
            refine gcall _ (fun g => ⟨by simp only [vsAll, opA], by simp only [vsAll, okAll, opsA, opA, ↓reduceIte, eq_self, g], in_tri x.nd 0 50 _⟩) ?_
            simp only [vsAll, unA, loadA, loadRow, partA, partOk, fieldAddrA, pickA, opA, guardV, dstOk, Nat.reduceLT, Nat.reduceEqDiff, ↓reduceIte, implies_true, eq_self, wtAll]
            refine gcall _ (fun g => ⟨by simp only [vsAll, opA], by simp only [vsAll, okAll, opsA, opA, ↓reduceIte, eq_self, g], in_tri x.td 1 6 _⟩) ?_
            simp only [vsAll, unA, pickA, opA, guardV, dstOk, Nat.reduceLT, Nat.reduceEqDiff, ↓reduceIte, implies_true, eq_self]
            refine condV (fun hc2 => ?_) (fun hc2 => ?_)
            · have hn := hno (fun q => by rw [hle.1 q] at hc2; cases hc2)
              simp only [vsAll, opA, dstOk, nilSliceOp, resA, retA.eq_1, Nat.reduceLT, ↓reduceIte, eq_self, Tryd.results32, fail hn]
              exact dropR_pure rfl (by (repeat (first | exact HSub_rfl | refine HSub_put_eq (by simp only [vsAll, binA, binLitA, intA, aggA, aggV, boolA, nilA2, isConst, unA, loadA, loadRow, partA, partOk, fieldAddrA, indexAddrA, indexA, fieldA, extractA, lenA, nilCheckA, boxA, boxZ, cellA, cellsA, fillA, okParts, buildSliceA, buildMutA, makeSliceA, partIdx, elemsA, lensA, ifaceA, convA, mmA, pickA, okAll, stAll, opsA, partsA, partsOk, opA, allocA, boxMutA, newCells, okCells, storeObj, appendA, guardV, taA, nM, mapUpA, lookA, sliceA, sliceS, boundsA, opO, okO, copyA, dstOk, nilA, quietOk, nilSliceOp, deferV, panA, resA, argFr, retA.eq_1, retA.eq_2, Nat.reduceAdd, Nat.reduceSub, Nat.reduceMul, Nat.reduceLT, Nat.reduceLeDiff, Nat.reduceEqDiff, Nat.reduceBEq, Int.reduceAdd, Int.reduceSub, Int.reduceMul, Int.reduceNeg, Int.reduceLE, Int.reduceLT, Int.reduceEq, Int.reduceNe, Int.reduceToNat, ↓reduceIte, reduceCtorEq, implies_true, forall_const, eq_self, ne_eq, wtAll, Tryd.ntmps32, Tryd.results32, hh_i6]) ?_ | refine HSub_drop2 (by simp only [eq_self, hh_i6]) ?_ | refine HSub_keep_eq (by simp only [vsAll, binA, binLitA, intA, aggA, aggV, boolA, nilA2, isConst, unA, loadA, loadRow, partA, partOk, fieldAddrA, indexAddrA, indexA, fieldA, extractA, lenA, nilCheckA, boxA, boxZ, cellA, cellsA, fillA, okParts, buildSliceA, buildMutA, makeSliceA, partIdx, elemsA, lensA, ifaceA, convA, mmA, pickA, okAll, stAll, opsA, partsA, partsOk, opA, allocA, boxMutA, newCells, okCells, storeObj, appendA, guardV, taA, nM, mapUpA, lookA, sliceA, sliceS, boundsA, opO, okO, copyA, dstOk, nilA, quietOk, nilSliceOp, deferV, panA, resA, argFr, retA.eq_1, retA.eq_2, Nat.reduceAdd, Nat.reduceSub, Nat.reduceMul, Nat.reduceLT, Nat.reduceLeDiff, Nat.reduceEqDiff, Nat.reduceBEq, Int.reduceAdd, Int.reduceSub, Int.reduceMul, Int.reduceNeg, Int.reduceLE, Int.reduceLT, Int.reduceEq, Int.reduceNe, Int.reduceToNat, ↓reduceIte, reduceCtorEq, implies_true, forall_const, eq_self, ne_eq, wtAll, Tryd.ntmps32, Tryd.results32, hh_i6]) ?_)))
            · have hk := hle.2 hc2
              simp only [vsAll, binA, binLitA, intA, opA, dstOk, nilSliceOp, Nat.reduceLT, Nat.reduceEqDiff, ↓reduceIte, eq_self]
              refine ⟨by simp only [InR_i64]; ((try clear hh_i6); omega), loop_next (i + 1) ⟨by ((try clear hh_i6); omega), hnx hk⟩ (by ((try clear hh_i6); omega)) ?_ ?_⟩
              · simp only [vsAll, Nat.reduceEqDiff, ↓reduceIte, eq_self, Int.natCast_add, Int.natCast_one]
              · (repeat (first | exact HSub_rfl | refine HSub_put_eq (by simp only [vsAll, binA, binLitA, intA, aggA, aggV, boolA, nilA2, isConst, unA, loadA, loadRow, partA, partOk, fieldAddrA, indexAddrA, indexA, fieldA, extractA, lenA, nilCheckA, boxA, boxZ, cellA, cellsA, fillA, okParts, buildSliceA, buildMutA, makeSliceA, partIdx, elemsA, lensA, ifaceA, convA, mmA, pickA, okAll, stAll, opsA, partsA, partsOk, opA, allocA, boxMutA, newCells, okCells, storeObj, appendA, guardV, taA, nM, mapUpA, lookA, sliceA, sliceS, boundsA, opO, okO, copyA, dstOk, nilA, quietOk, nilSliceOp, deferV, panA, resA, argFr, retA.eq_1, retA.eq_2, Nat.reduceAdd, Nat.reduceSub, Nat.reduceMul, Nat.reduceLT, Nat.reduceLeDiff, Nat.reduceEqDiff, Nat.reduceBEq, Int.reduceAdd, Int.reduceSub, Int.reduceMul, Int.reduceNeg, Int.reduceLE, Int.reduceLT, Int.reduceEq, Int.reduceNe, Int.reduceToNat, ↓reduceIte, reduceCtorEq, implies_true, forall_const, eq_self, ne_eq, wtAll, Tryd.ntmps32, Tryd.results32, hh_i6]) ?_ | refine HSub_drop2 (by simp only [eq_self, hh_i6]) ?_ | refine HSub_keep_eq (by simp only [vsAll, binA, binLitA, intA, aggA, aggV, boolA, nilA2, isConst, unA, loadA, loadRow, partA, partOk, fieldAddrA, indexAddrA, indexA, fieldA, extractA, lenA, nilCheckA, boxA, boxZ, cellA, cellsA, fillA, okParts, buildSliceA, buildMutA, makeSliceA, partIdx, elemsA, lensA, ifaceA, convA, mmA, pickA, okAll, stAll, opsA, partsA, partsOk, opA, allocA, boxMutA, newCells, okCells, storeObj, appendA, guardV, taA, nM, mapUpA, lookA, sliceA, sliceS, boundsA, opO, okO, copyA, dstOk, nilA, quietOk, nilSliceOp, deferV, panA, resA, argFr, retA.eq_1, retA.eq_2, Nat.reduceAdd, Nat.reduceSub, Nat.reduceMul, Nat.reduceLT, Nat.reduceLeDiff, Nat.reduceEqDiff, Nat.reduceBEq, Int.reduceAdd, Int.reduceSub, Int.reduceMul, Int.reduceNeg, Int.reduceLE, Int.reduceLT, Int.reduceEq, Int.reduceNe, Int.reduceToNat, ↓reduceIte, reduceCtorEq, implies_true, forall_const, eq_self, ne_eq, wtAll, Tryd.ntmps32, Tryd.results32, hh_i6]) ?_))
          · have ei : i = s.sh.length := by omega
            have hk : decide (Ok s) = true := decide_eq_true ⟨hN.1, hN.2, hall, by rw [← ei]; exact hall2⟩
            simp only [vsAll, opA, dstOk, nilSliceOp, resA, retA.eq_1, Nat.reduceLT, ↓reduceIte, eq_self, Tryd.results32, hk]
            exact dropR_pure rfl (by (repeat (first | exact HSub_rfl | refine HSub_put_eq (by simp only [vsAll, binA, binLitA, intA, aggA, aggV, boolA, nilA2, isConst, unA, loadA, loadRow, partA, partOk, fieldAddrA, indexAddrA, indexA, fieldA, extractA, lenA, nilCheckA, boxA, boxZ, cellA, cellsA, fillA, okParts, buildSliceA, buildMutA, makeSliceA, partIdx, elemsA, lensA, ifaceA, convA, mmA, pickA, okAll, stAll, opsA, partsA, partsOk, opA, allocA, boxMutA, newCells, okCells, storeObj, appendA, guardV, taA, nM, mapUpA, lookA, sliceA, sliceS, boundsA, opO, okO, copyA, dstOk, nilA, quietOk, nilSliceOp, deferV, panA, resA, argFr, retA.eq_1, retA.eq_2, Nat.reduceAdd, Nat.reduceSub, Nat.reduceMul, Nat.reduceLT, Nat.reduceLeDiff, Nat.reduceEqDiff, Nat.reduceBEq, Int.reduceAdd, Int.reduceSub, Int.reduceMul, Int.reduceNeg, Int.reduceLE, Int.reduceLT, Int.reduceEq, Int.reduceNe, Int.reduceToNat, ↓reduceIte, reduceCtorEq, implies_true, forall_const, eq_self, ne_eq, wtAll, Tryd.ntmps32, Tryd.results32]) ?_ | refine HSub_drop2 (by simp only [vsAll, binA, binLitA, intA, aggA, aggV, boolA, nilA2, isConst, unA, loadA, loadRow, partA, partOk, fieldAddrA, indexAddrA, indexA, fieldA, extractA, lenA, nilCheckA, boxA, boxZ, cellA, cellsA, fillA, okParts, buildSliceA, buildMutA, makeSliceA, partIdx, elemsA, lensA, ifaceA, convA, mmA, pickA, okAll, stAll, opsA, partsA, partsOk, opA, allocA, boxMutA, newCells, okCells, storeObj, appendA, guardV, taA, nM, mapUpA, lookA, sliceA, sliceS, boundsA, opO, okO, copyA, dstOk, nilA, quietOk, nilSliceOp, deferV, panA, resA, argFr, retA.eq_1, retA.eq_2, Nat.reduceAdd, Nat.reduceSub, Nat.reduceMul, Nat.reduceLT, Nat.reduceLeDiff, Nat.reduceEqDiff, Nat.reduceBEq, Int.reduceAdd, Int.reduceSub, Int.reduceMul, Int.reduceNeg, Int.reduceLE, Int.reduceLT, Int.reduceEq, Int.reduceNe, Int.reduceToNat, ↓reduceIte, reduceCtorEq, implies_true, forall_const, eq_self, ne_eq, wtAll, Tryd.ntmps32, Tryd.results32]) ?_ | refine HSub_keep_eq (by simp only [vsAll, binA, binLitA, intA, aggA, aggV, boolA, nilA2, isConst, unA, loadA, loadRow, partA, partOk, fieldAddrA, indexAddrA, indexA, fieldA, extractA, lenA, nilCheckA, boxA, boxZ, cellA, cellsA, fillA, okParts, buildSliceA, buildMutA, makeSliceA, partIdx, elemsA, lensA, ifaceA, convA, mmA, pickA, okAll, stAll, opsA, partsA, partsOk, opA, allocA, boxMutA, newCells, okCells, storeObj, appendA, guardV, taA, nM, mapUpA, lookA, sliceA, sliceS, boundsA, opO, okO, copyA, dstOk, nilA, quietOk, nilSliceOp, deferV, panA, resA, argFr, retA.eq_1, retA.eq_2, Nat.reduceAdd, Nat.reduceSub, Nat.reduceMul, Nat.reduceLT, Nat.reduceLeDiff, Nat.reduceEqDiff, Nat.reduceBEq, Int.reduceAdd, Int.reduceSub, Int.reduceMul, Int.reduceNeg, Int.reduceLE, Int.reduceLT, Int.reduceEq, Int.reduceNe, Int.reduceToNat, ↓reduceIte, reduceCtorEq, implies_true, forall_const, eq_self, ne_eq, wtAll, Tryd.ntmps32, Tryd.results32]) ?_)))

/-- Ships have small numbers. -/
theorem Ok.td {s : Sl} (k : Ok s) {i : Nat} (hi : i < s.sh.length) : okS (s.sh.getD i sh0) := k.s i hi
theorem any_range {p : Nat → Bool} {n : Nat} : ((List.range n).any p) = true ↔ ∃ j, j < n ∧ p j = true := by
  simp [List.any_eq_true]
end Go.Proofs.YtnmgegodkmgdeaaDoor
end
section
set_option linter.unusedVariables false
namespace Go.V
set_option linter.unusedSectionVars false
variable [Inhabited GivT]
theorem AV.Le.nil (st : Nat) (f : Nat → List AV) : AV.Le (.lit (.slice none 0 0)) (.rsl 0 st f) := by
  intro S v hv
  have := hv.lit_inv
  subst this
  exact .rsl0
end Go.V
end
section
set_option linter.unusedVariables false
set_option linter.unusedSimpArgs false
namespace Go.V
set_option linter.unusedSectionVars false
variable [Inhabited GivT]
theorem tri_inv {P : Program} {T : TypeId} {nm : String} {f : FuncId} {recv : AV} {args : List AV} {H : Hp} {R : Res → Hp → Prop} (hm : methT P T nm f) (h : Tri P (fnA f) (recv :: args) H R) :
    Tri P (.func (.method nm) [] []) (.iface T recv :: args) H R := by
  intro S vf vs hH hvf ha
  cases hvf with
  | @func _ _ _ ws us hn hu h1 h2 =>
    have hws : ws = #[] := by simpa using hn
    subst hws
    have hus : us = #[] := by simpa using hu
    subst hus
    obtain ⟨hlen, hall⟩ := ha
    cases vs with
    | nil => simp at hlen
    | cons x vs =>
      have hx := hall 0 (by simp)
      simp only [List.getD_cons_zero] at hx
      cases hx with
      | @iface _ _ cv hcv =>
        obtain ⟨nx, e1, e2⟩ := h S (.func (.func f) #[] #[]) (cv :: vs) hH (.func rfl rfl (fun k hk => absurd hk (by simp)) (fun k hk => absurd hk (by simp)))
          ⟨by simpa using hlen, fun k hk => by
            cases k with
            | zero => exact hcv
            | succ k => simpa using hall (k+1) (by simpa using hk)⟩
        refine ⟨nx, ?_, e2⟩
        rw [← e1]
        simp only [Deferred.ofValue, Sem.run_bind, Sem.run_pure, Result.andThen_ok, invoke]
        have a1 : (#[] ++ (Value.iface T cv :: vs).toArray : Array Value)[0]? = some (.iface T cv) := by simp
        have a2 : (#[] ++ (Value.iface T cv :: vs).toArray : Array Value).extract 1 (#[] ++ (Value.iface T cv :: vs).toArray : Array Value).size = vs.toArray := by
          apply Array.toList_inj.1; simp
        simp only [a1, a2, hm cv vs.toArray S.w]
        congr 2
        simp
end Go.V
end
section
set_option linter.unusedVariables false
namespace Go.V
set_option linter.unusedSectionVars false
variable [Inhabited GivT]
theorem frz_stepB {S : St} {H : Hp} {id st n : Nat} {f : Nat → List AV} (hH : HRel S H) (ho : H id = some (.box st n f)) :
    ∃ S2, S2.w = S.w ∧ Le S S2 ∧ HRel S2 (H.del id) ∧ ∀ i j v, VRel S (.ref id 0 st i j) v → VRel S2 (.rptr n st f i j) v := by
  obtain ⟨b, c, e, hl, hb, hni, hc⟩ := hH.obj id _ ho
  have hle := S.frz_le b
  refine ⟨S.frz b, rfl, hle, ?_, ?_⟩
  · refine ⟨fun i hi => ⟨?_, (hH.fresh i hi).2⟩, ?_, ?_, ?_, fun p hp => (hH.giv p hp).mono hle⟩
    · simp only [Hp.del]; split
      · rfl
      · exact (hH.fresh i hi).1
    · rintro x (hx | rfl)
      · exact hH.immlt x hx
      · exact (Array.getElem?_eq_some_iff.1 hb).1
    · intro i o hi
      have ne : i ≠ id := by intro e; simp [Hp.del, e] at hi
      rw [Hp.del_ne _ ne] at hi
      have old := hH.obj i o hi
      have hne : ∀ x, S.loc i o.gen = .blk x → x ≠ b := fun x hx e => ne (hH.inj i id o _ x hi ho hx (by subst e; exact hl))
      cases o with
      | box st' n' f' =>
        obtain ⟨b', c', e', h1, h2, h3, h4⟩ := old
        exact ⟨b', c', e', h1, h2, fun hx => hx.elim h3 (hne b' h1), h4.1, h4.2.1, fun i j hi hj => (h4.2.2 i j hi hj).mono hle⟩
      | row st' n' f' =>
        obtain ⟨g1, old⟩ := old
        refine ⟨g1, old.imp (fun x => x) ?_⟩
        rintro ⟨b', c', e', h1, h2, h3, h4⟩
        exact ⟨b', c', e', h1, h2, fun hx => hx.elim h3 (hne b' h1), h4.1, h4.2.1, fun i j hi hj => (h4.2.2 i j hi hj).mono hle⟩
      | memo F =>
        obtain ⟨b', es, k, h1, h2, h3, h4⟩ := old
        exact ⟨b', es, k, h1, h2, fun hx => hx.elim h3 (hne b' h1), h4⟩
      | raw o =>
        obtain ⟨b', h1, h2, h3, h4⟩ := old
        exact ⟨b', h1, h2, h3, fun hx => hx.elim h4 (hne b' h1)⟩
      | loop l n s ps assign body st pend did =>
        obtain ⟨h1, h2, fn, tmps, D, h3, h4, h5, h6⟩ := old
        exact ⟨h1, fun hx => hx.elim h2 (hne l h1), fn, tmps, D, h3, h4, h5.mono hle, h6⟩
    · intro i j o o' x hi hj
      have ne : i ≠ id := by intro e; simp [Hp.del, e] at hi
      have ne' : j ≠ id := by intro e; simp [Hp.del, e] at hj
      rw [Hp.del_ne _ ne] at hi
      rw [Hp.del_ne _ ne'] at hj
      exact hH.inj i j o o' x hi hj
  · intro i j v this
    cases this with
    | ref hl' =>
      rw [hl] at hl'; cases hl'
      have := VRel.rptr (S := S.frz b) (i := i) (j := j) (off := 0) (.inr rfl) hb (by rw [Nat.zero_add]; exact hc.1) hc.2.1 (fun i j hi hj => by rw [Nat.zero_add]; exact (hc.2.2 i j hi hj).mono hle)
      rw [Nat.zero_add] at this
      exact this

/-- The box becomes its data in every slot that points to it. -/
theorem Ent.freezeB {s s' : Fr} {ds : List AD} {H : Hp} {K : Fr → List AD → Hp → Prop} {id st n : Nat} {f : Nat → List AV} (ho : H id = some (.box st n f))
    (hs : ∀ t, s' t = s t ∨ ∃ i j, s t = .ref id 0 st i j ∧ s' t = .rptr n st f i j) (h : K s' ds (H.del id)) : Ent s ds H K := by
  intro S a hH hF hD
  obtain ⟨S2, hw, hle, h2, hc⟩ := frz_stepB hH ho
  refine ⟨S2, s', ds, H.del id, hw, hle, h2, fun t => ?_, hD.mono hle, h⟩
  rcases hs t with e | ⟨i, j, e1, e2⟩
  · rw [e]; exact (hF t).mono hle
  · rw [e2]
    have := hF t
    rw [e1] at this
    exact hc _ _ _ this

/-- A rule for a smaller heap holds for the larger one. -/
theorem Tri.less {P : Program} {fv : AV} {args : List AV} {H H' : Hp} {R : Res → Hp → Prop} (hs : HSub H H') (h : Tri P fv args H' R) : Tri P fv args H R :=
  fun S vf vs hH => h S vf vs (hH.sub hs)
end Go.V
end
section
namespace Go.V
set_option linter.unusedSectionVars false
variable [Inhabited GivT]
variable {α : Type}
/-- What is told of two, where either may be missing. -/
def comb (join : α → α → α) : Option α → Option α → Option α
  | none, y => y
  | some a, none => some a
  | some a, some b => some (join a b)
theorem comb_none (join : α → α → α) (x : Option α) : comb join x none = x := by cases x <;> rfl
theorem none_comb (join : α → α → α) (x : Option α) : comb join none x = x := rfl
theorem comb_assoc {join : α → α → α} (hj : ∀ a b c, join (join a b) c = join a (join b c)) (x y z : Option α) : comb join (comb join x y) z = comb join x (comb join y z) := by
  cases x <;> cases y <;> cases z <;> simp [comb, hj]
/-- Of all of a list. -/
def foldJ (join : α → α → α) : List α → Option α
  | [] => none
  | a :: l => comb join (some a) (foldJ join l)
theorem foldJ_append {join : α → α → α} (hj : ∀ a b c, join (join a b) c = join a (join b c)) (l l' : List α) : foldJ join (l ++ l') = comb join (foldJ join l) (foldJ join l') := by
  induction l with
  | nil => rfl
  | cons a l ih => simp only [List.cons_append, foldJ, ih, comb_assoc hj]
theorem foldJ_map {join : α → α → α} {f : α → α} (hf : ∀ a b, f (join a b) = join (f a) (f b)) (l : List α) : foldJ join (l.map f) = (foldJ join l).map f := by
  induction l with
  | nil => rfl
  | cons a l ih =>
    simp only [List.map_cons, foldJ, ih]
    cases foldJ join l with
    | none => rfl
    | some b => simp only [comb, Option.map_some, hf]
theorem foldJ_flat {β : Type} {join : α → α → α} (hj : ∀ a b c, join (join a b) c = join a (join b c)) (f : β → List α) (l : List β) (acc : Option α) :
    l.foldl (fun z p => comb join z (foldJ join (f p))) acc = comb join acc (foldJ join (l.flatMap f)) := by
  induction l generalizing acc with
  | nil => simp [foldJ, comb_none]
  | cons p l ih =>
    simp only [List.foldl_cons, ih, List.flatMap_cons, foldJ_append hj, comb_assoc hj]
end Go.V
end
section
set_option linter.unusedVariables false
set_option linter.unusedSimpArgs false
namespace Go.V
set_option linter.unusedSectionVars false
variable [Inhabited GivT]
theorem tri_bound {P : Program} {f : FuncId} {recv : AV} {args : List AV} {H : Hp} {R : Res → Hp → Prop} (h : Tri P (fnA f) (recv :: args) H R) :
    Tri P (.func (.func f) [recv] []) args H R := by
  intro S vf vs hH hvf ha
  cases hvf with
  | @func _ _ _ ws us hn hu h1 h2 =>
    have hw : ∃ x, ws = #[x] := by
      have : ws.size = 1 := by simpa using hn
      exact ⟨ws[0], Array.ext (by simp [this]) (fun i h1 h2 => by
        have : i = 0 := by simp at h2; omega
        subst this; rfl)⟩
    obtain ⟨x, rfl⟩ := hw
    have hus : us = #[] := by simpa using hu
    subst hus
    have hx := h1 0 (by simp)
    simp only [List.getD_cons_zero] at hx
    have hx' : VRel S recv x := by simpa [Array.getD_eq_getD_getElem?] using hx
    obtain ⟨nx, e1, e2⟩ := h S (.func (.func f) #[] #[]) (x :: vs) hH (.func rfl rfl (fun k hk => absurd hk (by simp)) (fun k hk => absurd hk (by simp)))
        ⟨by simp [ha.1], fun k hk => by
          cases k with
          | zero => exact hx'
          | succ k => simpa using ha.2 k (by simpa using hk)⟩
    refine ⟨nx, ?_, e2⟩
    rw [← e1]
    simp only [Deferred.ofValue, Sem.run_bind, Sem.run_pure, Result.andThen_ok, invoke]
    simp
end Go.V
end
section
set_option linter.unusedVariables false
set_option linter.unusedSimpArgs false
namespace Go.V
set_option linter.unusedSectionVars false
variable [Inhabited GivT]
theorem mapM_all {α β : Type} {f : α → Option β} {g : α → β} : ∀ {l : List α}, (∀ a ∈ l, f a = some (g a)) → l.mapM f = some (l.map g)
  | [], _ => rfl
  | a :: l, h => by
    rw [List.mapM_cons, h a (by simp), mapM_all (fun b hb => h b (by simp [hb]))]; rfl

def keyJ (P : Program) : Nat → TypeId → Option Nat
  | 0, _ => none
  | d + 1, T => match P.underlying T with
    | some (.int .i64) => if P.cellsOf T = 1 then some 1 else none
    | some (.array n e) => match d, P.underlying e with
      | _ + 1, some (.int .i64) => if P.cellsOf e = 1 ∧ P.cellsOf T = n then some n else none
      | _, _ => none
    | some (.struct fs) => match keyFs P (keyJ P d) fs.toList 0 with
      | some n => if P.cellsOf T = n then some n else none
      | none => none
    | _ => none

theorem keyJ_spec {P : Program} : ∀ (d : Nat) (T n : Nat), keyJ P d T = some n → P.cellsOf T = n ∧
    ∀ D, d ≤ D → ∀ l : List Int, l.length = n → (∀ x ∈ l, (Lit.int .i64 x).wf = true) → P.keyLits D T (l.map (Value.int .i64)) = some (l.map (Lit.int .i64))
  | 0, _, _, h => by simp [keyJ] at h
  | d + 1, T, n, h => by
    simp only [keyJ] at h
    split at h
    case h_4 => cases h
    case h_1 hu =>
      split at h
      case isFalse => cases h
      case isTrue hc =>
        cases h
        refine ⟨hc, fun D hD l hl hw => ?_⟩
        obtain ⟨D', rfl⟩ : ∃ D', D = D' + 1 := ⟨D - 1, by omega⟩
        match l, hl with
        | [a], _ =>
          have := hw a (by simp)
          simp [Program.keyLits, hu, this]
    case h_2 m e hu =>
      split at h
      case h_2 => cases h
      case h_1 hd he =>
        split at h
        case isFalse => cases h
        case isTrue hc =>
          cases h
          refine ⟨hc.2, fun D hD l hl hw => ?_⟩
          obtain ⟨D', rfl⟩ : ∃ D', D = D' + 2 := ⟨D - 2, by omega⟩
          subst hl
          have key : ∀ i ∈ List.range l.length, P.keyLits (D' + 1) e (((l.map (Value.int .i64)).drop (i * P.cellsOf e)).take (P.cellsOf e)) = some [Lit.int .i64 (l.getD i 0)] := fun i hi => by
            rw [List.mem_range] at hi
            have e1 : ((l.map (Value.int .i64)).drop (i * P.cellsOf e)).take (P.cellsOf e) = [Value.int .i64 (l.getD i 0)] := by
              rw [hc.1, Nat.mul_one, List.drop_eq_getElem_cons (by simpa using hi)]
              simp [List.getD, hi]
            have hm : l.getD i 0 ∈ l := by simp [List.getD, hi]
            rw [e1]
            have hw2 := hw _ hm
            unfold Program.keyLits
            simp only [he, hw2, and_self, if_true]
          rw [Program.keyLits]
          rotate_left 3
          · exact hu
          simp only [List.length_map, hc.2, if_true]
          rw [mapM_all key, Option.map_some]
          congr 1
          have : ∀ l : List Int, ((List.range l.length).map fun i => [Lit.int .i64 (l.getD i 0)]).flatten = l.map (Lit.int .i64) := fun l => by
            rw [← List.flatMap_def]
            apply List.ext_getElem?
            intro j
            induction l generalizing j with
            | nil => simp
            | cons a l ih =>
              rw [List.length_cons, List.range_succ_eq_map, List.flatMap_cons, List.flatMap_map]
              cases j with
              | zero => simp
              | succ j => simpa using ih j
          exact this l
    case h_3 fs hu =>
      split at h
      case h_2 => cases h
      case h_1 n' hk =>
        split at h
        case isFalse => cases h
        case isTrue hc =>
          cases h
          refine ⟨hc, fun D hD l hl hw => ?_⟩
          obtain ⟨D', rfl⟩ : ∃ D', D = D' + 1 := ⟨D - 1, by omega⟩
          subst hl
          obtain ⟨hn, Ls, hm, hfl⟩ := keyFs_spec (P := P) (D := D') (g := keyJ P d) (l := l) (fun T n hT => by
            obtain ⟨g1, g2⟩ := keyJ_spec d T n hT
            refine ⟨g1, fun o ho => ?_⟩
            have := g2 D' (by omega) ((l.drop o).take n) (by simp; omega) (fun x hx => hw x (List.mem_of_mem_drop (List.mem_of_mem_take hx)))
            rw [← this, List.map_take, List.map_drop]) fs.toList 0 hk (by omega)
          have hall : fs.all (fun f => f.name != "_") = true := by
            rw [Array.all_eq_true_iff_forall_mem]
            intro f hf
            have := hn f (by simpa using hf)
            simpa using this
          simp only [Program.keyLits, hu, List.length_map, hc, hall, true_and, if_true, hm, Option.map_some, hfl, List.drop_zero]

theorem keyOf_intsJ {P : Program} {k d n : Nat} (hi : keyJ P d k = some n) (hd : d ≤ P.types.size + 1) (hk : P.keyType k = true) (hs : (match P.underlying k with | some (.array _ _) | some (.struct _) => true | _ => false) = true)
    {l : List Int} (hl : l.length = n) (hf : (Value.agg (l.map (Value.int .i64)).toArray).formed P k = true) (hw : ∀ x ∈ l, (Lit.int .i64 x).wf = true) : ∃ s, keyOf P k (.agg (l.map (Value.int .i64)).toArray) = some s := by
  obtain ⟨_, h2⟩ := keyJ_spec d k n hi
  have := h2 (P.types.size + 1) hd l hl hw
  unfold keyOf
  split at hs
  · rename_i e; rw [e]; simp only [hk, hf, Bool.and_self, if_true, Value.cells, List.toList_toArray, this]; exact ⟨_, rfl⟩
  · rename_i e; rw [e]; simp only [hk, hf, Bool.and_self, if_true, Value.cells, List.toList_toArray, this]; exact ⟨_, rfl⟩
  · cases hs
end Go.V
end
section
set_option linter.unusedVariables false
set_option linter.unusedSimpArgs false
namespace Go.V
set_option linter.unusedSectionVars false
variable [Inhabited GivT]
/-- The same value, with some leaves told otherwise. -/
inductive FrzX (L : AV → AV → Prop) : AV → AV → Prop
  | same (x : AV) : FrzX L x x
  | leaf {x y : AV} (h : L x y) : FrzX L x y
  | agg {cs cs' : List AV} (hl : cs'.length = cs.length) (h : ∀ k, k < cs.length → FrzX L (cs.getD k .any) (cs'.getD k .any)) : FrzX L (.agg cs) (.agg cs')
  | tuple {cs cs' : List AV} (hl : cs'.length = cs.length) (h : ∀ k, k < cs.length → FrzX L (cs.getD k .any) (cs'.getD k .any)) : FrzX L (.tuple cs) (.tuple cs')
  | rptr {n st i j : Nat} {f g : Nat → List AV} (hl : ∀ k, k < n → (f k).length = st → (g k).length = st) (h : ∀ k l, k < n → l < st → FrzX L ((f k).getD l .any) ((g k).getD l .any)) : FrzX L (.rptr n st f i j) (.rptr n st g i j)
  | func {fn : Fn} {a b a' b' : List AV} (hl : a'.length = a.length) (hm : b'.length = b.length) (h : ∀ k, k < a.length → FrzX L (a.getD k .any) (a'.getD k .any)) (h' : ∀ k, k < b.length → FrzX L (b.getD k .any) (b'.getD k .any)) : FrzX L (.func fn a b) (.func fn a' b')

theorem FrzX.conv {L : AV → AV → Prop} {S S2 : St} (hle : Le S S2) (hc : ∀ x y, L x y → ∀ v, VRel S x v → VRel S2 y v) {x y : AV} (hxy : FrzX L x y) : ∀ v, VRel S x v → VRel S2 y v := by
  induction hxy with
  | same x => intro v hv; exact hv.mono hle
  | leaf h => intro v hv; exact hc _ _ h v hv
  | agg hl h ih =>
    intro v hv
    cases hv with
    | agg hn hv => exact .agg (hn.trans hl.symm) fun k hk => ih k (by omega) _ (hv k (by omega))
  | tuple hl h ih =>
    intro v hv
    cases hv with
    | tuple hn hv => exact .tuple (hn.trans hl.symm) fun k hk => ih k (by omega) _ (hv k (by omega))
  | @rptr n st i j f g hl h ih =>
    intro v hv
    cases hv with
    | rptr hi hb hsz hf hh =>
      exact .rptr (hle.imm _ hi) ((hle.keep _ hi).trans hb) hsz (fun k hk => hl k hk (hf k hk)) (fun k l hk hl2 => ih k l hk hl2 _ (hh k l hk hl2))
  | func hl hm h h' ih ih' =>
    intro v hv
    cases hv with
    | func hn hn' h1 h2 => exact .func (hn.trans hl.symm) (hn'.trans hm.symm) (fun k hk => ih k (by omega) _ (h1 k (by omega))) (fun k hk => ih' k (by omega) _ (h2 k (by omega)))

def Lb (id st n : Nat) (f : Nat → List AV) (x y : AV) : Prop := ∃ i j, x = .ref id 0 st i j ∧ y = .rptr n st f i j
def Lr (id st n : Nat) (f : Nat → List AV) (x y : AV) : Prop := x = .sl id st n ∧ ∃ g, (∀ i, i < n → f i = g i) ∧ y = .rsl n st g

end Go.V
end
section
set_option linter.unusedVariables false
set_option linter.unusedSimpArgs false
namespace Go.V
set_option linter.unusedSectionVars false
variable [Inhabited GivT]
theorem Ent.step {s : Fr} {ds : List AD} {H : Hp} {K : Fr → List AD → Hp → Prop} (h : Ent s ds H fun s ds H => Ent s ds H K) : Ent s ds H K := Ent.bind h fun _ _ _ h => h
end Go.V
end
section
set_option linter.unusedVariables false
namespace Go.V
set_option linter.unusedSectionVars false
variable [Inhabited GivT]
theorem Tri.args {P : Program} {fv : AV} {args args' : List AV} {H : Hp} {R : Res → Hp → Prop} (t : Tri P fv args' H R) (hl : args'.length = args.length) (h : ∀ k, k < args.length → AV.Le (args.getD k .any) (args'.getD k .any)) : Tri P fv args H R :=
  fun S vf vs hH hf ha => t S vf vs hH hf ⟨by rw [ha.1, hl], fun k hk => h k (by omega) S _ (ha.2 k (by omega))⟩
end Go.V
end
section
set_option linter.unusedVariables false
set_option linter.unusedSimpArgs false
set_option maxHeartbeats 4000000
set_option maxRecDepth 100000
namespace Go.Proofs.YtnmgegodkmgdeaaDoor
open Go.V
/-- The tides at which a ship can come on, of the first ones. -/
def tdN (s : Sl) (u : Bool) (i : Nat) : Nat → Nat
  | 0 => 0
  | t + 1 => tdN s u i t + if alR s u i t = 0 then 2 ^ t else 0
theorem tdN_lt (s : Sl) (u : Bool) (i t : Nat) : tdN s u i t < 2 ^ t := by
  induction t with
  | zero => simp [tdN]
  | succ t ih => simp only [tdN, Nat.pow_succ]; split <;> omega
def tideE (s : Sl) (n : Int) : Int := errE s (shipB s n)
def tideV (s : Sl) (u : Bool) (n : Int) : Nat := if tideE s n = 0 then tdN s u n.toNat s.hs.length else 0
theorem errE_no {s : Sl} (h : ¬ Ok s) (v : Bool) : errE s v = 1 := if_neg h
theorem errE_bad {s : Sl} (k : Ok s) : errE s false = 2 := by rw [errE, if_pos k, if_neg (by decide)]
theorem errE_ok {s : Sl} (k : Ok s) : errE s true = 0 := by rw [errE, if_pos k, if_pos rfl]
theorem errE_zero {s : Sl} {v : Bool} (h : errE s v = 0) : Ok s ∧ v = true := by
  unfold errE at h
  split at h
  · rename_i k
    refine ⟨k, ?_⟩
    cases v
    · simp at h
    · rfl
  · omega
theorem shipB_iff (s : Sl) (n : Int) : shipB s n = true ↔ 0 ≤ n ∧ n < s.sh.length := by simp [shipB]; omega
/-- The first ship of a plan at which a rule is broken. -/
def ckO (s : Sl) (u : Bool) (l : List Int) : Option Nat := (List.range l.length).find? fun i => !decide (brT s u i (l.getD i 0) l = 0)
def checkE (s : Sl) (u : Bool) (l : List Int) : Int := if errE s (planB s l) = 0 then if (ckO s u l).isSome = true then 0 else 4 else errE s (planB s l)
def checkW (s : Sl) (u : Bool) (l : List Int) : Nat := if checkE s u l = 0 then (ckO s u l).getD 0 else 0
def checkR (s : Sl) (u : Bool) (l : List Int) : Int := if checkE s u l = 0 then brT s u (checkW s u l) (l.getD (checkW s u l) 0) l else 0
theorem getD_take (l : List Int) (i j : Nat) (h : j < i) : (l.take i).getD j 0 = l.getD j 0 := by
  rw [List.getD_eq_getElem?_getD, List.getD_eq_getElem?_getD, List.getElem?_take_of_lt h]
theorem any_congr {p q : Nat → Bool} (n : Nat) (h : ∀ j, j < n → p j = q j) : (List.range n).any p = (List.range n).any q := by
  rw [Bool.eq_iff_iff, any_range, any_range]
  exact ⟨fun ⟨j, h1, h2⟩ => ⟨j, h1, by rw [← h j h1]; exact h2⟩, fun ⟨j, h1, h2⟩ => ⟨j, h1, by rw [h j h1]; exact h2⟩⟩
theorem brT_congr (s : Sl) (u : Bool) (i : Nat) (t : Int) (b c : List Int) (h : ∀ j, j < i → b.getD j 0 = c.getD j 0) : brT s u i t b = brT s u i t c := by
  rw [brT, brT, any_congr i fun j hj => by rw [h j hj]]
theorem ckO_some {s : Sl} {u : Bool} {l : List Int} {i : Nat} (hi : i < l.length) (h : ¬ brT s u i (l.getD i 0) l = 0) (hall : ∀ j, j < i → brT s u j (l.getD j 0) l = 0) : ckO s u l = some i := by
  unfold ckO
  rw [List.find?_range_eq_some]
  exact ⟨by simpa using h, by simpa using hi, fun j hj => by simpa using hall j hj⟩
theorem ckO_none {s : Sl} {u : Bool} {l : List Int} (hall : ∀ j, j < l.length → brT s u j (l.getD j 0) l = 0) : ckO s u l = none := by
  unfold ckO
  rw [List.find?_eq_none]
  intro j hj
  rw [List.mem_range] at hj
  simpa using hall j hj
theorem ckO_of {s : Sl} {u : Bool} {l : List Int} {i : Nat} (h : ckO s u l = some i) : i < l.length ∧ ¬ brT s u i (l.getD i 0) l = 0 ∧ ∀ j, j < i → brT s u j (l.getD j 0) l = 0 := by
  unfold ckO at h
  rw [List.find?_range_eq_some] at h
  exact ⟨by simpa using h.2.1, by simpa using h.1, fun j hj => by simpa using h.2.2 j hj⟩
end Go.Proofs.YtnmgegodkmgdeaaDoor
end
section
set_option linter.unusedVariables false
set_option linter.unusedSimpArgs false
set_option maxHeartbeats 4000000
set_option maxRecDepth 100000
namespace Go.Proofs.YtnmgegodkmgdeaaDoor
open Go.V
/-- All right plans that go on from some beginning, in order. -/
def pls (s : Sl) (u : Bool) : Nat → List Int → List (List Int)
  | 0, b => [b]
  | n + 1, b => (List.range s.hs.length).flatMap fun t : Nat => if brT s u b.length t b = 0 then pls s u n (b ++ [(t : Int)]) else []
def plsP (s : Sl) (u : Bool) (n : Nat) (b : List Int) (i : Nat) : List (List Int) := (List.range i).flatMap fun t : Nat => if brT s u b.length t b = 0 then pls s u n (b ++ [(t : Int)]) else []
def plsR (s : Sl) (u : Bool) (n : Nat) (b : List Int) (id : Nat) (O : List (List Int)) (H : Hp) : Res → Hp → Prop := fun r H' =>
  r = .ret (.sl id 1 (O ++ pls s u n b).length) ∧ H' = H.set id (.row 1 (O ++ pls s u n b).length (llF (O ++ pls s u n b)))
end Go.Proofs.YtnmgegodkmgdeaaDoor
end
section
set_option linter.unusedVariables false
set_option linter.unusedSimpArgs false
set_option maxHeartbeats 4000000
set_option maxRecDepth 100000
namespace Go.Proofs.YtnmgegodkmgdeaaDoor
open Go.V
/-- All right plans. -/
def rpl (s : Sl) (u : Bool) : List (List Int) := pls s u s.sh.length []
def cntE (s : Sl) : Int := if Ok s then 0 else 1
def cntV (s : Sl) (u : Bool) : Nat := if cntE s = 0 then (rpl s u).length else 0
/-- How long ships wait, of the first ones: together, and the one who waits longest. -/
def wsN (s : Sl) (l : List Int) : Nat → Int
  | 0 => 0
  | i + 1 => wsN s l i + (l.getD i 0 - (s.sh.getD i sh0).fr)
def wmN (s : Sl) (l : List Int) : Nat → Int
  | 0 => 0
  | i + 1 => max (wmN s l i) (l.getD i 0 - (s.sh.getD i sh0).fr)
def ws (s : Sl) (l : List Int) : Int := wsN s l l.length
def wm (s : Sl) (l : List Int) : Int := wmN s l l.length
theorem wmN_b {s : Sl} (k : Ok s) {l : List Int} (hz : ∀ z ∈ l, 0 ≤ z ∧ z ≤ 16) : ∀ i, i ≤ l.length → i ≤ s.sh.length → 0 ≤ wmN s l i ∧ wmN s l i ≤ 16 := by
  intro i
  induction i with
  | zero => intro _ _; simp [wmN]
  | succ i ih =>
    intro h1 h2
    have := ih (by omega) (by omega)
    have hs := k.s i (by omega)
    have hl := hz _ (mem_getD l i 0 (by omega))
    unfold okS at hs
    simp only [wmN]
    omega
end Go.Proofs.YtnmgegodkmgdeaaDoor
end
section
set_option linter.unusedVariables false
set_option linter.unusedSimpArgs false
set_option maxHeartbeats 4000000
set_option maxRecDepth 100000
namespace Go.Proofs.YtnmgegodkmgdeaaDoor
open Go.V
theorem pls_mem {s : Sl} {u : Bool} {n : Nat} {b t : List Int} (h : t ∈ pls s u n b) :
    t.length = b.length + n ∧ (∀ j, j < b.length → t.getD j 0 = b.getD j 0) ∧ ∀ j, b.length ≤ j → j < b.length + n → ∃ q : Nat, q < s.hs.length ∧ t.getD j 0 = (q : Int) ∧ brT s u j q t = 0 := by
  induction n generalizing b with
  | zero =>
    simp only [pls, List.mem_singleton] at h
    subst h
    exact ⟨rfl, fun _ _ => rfl, fun j h1 h2 => by omega⟩
  | succ n ih =>
    simp only [pls, List.mem_flatMap, List.mem_range] at h
    obtain ⟨q, hq, h⟩ := h
    split at h
    · rename_i hb
      obtain ⟨h1, h2, h3⟩ := ih h
      simp only [List.length_append, List.length_cons, List.length_nil] at h1 h2 h3
      have e : ∀ j, j < b.length → t.getD j 0 = b.getD j 0 := fun j hj => by rw [h2 j (by omega), getD_snoc, if_neg (by omega)]
      refine ⟨by omega, e, fun j h4 h5 => ?_⟩
      by_cases ej : j = b.length
      · refine ⟨q, hq, by rw [h2 j (by omega), getD_snoc, if_pos ej], ?_⟩
        rw [ej, ← hb]
        exact brT_congr s u _ _ _ _ fun i hi => e i hi
      · exact h3 j (by omega) (by omega)
    · simp at h
theorem rpl_mem {s : Sl} {u : Bool} {t : List Int} (h : t ∈ rpl s u) : t.length = s.sh.length ∧ ∀ j, j < s.sh.length → ∃ q : Nat, q < s.hs.length ∧ t.getD j 0 = (q : Int) ∧ brT s u j q t = 0 := by
  obtain ⟨h1, _, h3⟩ := pls_mem h
  simp only [List.length_nil, Nat.zero_add] at h1 h3
  exact ⟨h1, fun j hj => h3 j (Nat.zero_le _) hj⟩
theorem rpl_z {s : Sl} {u : Bool} (k : Ok s) {t : List Int} (h : t ∈ rpl s u) : ∀ z ∈ t, 0 ≤ z ∧ z ≤ 16 := fun z hz => by
  obtain ⟨h1, h2⟩ := rpl_mem h
  obtain ⟨j, hj, rfl⟩ := getD_mem 0 hz
  obtain ⟨q, hq, e, _⟩ := h2 j (by omega)
  have := k.nH
  omega
/-- The error where there is no right plan. -/
def rgtE (s : Sl) (u : Bool) : Int := if Ok s then if (rpl s u).length = 0 then 4 else 0 else 1
theorem rgtE_zero {s : Sl} {u : Bool} (h : rgtE s u = 0) : Ok s ∧ 0 < (rpl s u).length := by
  unfold rgtE at h
  split at h
  · rename_i k
    split at h
    · omega
    · exact ⟨k, by omega⟩
  · omega
abbrev nilA : AV := .lit (.slice none 0 0)
def rgtA (s : Sl) (u : Bool) : AV := if rgtE s u = 0 then llAV (rpl s u) else nilA
/-- The first plan with the least measure, of the first ones. -/
def mnP (f : List Int → Int) (L : List (List Int)) : Nat → List Int
  | 0 => L.getD 0 []
  | i + 1 => if f (L.getD i []) < f (mnP f L i) then L.getD i [] else mnP f L i
def bestP (f : List Int → Int) (s : Sl) (u : Bool) : List Int := if rgtE s u = 0 then mnP f (rpl s u) (rpl s u).length else []
def bestA (f : List Int → Int) (s : Sl) (u : Bool) : AV := if rgtE s u = 0 then intsAV (bestP f s u) else nilA
def bestV (f : List Int → Int) (s : Sl) (u : Bool) : Int := if rgtE s u = 0 then f (bestP f s u) else 0
end Go.Proofs.YtnmgegodkmgdeaaDoor
end
section
set_option linter.unusedVariables false
set_option linter.unusedSimpArgs false
set_option maxHeartbeats 4000000
set_option maxRecDepth 100000
namespace Go.Proofs.YtnmgegodkmgdeaaDoor
open Go.V
/-- Does a ship come on before all others? -/
def fstN (l : List Int) (a : Nat) : Nat → Bool
  | 0 => true
  | k + 1 => fstN l a k && (decide (k = a) || decide (l.getD a 0 < l.getD k 0))
def fstB (l : List Int) (a : Nat) : Bool := fstN l a l.length
def favN (s : Sl) (L : List (List Int)) (a : Nat) : Nat → Int
  | 0 => -1
  | i + 1 => if (fstB (L.getD i []) a && (decide (favN s L a i < 0) || decide (wm s (L.getD i []) < favN s L a i))) = true then wm s (L.getD i []) else favN s L a i
def favE (s : Sl) (u : Bool) (n : Int) : Int := if errE s (shipB s n) = 0 then if rgtE s u = 0 then if favN s (rpl s u) n.toNat (rpl s u).length < 0 then 4 else 0 else rgtE s u else errE s (shipB s n)
def favV (s : Sl) (u : Bool) (n : Int) : Int := if favE s u n = 0 then favN s (rpl s u) n.toNat (rpl s u).length else 0
theorem wm_b {s : Sl} {u : Bool} (k : Ok s) {t : List Int} (h : t ∈ rpl s u) : 0 ≤ wm s t ∧ wm s t ≤ 16 := wmN_b k (rpl_z k h) _ (Nat.le_refl _) (by have := (rpl_mem h).1; omega)
def shL (s : Sl) (S : Nat) : Nat → List Sh
  | 0 => []
  | i + 1 => if S.testBit i = true then shL s S i else shL s S i ++ [s.sh.getD i sh0]
def woS (s : Sl) (S : Nat) : Sl := { s with sh := shL s S s.sh.length }
theorem shL_len (s : Sl) (S i : Nat) : (shL s S i).length ≤ i := by
  induction i with
  | zero => exact Nat.le_refl _
  | succ i ih =>
    simp only [shL]
    split
    · omega
    · rw [List.length_append]; simp only [List.length_cons, List.length_nil]; omega
end Go.Proofs.YtnmgegodkmgdeaaDoor
end
section
set_option linter.unusedVariables false
set_option linter.unusedSimpArgs false
namespace Go.V
set_option linter.unusedSectionVars false
/-- The first set of a size, from one on, that suits. -/
def inn (f : Nat → Bool) (z : Nat) : Nat → Nat → Option Nat
  | 0, _ => none
  | n + 1, j => if (decide (pop j = z) && f j) = true then some j else inn f z n (j + 1)
def outF (f : Nat → Bool) (m : Nat) : Nat → Nat → Option Nat
  | 0, _ => none
  | n + 1, z => match inn f z (2 ^ m) 0 with
    | some j => some j
    | none => outF f m n (z + 1)
def fewV (f : Nat → Bool) (m : Nat) : Option Nat := outF f m (m + 1) 0
/-- The last of all sets that are smaller than those before. -/
def bsN (f : Nat → Bool) (b : Nat) : Nat → Nat
  | 0 => b
  | j + 1 => if (decide (pop j < pop (bsN f b j)) && f j) = true then j else bsN f b j
theorem bsN_lt (f : Nat → Bool) (b B : Nat) (hb : b < B) : ∀ j, j ≤ B → bsN f b j < B := by
  intro j
  induction j with
  | zero => intro _; exact hb
  | succ j ih => intro hj; simp only [bsN]; split; (· omega); (· exact ih (by omega))
def rset (f : Nat → Bool) (m : Nat) : Option Nat := if f (2 ^ m - 1) = true then some (bsN f (2 ^ m - 1) (2 ^ m)) else none
def setE (e : Int) (r : Option Nat) : Int := if e = 0 then (if r.isSome = true then 0 else 4) else e
def setV (e : Int) (r : Option Nat) : Nat := if setE e r = 0 then r.getD 0 else 0
theorem inn_lt (f : Nat → Bool) (z n : Nat) : ∀ j r, inn f z n j = some r → j ≤ r ∧ r < j + n ∧ pop r = z ∧ f r = true := by
  induction n with
  | zero => intro j r h; cases h
  | succ n ih =>
    intro j r h
    simp only [inn] at h
    split at h
    · rename_i hc
      cases h
      simp only [Bool.and_eq_true, decide_eq_true_eq] at hc
      exact ⟨Nat.le_refl _, by omega, hc.1, hc.2⟩
    · obtain ⟨h1, h2, h3⟩ := ih _ _ h
      exact ⟨by omega, by omega, h3⟩
theorem outF_lt (f : Nat → Bool) (m n : Nat) : ∀ z r, outF f m n z = some r → r < 2 ^ m ∧ f r = true := by
  induction n with
  | zero => intro z r h; cases h
  | succ n ih =>
    intro z r h
    simp only [outF] at h
    split at h
    · rename_i j hj
      cases h
      have := inn_lt _ _ _ _ _ hj
      exact ⟨by omega, this.2.2.2⟩
    · exact ih _ _ h
theorem inn_none (f : Nat → Bool) (z n : Nat) : ∀ j, inn f z n j = none → ∀ i, j ≤ i → i < j + n → f i = true → pop i ≠ z := by
  induction n with
  | zero => intro j _ i h1 h2; omega
  | succ n ih =>
    intro j h i h1 h2 hf he
    simp only [inn] at h
    split at h
    · cases h
    · rename_i hc
      by_cases e : i = j
      · subst e; apply hc; rw [hf, decide_eq_true he]; rfl
      · exact ih (j + 1) h i (by omega) (by omega) hf he
theorem inn_first (f : Nat → Bool) (z n : Nat) : ∀ j r, inn f z n j = some r → ∀ i, j ≤ i → i < j + n → f i = true → pop i = z → r ≤ i := by
  induction n with
  | zero => intro j r h; cases h
  | succ n ih =>
    intro j r h i h1 h2 hf he
    simp only [inn] at h
    split at h
    · cases h; exact h1
    · rename_i hc
      by_cases e : i = j
      · subst e; exfalso; apply hc; rw [hf, decide_eq_true he]; rfl
      · exact ih (j + 1) r h i (by omega) (by omega) hf he
/-- The least set that suits. -/
structure LeastSet (f : Nat → Bool) (m r : Nat) : Prop where
  lt : r < 2 ^ m
  is : f r = true
  le : ∀ i, i < 2 ^ m → f i = true → pop r < pop i ∨ pop r = pop i ∧ r ≤ i
theorem LeastSet.uniq {f : Nat → Bool} {m r r' : Nat} (h : LeastSet f m r) (h' : LeastSet f m r') : r = r' := by
  have h1 := h.le r' h'.lt h'.is
  have h2 := h'.le r h.lt h.is
  omega
theorem outF_some (f : Nat → Bool) (m n : Nat) : ∀ z r, outF f m n z = some r → z ≤ pop r ∧ (∀ i, i < 2 ^ m → f i = true → z ≤ pop i → pop r < pop i ∨ pop r = pop i ∧ r ≤ i) := by
  induction n with
  | zero => intro z r h; cases h
  | succ n ih =>
    intro z r h
    simp only [outF] at h
    split at h
    · rename_i j hj
      cases h
      obtain ⟨_, _, h3, _⟩ := inn_lt _ _ _ _ _ hj
      refine ⟨by omega, fun i hi hf hz => ?_⟩
      by_cases e : pop i = z
      · exact .inr ⟨by omega, inn_first f z _ 0 _ hj i (Nat.zero_le _) (by omega) hf e⟩
      · exact .inl (by omega)
    · rename_i hj
      obtain ⟨h1, h2⟩ := ih (z + 1) r h
      refine ⟨by omega, fun i hi hf hz => ?_⟩
      have := inn_none f z _ 0 hj i (Nat.zero_le _) (by omega) hf
      exact h2 i hi hf (by omega)
theorem outF_none (f : Nat → Bool) (m n : Nat) : ∀ z, outF f m n z = none → ∀ i, i < 2 ^ m → f i = true → z ≤ pop i → z + n ≤ pop i := by
  induction n with
  | zero => intro z _ i _ _ h; exact h
  | succ n ih =>
    intro z h i hi hf hz
    simp only [outF] at h
    split at h
    · cases h
    · rename_i hj
      have := inn_none f z _ 0 hj i (Nat.zero_le _) (by omega) hf
      have := ih (z + 1) h i hi hf (by omega)
      omega
theorem pop_all : ∀ m, m < 9 → ∀ i, i < 256 → i < 2 ^ m → pop i ≤ m ∧ (pop i = m → i = 2 ^ m - 1) := by decide +kernel
theorem pop_full : ∀ m, m < 9 → pop (2 ^ m - 1) = m := by decide +kernel
theorem fewV_some {f : Nat → Bool} {m r : Nat} (h : fewV f m = some r) : LeastSet f m r := by
  obtain ⟨h1, h2⟩ := outF_lt f m (m + 1) 0 r h
  exact ⟨h1, h2, fun i hi hf => (outF_some f m (m + 1) 0 r h).2 i hi hf (Nat.zero_le _)⟩
theorem fewV_none {f : Nat → Bool} {m : Nat} (hm : m ≤ 8) (h : fewV f m = none) : ∀ i, i < 2 ^ m → f i = false := by
  intro i hi
  rw [← Bool.not_eq_true]
  intro hf
  have h1 := outF_none f m (m + 1) 0 h i hi hf (Nat.zero_le _)
  have hp : 2 ^ m ≤ 2 ^ 8 := Nat.pow_le_pow_right (by decide) hm
  have h2 := (pop_all m (by omega) i (by omega) hi).1
  omega
theorem bsN_spec (f : Nat → Bool) (b : Nat) : ∀ j, (bsN f b j = b ∨ (bsN f b j < j ∧ f (bsN f b j) = true)) ∧ pop (bsN f b j) ≤ pop b ∧ ∀ i, i < j → f i = true → pop (bsN f b j) < pop i ∨ pop (bsN f b j) = pop i ∧ (bsN f b j ≤ i ∨ bsN f b j = b) := by
  intro j
  induction j with
  | zero => exact ⟨.inl rfl, Nat.le_refl _, fun i hi => by omega⟩
  | succ j ih =>
    obtain ⟨h1, h2, h3⟩ := ih
    simp only [bsN]
    by_cases hc : (decide (pop j < pop (bsN f b j)) && f j) = true
    · rw [if_pos hc]
      simp only [Bool.and_eq_true, decide_eq_true_eq] at hc
      refine ⟨.inr ⟨by omega, hc.2⟩, by omega, fun i hi hf => ?_⟩
      by_cases e : i = j
      · subst e; exact .inr ⟨rfl, .inl (Nat.le_refl _)⟩
      · have := h3 i (by omega) hf
        exact .inl (by omega)
    · rw [if_neg hc]
      simp only [Bool.and_eq_true, decide_eq_true_eq] at hc
      refine ⟨h1.imp id fun h => ⟨by omega, h.2⟩, h2, fun i hi hf => ?_⟩
      by_cases e : i = j
      · subst e
        have : ¬ pop i < pop (bsN f b i) := fun q => hc ⟨q, hf⟩
        rcases h1 with h | h
        · by_cases q : pop (bsN f b i) = pop i
          · exact .inr ⟨q, .inr h⟩
          · exact .inl (by omega)
        · by_cases q : pop (bsN f b i) = pop i
          · exact .inr ⟨q, .inl (by omega)⟩
          · exact .inl (by omega)
      · exact h3 i (by omega) hf
theorem rset_least {f : Nat → Bool} {m r : Nat} (hm : m ≤ 8) (h : rset f m = some r) : LeastSet f m r := by
  unfold rset at h
  split at h
  · rename_i hf
    cases h
    have hp0 : 0 < 2 ^ m := Nat.pow_pos (by decide)
    have hp : 2 ^ m ≤ 2 ^ 8 := Nat.pow_le_pow_right (by decide) hm
    have hlt := bsN_lt f (2 ^ m - 1) (2 ^ m) (by omega) (2 ^ m) (Nat.le_refl _)
    obtain ⟨h1, h2, h3⟩ := bsN_spec f (2 ^ m - 1) (2 ^ m)
    refine ⟨hlt, ?_, fun i hi hfi => ?_⟩
    · rcases h1 with h | h
      · rw [h]; exact hf
      · exact h.2
    · rcases h3 i hi hfi with q | ⟨q, q2 | q2⟩
      · exact .inl q
      · exact .inr ⟨q, q2⟩
      · refine .inr ⟨q, ?_⟩
        rw [q2] at q
        rw [pop_full m (by omega)] at q
        have := (pop_all m (by omega) i (by omega) hi).2 q.symm
        rw [q2, this]
        exact Nat.le_refl _
  · cases h
section
variable [Inhabited GivT]
noncomputable def cdec (p : Prop) : Bool := @decide p (Classical.propDecidable p)
theorem cdec_iff {p : Prop} : cdec p = true ↔ p := @decide_eq_true_iff p (Classical.propDecidable p)
theorem cdec_no {p : Prop} : cdec p = false ↔ ¬ p := @decide_eq_false_iff_not p (Classical.propDecidable p)
noncomputable def filP {α : Type} (p : α → Prop) (l : List α) : List α := l.filter fun a => cdec (p a)
theorem mem_filP {α : Type} {p : α → Prop} {l : List α} {a : α} : a ∈ filP p l ↔ a ∈ l ∧ p a := by
  rw [filP, List.mem_filter, cdec_iff]
theorem filP_congr {α : Type} {p q : α → Prop} {l : List α} (h : ∀ a ∈ l, (p a ↔ q a)) : filP p l = filP q l := by
  unfold filP
  refine List.filter_congr fun a ha => ?_
  rw [Bool.eq_iff_iff, cdec_iff, cdec_iff, h a ha]
theorem filP_of {α : Type} {p : α → Prop} {f : α → Bool} {l : List α} (h : ∀ a ∈ l, (f a = true ↔ p a)) : l.filter f = filP p l := by
  unfold filP
  refine List.filter_congr fun a ha => ?_
  rw [Bool.eq_iff_iff, h a ha, cdec_iff]
theorem foldJ_perm {α : Type} {join : α → α → α} (hj : ∀ a b c, join (join a b) c = join a (join b c)) (hc : ∀ a b, join a b = join b a) {l l' : List α} (h : l.Perm l') : foldJ join l = foldJ join l' := by
  induction h with
  | nil => rfl
  | cons a _ ih => simp only [foldJ, ih]
  | swap a b l =>
    simp only [foldJ]
    rw [← comb_assoc hj, ← comb_assoc hj]
    congr 1
    simp only [comb, hc]
  | trans _ _ h1 h2 => exact h1.trans h2
/-- Lists told apart. -/
theorem part_perm {α β : Type} (Q : β → α → Prop) (L : List α) : ∀ (C : List β), (C.Pairwise fun c c' => ∀ l ∈ L, ¬ (Q c l ∧ Q c' l)) → (C.flatMap fun c => filP (Q c) L).Perm (filP (fun l => ∃ c, c ∈ C ∧ Q c l) L) := by
  intro C
  induction C with
  | nil =>
    intro _
    have : filP (fun l => ∃ c, c ∈ ([] : List β) ∧ Q c l) L = [] := by
      rw [List.eq_nil_iff_forall_not_mem]
      intro a ha
      obtain ⟨_, c, hc, _⟩ := mem_filP.1 ha
      cases hc
    rw [this]
    exact List.Perm.nil
  | cons c C ih =>
    intro hp
    rw [List.pairwise_cons] at hp
    rw [List.flatMap_cons]
    refine (List.Perm.append_left _ (ih hp.2)).trans ?_
    have e1 : filP (Q c) L = (filP (fun l => ∃ d, d ∈ c :: C ∧ Q d l) L).filter fun a => cdec (Q c a) := by
      unfold filP
      rw [List.filter_filter]
      refine List.filter_congr fun a _ => ?_
      rw [Bool.eq_iff_iff, Bool.and_eq_true, cdec_iff, cdec_iff]
      exact ⟨fun h => ⟨h, c, by simp, h⟩, fun h => h.1⟩
    have e2 : filP (fun l => ∃ d, d ∈ C ∧ Q d l) L = (filP (fun l => ∃ d, d ∈ c :: C ∧ Q d l) L).filter fun a => !(cdec (Q c a)) := by
      unfold filP
      rw [List.filter_filter]
      refine List.filter_congr fun a ha => ?_
      rw [Bool.eq_iff_iff, Bool.and_eq_true, cdec_iff, Bool.not_eq_true', cdec_no, cdec_iff]
      constructor
      · rintro ⟨d, hd, hq⟩
        exact ⟨fun hc => hp.1 d hd a ha ⟨hc, hq⟩, d, by simp [hd], hq⟩
      · rintro ⟨h1, d, hd, hq⟩
        rcases List.mem_cons.1 hd with rfl | hd
        · exact absurd hq h1
        · exact ⟨d, hd, hq⟩
    rw [e1, e2]
    exact List.filter_append_perm _ _


/-- The least number with a property, if there is one. -/
structure MinS (o : Option Int) (S : Int → Prop) : Prop where
  le : ∀ x, S x → ∃ m, o = some m ∧ m ≤ x
  is : ∀ m, o = some m → S m
theorem MinS.uniq {o o' : Option Int} {S : Int → Prop} (h : MinS o S) (h' : MinS o' S) : o = o' := by
  cases ho : o with
  | none =>
    cases ho' : o' with
    | none => rfl
    | some m =>
      obtain ⟨q, hq, _⟩ := h.le m (h'.is m ho')
      rw [ho] at hq; cases hq
  | some m =>
    obtain ⟨q, hq, h1⟩ := h'.le m (h.is m ho)
    obtain ⟨q2, hq2, h2⟩ := h.le q (h'.is q hq)
    rw [ho] at hq2
    cases hq2
    rw [hq]
    congr 1
    omega
theorem MinS.congr {o : Option Int} {S S' : Int → Prop} (h : MinS o S) (e : ∀ x, S x ↔ S' x) : MinS o S' :=
  ⟨fun x hx => h.le x ((e x).2 hx), fun m hm => (e m).1 (h.is m hm)⟩
theorem MinS.some_iff {o : Option Int} {S : Int → Prop} (h : MinS o S) : o.isSome = true ↔ ∃ x, S x := by
  constructor
  · intro ho
    obtain ⟨m, hm⟩ := Option.isSome_iff_exists.1 ho
    exact ⟨m, h.is m hm⟩
  · rintro ⟨x, hx⟩
    obtain ⟨m, hm, _⟩ := h.le x hx
    rw [hm]; rfl
theorem minS_nil : MinS none fun _ => False := ⟨fun x h => h.elim, fun m h => by cases h⟩
theorem minS_comb {o o' : Option Int} {S S' : Int → Prop} (h : MinS o S) (h' : MinS o' S') : MinS (comb min o o') fun x => S x ∨ S' x := by
  constructor
  · rintro x (hx | hx)
    · obtain ⟨m, rfl, hm⟩ := h.le x hx
      cases o' with
      | none => exact ⟨m, rfl, hm⟩
      | some q => exact ⟨min m q, rfl, by omega⟩
    · obtain ⟨m, rfl, hm⟩ := h'.le x hx
      cases o with
      | none => exact ⟨m, rfl, hm⟩
      | some q => exact ⟨min q m, rfl, by omega⟩
  · intro m hm
    cases o with
    | none => exact .inr (h'.is m hm)
    | some q =>
      cases o' with
      | none => exact .inl (h.is m hm)
      | some r =>
        simp only [comb, Option.some.injEq] at hm
        subst hm
        by_cases e : q ≤ r
        · rw [Int.min_eq_left e]; exact .inl (h.is q rfl)
        · rw [Int.min_eq_right (by omega)]; exact .inr (h'.is r rfl)
theorem minS_fold (L : List Int) : MinS (foldJ min L) fun x => x ∈ L := by
  induction L with
  | nil => exact minS_nil.congr fun x => by simp
  | cons a L ih =>
    have h1 : MinS (some a) fun x => x = a := ⟨fun x hx => ⟨a, rfl, by omega⟩, fun m hm => by cases hm; rfl⟩
    exact (minS_comb h1 ih).congr fun x => by simp

def mnG {α : Type} (f : α → Int) (L : List α) (d : α) : Nat → α
  | 0 => L.getD 0 d
  | i + 1 => if f (L.getD i d) < f (mnG f L d i) then L.getD i d else mnG f L d i
theorem mnG_spec {α : Type} (f : α → Int) (L : List α) (d : α) (h : 0 < L.length) : ∀ i, i ≤ L.length → ∃ p, p < L.length ∧ mnG f L d i = L.getD p d ∧ (∀ q, q < i → f (L.getD p d) ≤ f (L.getD q d)) ∧ ∀ q, q < p → f (L.getD p d) < f (L.getD q d) := by
  intro i
  induction i with
  | zero => intro _; exact ⟨0, h, rfl, fun q hq => by omega, fun q hq => by omega⟩
  | succ i ih =>
    intro hi
    obtain ⟨p, hp, e, h1, h2⟩ := ih (by omega)
    simp only [mnG]
    split
    · rename_i hc
      rw [e] at hc
      refine ⟨i, by omega, rfl, fun q hq => ?_, fun q hq => ?_⟩
      · by_cases eq : q = i
        · subst eq; exact Int.le_refl _
        · have := h1 q (by omega); omega
      · have := h1 q (by omega); omega
    · rename_i hc
      rw [e] at hc
      refine ⟨p, hp, e, fun q hq => ?_, h2⟩
      by_cases eq : q = i
      · subst eq; omega
      · exact h1 q (by omega)
end
end Go.V
end
section
set_option linter.unusedVariables false
set_option linter.unusedSimpArgs false
set_option maxHeartbeats 4000000
set_option maxRecDepth 100000
namespace Go.Proofs.YtnmgegodkmgdeaaDoor
open Go.V
theorem shL_mem {s : Sl} {S : Nat} {x : Sh} : ∀ {i : Nat}, i ≤ s.sh.length → x ∈ shL s S i → ∃ j, j < i ∧ S.testBit j = false ∧ x = s.sh.getD j sh0 := by
  intro i
  induction i with
  | zero => intro _ h; simp [shL] at h
  | succ i ih =>
    intro hi h
    simp only [shL] at h
    split at h
    · obtain ⟨j, h1, h2⟩ := ih (by omega) h
      exact ⟨j, by omega, h2⟩
    · rename_i hb
      simp only [List.mem_append, List.mem_singleton] at h
      rcases h with h | h
      · obtain ⟨j, h1, h2⟩ := ih (by omega) h
        exact ⟨j, by omega, h2⟩
      · exact ⟨i, by omega, by simpa using hb, h⟩
theorem woS_ok {s : Sl} (k : Ok s) (S : Nat) : Ok (woS s S) := by
  have hl := shL_len s S s.sh.length
  refine ⟨k.nH, by show (shL s S s.sh.length).length ≤ 5; have := k.nS; omega, k.h, fun i hi => ?_⟩
  obtain ⟨j, h1, _, h2⟩ := shL_mem (Nat.le_refl _) (mem_getD _ i sh0 hi)
  show okS ((shL s S s.sh.length).getD i sh0)
  rw [h2]
  exact k.s j h1
def canB (s : Sl) (u : Bool) (S : Nat) : Bool := decide (0 < (rpl (woS s S) u).length)
def dropV (s : Sl) (u : Bool) : Nat := if cntE s = 0 then bsN (canB s u) (2 ^ s.sh.length - 1) (2 ^ s.sh.length) else 0
theorem ints_tri (a b : List Int) (H : Hp) (ha : a.length < 2 ^ 60) (hb : b.length < 2 ^ 60) : PTri Tryd.prog (fnA 73) [intsAV a, intsAV b] H (boo (decide (a = b))) := by
  refine tri_v0 (fun _ => false) Tryd.func73 (by kernel_rfl) rfl (by simp only [List.length_append, List.length_cons, List.length_nil, Tryd.ntmps73]; decide) ?_
  simp only [vsAll, binA, binLitA, intA, lenA, opA, dstOk, nilSliceOp, argFr, Nat.reduceLT, Nat.reduceEqDiff, ↓reduceIte, reduceCtorEq, eq_self, wtAll, Tryd.ntmps73]
  refine condV (fun hc => ?_) (fun hc => ?_)
  · have : decide (a = b) = false := decide_eq_false fun e => by subst e; simp at hc
    simp only [vsAll, opA, dstOk, nilSliceOp, resA, retA.eq_1, Nat.reduceLT, ↓reduceIte, eq_self, Tryd.results73, this]
  · simp only [Bool.not_eq_false', decide_eq_true_eq] at hc
    simp only [vsAll, opA, dstOk, nilSliceOp, Nat.reduceLT, eq_self]
    refine vs_loop (σ := Nat) (fun i => i ≤ a.length ∧ ∀ j, j < i → a.getD j 0 = b.getD j 0) (fun i => [(0, intsAV a), (1, intsAV b), (5, i64 i)]) (fun _ => H) (fun i => a.length - i) 0 ⟨Nat.zero_le _, fun j hj => absurd hj (by omega)⟩ ?_ ?_ fun i hi => ?_
    · simp only [vsAll, argFr, Nat.reduceEqDiff, ↓reduceIte, reduceCtorEq, eq_self, Int.natCast_zero]
    · simp only [HSub_refl]
    · obtain ⟨hi, hall⟩ := hi
      simp only [vsAll, binA, binLitA, intA, lenA, opA, dstOk, Nat.reduceLT, Nat.reduceEqDiff, ↓reduceIte, reduceCtorEq, eq_self, wtAll]
      refine condD (fun hd => ?_) (fun hd => ?_)
      · simp only [vsAll]
        refine vs_draw 9 (by decide +kernel) ?_
        simp only [vsAll, binA, binLitA, intA, loadA, loadRow, partA, partOk, indexAddrA, opA, dstOk, Nat.reduceLT, Nat.reduceEqDiff, ↓reduceIte, reduceCtorEq, eq_self, wtAll, intF_at]
        refine ⟨by omega, by omega, by omega, by omega, condV (fun hf => ?_) (fun hf => ?_)⟩
        · have : decide (a = b) = false := decide_eq_false fun e => by subst e; simp at hf
          simp only [vsAll, opA, dstOk, nilSliceOp, resA, retA.eq_1, Nat.reduceLT, ↓reduceIte, eq_self, Tryd.results73, this]
        · simp only [Bool.not_eq_false', decide_eq_true_eq] at hf
          simp only [vsAll, binA, binLitA, intA, opA, dstOk, nilSliceOp, Nat.reduceLT, Nat.reduceEqDiff, ↓reduceIte, reduceCtorEq, eq_self]
          refine ⟨by simp only [InR_i64]; omega, loop_next (i + 1) ⟨by omega, fun j hj => ?_⟩ (by omega) ?_ ?_⟩
          · by_cases e : j = i
            · subst e; exact hf
            · exact hall j (by omega)
          · simp only [vsAll, Nat.reduceEqDiff, ↓reduceIte, reduceCtorEq, eq_self, Int.natCast_add, Int.natCast_one]
          · simp only [HSub_refl]
      · have ei : i = a.length := by omega
        subst ei
        have : decide (a = b) = true := decide_eq_true (by
          apply List.ext_getElem (by omega)
          intro j h1 h2
          have := hall j h1
          rw [List.getD_eq_getElem?_getD, List.getD_eq_getElem?_getD, List.getElem?_eq_getElem h1, List.getElem?_eq_getElem h2] at this
          exact this)
        simp only [vsAll, opA, dstOk, nilSliceOp, resA, retA.eq_1, Nat.reduceLT, ↓reduceIte, eq_self, Tryd.results73, this]

end Go.Proofs.YtnmgegodkmgdeaaDoor
end
section
set_option linter.unusedVariables false
set_option linter.unusedSimpArgs false
namespace Go.V
set_option linter.unusedSectionVars false
variable [Inhabited GivT]
theorem wpSIn_rec {F : Fence} {n : Nat} {P : Program} {Q : Exit → Act → List Frame → World → Prop} {a : Act} {cs cs' : List Frame} {w : World} {id : Nat} {ops : Array Oper} {o : Oper} {rest : List Nat} {v : Value}
    (hro : F.round = none) (ho : ops[0]? = some o) (hl : List.range ops.size = 0 :: rest) (hw : Region.wanted o (yielded ops a.tmps) = true) (hx : (execOp a.eval o).run P w = .ok .recover w)
    (hab : ∀ f, o.about P w a.eval = some f → F.fn f) (hrec : recoverD cs = some (v, cs') ∨ (recoverD cs = none ∧ cs' = cs ∧ v = .nilIface))
    (h : wpOpsIn F n P ops (fun e a' w' => Q e a' cs' w') rest (a.put o.dst v) w) : (Code.region id ops false).wpSIn F n P Q a cs w := by
  intro b k hb hr hF hroom
  have hlen : cs'.length = cs.length := by
    rcases hrec with hrec | ⟨_, rfl, _⟩
    · exact recoverD_length hrec
    · rfl
  obtain ⟨e, a', w', hq, harr⟩ := wp_opsIn rest _ _ h b k cs' (hr.trans hro.symm) hF (hlen ▸ hroom)
  refine ⟨e, a', cs', w', hlen, hq, .of_steps (.head (fenced_calm hF hroom rfl) stepR_region (.one ?_ ?_)) harr⟩
  · exact hl ▸ fenced_oper hF hroom ho hab
  rw [hl]
  have hg := stepGR_op (P := P) (b := b) (k := k) (cs := cs) (w := w) (rest := rest) ho hw
  rw [hr, Oper.semAt_none] at hg
  have hfin : ∀ v, (b.atR a (.inRegion ops (0 :: rest) :: k)).finish v = b.atR (a.put o.dst v) (.inRegion ops rest :: k) := by
    intro v; rw [Frame.finish_atR, ho]; rfl
  have hk : (b.atR a (.inRegion ops (0 :: rest) :: k)).kind = .deferred := hb
  have htr := tryRecover_deferred hk cs
  refine step_lone_go ?_
  rw [hg, ← hfin]
  simp only [Frame.atR, hr] at htr ⊢
  rcases hrec with hrec | ⟨hrec, rfl, rfl⟩ <;> simp [stepG.apply, hx, htr, hrec]

theorem wpOpsIn_mono {F : Fence} {n : Nat} {P : Program} {ops : Array Oper} {Q Q' : Exit → Act → World → Prop} (hm : ∀ e a w, Q e a w → Q' e a w) : ∀ (l : List Nat) (a : Act) (w : World), wpOpsIn F n P ops Q l a w → wpOpsIn F n P ops Q' l a w := by
  intro l
  induction l with
  | nil => intro a' w h; exact hm _ _ _ h
  | cons i l ih =>
    intro a' w h
    simp only [wpOpsIn] at h ⊢
    split
    · rename_i e; simp only [e] at h; exact ih _ _ h
    · rename_i o' e
      simp only [e] at h
      split
      · rename_i hw
        rw [if_pos hw] at h
        refine ⟨h.1, ?_⟩
        have h2 := h.2
        generalize (o'.semAt F.round a'.eval).run P w = res at h2 ⊢
        cases res with
        | ok nx w' =>
          cases nx <;> simp only [Oper.uponIn] at h2 ⊢ <;> try exact ih _ _ h2
          · exact ⟨h2.1, h2.2.mono fun e w he => by
              cases e with
              | returned v => exact ih _ _ he
              | panicked ch => exact hm _ _ _ he
              | outgrown => obtain ⟨a0, w0, hx⟩ := he; exact ⟨a0, w0, hm _ _ _ hx⟩⟩
          · exact ⟨h2.1, h2.2.mono fun e w he => by
              cases e with
              | returned v => exact ih _ _ he
              | panicked ch => exact hm _ _ _ he
              | outgrown => obtain ⟨a0, w0, hx⟩ := he; exact ⟨a0, w0, hm _ _ _ hx⟩⟩
          · exact ⟨h2.1, h2.2.mono fun v w he => ih _ _ he⟩
        | halt x w' => cases x <;> simp only [Oper.uponIn] at h2 ⊢ <;> first | exact hm _ _ _ h2 | exact h2
      · rename_i hw; rw [if_neg hw] at h; exact ⟨h.1, ih _ _ h.2⟩

/-- A deferred function: it recovers, then one more operation. -/
theorem ansR {P : Program} {g : FuncId} {fn : Func} {id t1 : Nat} {Tr : TypeId} {p1 : String} {a1 : Array Edge} {o2 : Oper} {m : Option Tmp → Bool} (hf : P.funcs[g]? = some fn)
    (hb : fn.body = some (.region id #[⟨some t1, .call ⟨.builtin .recover, #[], #[]⟩, Tr, p1, a1, none⟩, o2] false))
    (hr : fn.results = #[]) {args : List AV} {H : Hp} {Q : Hp → Prop} {S : St} {vs : Array Value} {u u' : FrameMode} {rv : AV} {cv : Value} (hlen : args.length ≤ fn.ntmps)
    (hrec : ∀ (c₀ : Frame) (cs : List Frame), c₀.mode = u → recoverD (c₀ :: cs) = some (cv, { c₀ with mode := u' } :: cs) ∨ (recoverD (c₀ :: cs) = none ∧ u' = u ∧ cv = .nilIface))
    (hH : HRel S H) (ha : VRels S args vs.toList) (hrv : VRel S rv cv) (h1 : t1 < fn.ntmps)
    (hbody : vcOps P m fn.ntmps [⟨some t1, .call ⟨.builtin .recover, #[], #[]⟩, Tr, p1, a1, none⟩, o2] [o2] (put (argFr args) (some t1) rv) [] H (fun x s ds H' => (x = .normal ∨ x = .ret) ∧ ds = [] ∧ Q H')) :
    CallsDIn Fence.wide 0 P g vs u S.w fun e u2 w => (∃ v, e = .returned v) ∧ u2 = u' ∧ ∃ S' H', S'.w = w ∧ Le S S' ∧ HRel S' H' ∧ Q H' := by
  have hsz : vs.size = args.length := ha.size.1
  refine callsDIn_of_wpSIn hf hb trivial fun c₀ cs hu => ?_
  have hF0 := argFr_rel (n := fn.ntmps) ha
  generalize ha0 : ({ tmps := vs ++ Array.replicate (fn.ntmps - vs.size) undef, defers := [] } : Act) = a0 at hF0 ⊢
  have hn0 : a0.tmps.size = fn.ntmps := by rw [← ha0]; simp; omega
  have hd0 : a0.defers = [] := by rw [← ha0]
  refine wpSIn_rec (cs' := { c₀ with mode := u' } :: cs) (v := cv) (rest := [1]) rfl rfl rfl (by simp [Region.wanted]) (by simp [execOp, resolve, invoke, builtin]) (fun _ _ => trivial) ?_ ?_
  · rcases hrec c₀ cs hu with h | ⟨h, rfl, h'⟩
    · exact .inl h
    · exact .inr ⟨h, by subst hu; rfl, h'⟩
  · have h := vcOps_sound (r := none) (P := P) (m := m) (n := fn.ntmps) (ops := #[⟨some t1, .call ⟨.builtin .recover, #[], #[]⟩, Tr, p1, a1, none⟩, o2]) (.inl rfl) [o2] [1] _ [] H (by simp) rfl hbody S (a0.put (some t1) cv)
      (by simp [Act.put, hn0]) hH (FRel.put (n := fn.ntmps) (d := some t1) hF0 h1 hn0 hrv a0.defers) (by simp [Act.put, hd0]; exact .nil)
    refine wpOpsIn_mono ?_ _ _ _ h
    rintro e a w ⟨S', x, s, ds, H', rfl, hle, hH', hF, hD, hn, hx, hx2, hds, hq⟩
    subst hds
    have hdn := hD.nil_inv
    have hres : (results fn a.tmps).run P S'.w = .ok (.tuple #[]) S'.w := by
      rw [results_eq, hr]; simp
    have fin : a.defers = [] ∧ ∃ u'', { c₀ with mode := u' } :: cs = { c₀ with mode := u'' } :: cs ∧ ∃ v, (results fn a.tmps).run P S'.w = .ok v S'.w ∧ ((∃ v', Ending.returned v = Ending.returned v') ∧ u'' = u' ∧ ∃ S2 H2, S2.w = S'.w ∧ Le S S2 ∧ HRel S2 H2 ∧ Q H2) :=
      ⟨hdn, u', rfl, _, hres, ⟨_, rfl⟩, rfl, S', H', rfl, hle, hH', hq⟩
    cases e with
    | normal => exact fin
    | ret => exact fin
    | exit i => rcases hx2 with rfl | rfl <;> simp [XRel] at hx
    | goto l => rcases hx2 with rfl | rfl <;> simp [XRel] at hx
    | outgrown => rcases hx2 with rfl | rfl <;> simp [XRel] at hx
    | panic ch => rcases hx2 with rfl | rfl <;> simp [XRel] at hx

end Go.V
end
section
set_option linter.unusedVariables false
set_option linter.unusedSimpArgs false
set_option maxHeartbeats 4000000
set_option maxRecDepth 100000
namespace Go.Proofs.YtnmgegodkmgdeaaDoor
open Go.V
/-- The program's refusals: a struct of a number. -/
abbrev rT : RefT := ⟨109, true⟩
abbrev refS (e : Int) : AV := .iface 109 (.agg [i64 e])
theorem within_tri (n lo hi : Int) (H : Hp) : PTri Tryd.prog (fnA 53) [i64 n, i64 lo, i64 hi] H (boo (decide (lo ≤ n) && decide (n ≤ hi))) := by
  refine tri_v0 (fun _ => false) Tryd.func53 (by kernel_rfl) rfl (by simp only [List.length_append, List.length_cons, List.length_nil, Tryd.ntmps53]; decide) ?_
  simp only [vsAll, binA, binLitA, intA, pickA, opA, guardV, dstOk, nilSliceOp, resA, argFr, retA.eq_1, Nat.reduceLT, Nat.reduceEqDiff, ↓reduceIte, reduceCtorEq, implies_true, eq_self, Tryd.ntmps53, Tryd.results53]
theorem want_tri (b : Bool) (e : Int) (H : Hp) : Tri Tryd.prog (fnA 70) [boo b, i64 e] H fun r H' => H' = H ∧ r = if b then .ret (.tuple []) else .pan (refS e) := by
  refine tri_v0 (fun _ => false) Tryd.func70 (by kernel_rfl) rfl (by simp only [List.length_append, List.length_cons, List.length_nil, Tryd.ntmps70]; decide) ?_
  simp only [vsAll, unA, opA, dstOk, argFr, Nat.reduceLT, ↓reduceIte, eq_self, Tryd.ntmps70]
  refine condV (fun hc => ?_) (fun hc => ?_)
  · simp only [Bool.not_eq_true'] at hc
    subst hc
    simp only [vsAll, cellA, cellsA, fillA, okParts, ifaceA, partsA, partsOk, opA, dstOk, panA, argFr, Nat.reduceLT, Nat.reduceEqDiff, ↓reduceIte, eq_self, wtAll]
  · simp only [Bool.not_eq_false'] at hc
    subst hc
    simp only [vsAll, resA, retA.eq_2, ↓reduceIte, eq_self, Tryd.results70]
theorem want_call {b : Bool} {e : Int} {H : Hp} {K : AV → Hp → Prop} {Kp : AV → Hp → Prop} (h1 : b = true → K (.tuple []) H) (h2 : b = false → Kp (refS e) H) :
    CallK Tryd.prog (fnA 70) [boo b, i64 e] H K Kp := by
  refine ⟨_, want_tri b e H, ?_⟩
  rintro r H' ⟨rfl, rfl⟩
  cases b
  · exact h2 rfl
  · exact h1 rfl
theorem said_no (v : AV) (H : Hp) : PTri Tryd.prog (fnA 44) [.lit .nilIface, v] H (.tuple []) := by
  refine tri_v0 (fun _ => false) Tryd.func44 (by kernel_rfl) rfl (by simp only [List.length_append, List.length_cons, List.length_nil, Tryd.ntmps44]; decide) ?_
  simp only [vsAll, binA, binLitA, nilA2, isConst, opA, dstOk, resA, argFr, retA.eq_2, Nat.reduceLT, ↓reduceIte, eq_self, wtAll, Tryd.ntmps44, Tryd.results44]
theorem intT109 : intT Tryd.prog 109 = none := by kernel_rfl
theorem said_err {c : Int} {id : Nat} {f : Nat → List AV} {H : Hp} (ho : H id = some (.box 1 1 f)) (hl : (f 0).length = 1) :
    Tri Tryd.prog (fnA 44) [refS c, .ref id 0 1 0 0] H fun r H' => H' = H.set id (.box 1 1 fun _ => [i64 c]) ∧ r = .ret (.tuple []) := by
  refine Tri.drop ?_
  refine tri_v0 (mset [4]) Tryd.func44 (by kernel_rfl) rfl (by simp only [List.length_append, List.length_cons, List.length_nil, Tryd.ntmps44]; decide) ?_
  simp only [vsAll, binA, nilA2, unA, loadA, loadRow, partA, partOk, fieldAddrA, extractA, nilCheckA, cellA, cellsA, opA, allocA, newCells, okCells, storeObj, taA, dstOk, nilSliceOp, resA, argFr, retA.eq_2, Nat.reduceAdd, Nat.reduceLT, Nat.reduceEqDiff, Nat.reduceBEq, ↓reduceIte, reduceCtorEq, eq_self, wtAll, Tryd.ntmps44, Tryd.results44, intT109]
  intro k hh_k; (try simp only [Hp.set_none, ite_none] at hh_k)
  have hk : ¬ id = k := fun e => by rw [e, hh_k] at ho; cases ho
  simp only [vsAll, Nat.reduceLT, ↓reduceIte, eq_self, ho, hk]
  rw [List.drop_eq_nil_of_le (show (f 0).length ≤ 1 by ((try clear hh_k); omega)), Hp.set_set]
  exact ⟨_, HSub.set (HSub.drop (HSub.refl _) hh_k) (.refl _), rfl, rfl⟩
/-- What a deferred function does. -/
theorem ans_of {g : FuncId} {fn : Func} {id : Nat} {p1 p2 : String} {a1 a2 : Array Edge} {ty : Array TypeId} (hf : Tryd.prog.funcs[g]? = some fn)
    (hb : fn.body = some (.region id #[⟨some 1, .call ⟨.builtin .recover, #[], #[]⟩, 20, p1, a1, none⟩, ⟨some 2, .call ⟨.value (.func 44), #[.tmp 1, .tmp 0], ty⟩, 0, p2, a2, none⟩] false))
    (hr : fn.results = #[]) (hn : fn.ntmps = 3) (he : ∀ (vs : Array Value) (w : World), (callFunc g vs).run Tryd.prog w = .ok (.enter g vs) w) : AnsOk Tryd.prog g rT := by
  refine ⟨fun H id f S vs ho hH ha => ?_, fun H id f c S vs ho hH ha => ?_, he⟩
  · refine (ansR (m := fun _ => false) (args := [.ref id 0 1 0 0]) (Q := fun H' => H' = H) (u' := .returning) (rv := .lit .nilIface) (cv := .nilIface) hf hb hr (by rw [hn]; exact Nat.le_of_ble_eq_true rfl) (fun c₀ cs hu => .inr ⟨by simp [recoverD, hu], rfl, rfl⟩) hH ha (.lit _) (by rw [hn]; decide) ?_).mono ?_
    · simp only [vcOps, vsAll, okAll, stAll, opsA, opA, dstOk, argFr, Nat.reduceLT, ↓reduceIte, reduceCtorEq, eq_self, hn]
      refine callK_pure (said_no _ _) ?_
      simp only [vsAll, eq_self]
    · rintro e u w ⟨h1, h2, S', H', h3, h4, h5, rfl⟩
      exact ⟨h1, h2, S', h3, h4, h5⟩
  · have hl : (f 0).length = 1 := by
      obtain ⟨bb, cc, e, q1, q2, q3, q4⟩ := hH.obj id _ ho
      exact q4.2.1 0 (by omega)
    refine (ansR (m := fun _ => false) (args := [.ref id 0 1 0 0]) (Q := fun H' => H' = H.set id (.box 1 1 fun _ => [i64 c])) (u' := .panicking [{ v := Go.V.refusal rT c, recovered := true }]) (rv := refS c) (cv := Go.V.refusal rT c) hf hb hr (by rw [hn]; exact Nat.le_of_ble_eq_true rfl) (fun c₀ cs hu => .inl (by simp [recoverD, hu])) hH ha (.iface (.agg rfl fun k hk => by
      have : k = 0 := by simp at hk; exact hk
      subst this
      exact .lit _)) (by rw [hn]; decide) ?_).mono ?_
    · simp only [vcOps, vsAll, okAll, stAll, opsA, opA, dstOk, argFr, Nat.reduceLT, ↓reduceIte, reduceCtorEq, eq_self, hn]
      refine ⟨_, said_err ho hl, ?_⟩
      rintro r H' ⟨rfl, rfl⟩
      simp only [vsAll, eq_self]
    · rintro e u w ⟨h1, h2, S', H', h3, h4, h5, rfl⟩
      exact ⟨h1, h2, S', h3, h4, h5⟩
theorem ans43 : AnsOk Tryd.prog 43 rT := ans_of Tryd.func43 rfl rfl rfl fun vs w => by kernel_rfl
theorem ans51 : AnsOk Tryd.prog 51 rT := ans_of Tryd.func51 rfl rfl rfl fun vs w => by kernel_rfl
theorem ans57 : AnsOk Tryd.prog 57 rT := ans_of Tryd.func57 rfl rfl rfl fun vs w => by kernel_rfl
theorem ans62 : AnsOk Tryd.prog 62 rT := ans_of Tryd.func62 rfl rfl rfl fun vs w => by kernel_rfl
theorem ans66 : AnsOk Tryd.prog 66 rT := ans_of Tryd.func66 rfl rfl rfl fun vs w => by kernel_rfl
theorem ans68 : AnsOk Tryd.prog 68 rT := ans_of Tryd.func68 rfl rfl rfl fun vs w => by kernel_rfl
theorem ans71 : AnsOk Tryd.prog 71 rT := ans_of Tryd.func71 rfl rfl rfl fun vs w => by kernel_rfl
end Go.Proofs.YtnmgegodkmgdeaaDoor
end
section
set_option linter.unusedVariables false
set_option linter.unusedSimpArgs false
set_option maxHeartbeats 4000000
set_option maxRecDepth 100000
namespace Go.Proofs.YtnmgegodkmgdeaaDoor
open Go.V
theorem isShip_tri (s : Sl) (n : Int) (H : Hp) (kn : Near s) : PTri Tryd.prog (fnA 46) [s.av, i64 n] H (boo (shipB s n)) := by
  have := kn.n
  refine tri_v0 (fun _ => false) Tryd.func46 (by kernel_rfl) rfl (by simp only [List.length_append, List.length_cons, List.length_nil, Tryd.ntmps46]; decide) ?_
  simp only [vsAll, binA, binLitA, intA, loadA, loadRow, partA, partOk, fieldAddrA, lenA, boxA, boxZ, okAll, stAll, opsA, opA, dstOk, nilSliceOp, argFr, Nat.reduceAdd, Nat.reduceLT, Nat.reduceEqDiff, ↓reduceIte, eq_self, wtAll, Tryd.ntmps46]
  refine ⟨by simp only [InR_i64]; omega, callK_pure (within_tri _ _ _ _) ?_⟩
  simp only [vsAll, opA, dstOk, nilSliceOp, resA, retA.eq_1, Nat.reduceLT, ↓reduceIte, eq_self, Tryd.results46]
  rfl
theorem check_tri (s : Sl) (v : Bool) (H : Hp) (kn : Near s) : Tri Tryd.prog (fnA 78) [s.av, boo v] H fun r H' => H' = H ∧ r = if errE s v = 0 then .ret (.tuple []) else .pan (refS (errE s v)) := by
  have h1 := kn.h
  have h2 := kn.n
  refine Tri.drop ?_
  refine tri_v0 (fun _ => false) Tryd.func78 (by kernel_rfl) rfl (by simp only [List.length_append, List.length_cons, List.length_nil, Tryd.ntmps78]; decide) ?_
  simp only [vsAll, binA, binLitA, intA, loadA, loadRow, partA, partOk, fieldAddrA, lenA, boxA, boxZ, pickA, okAll, stAll, opsA, opA, guardV, dstOk, argFr, Nat.reduceAdd, Nat.reduceLT, Nat.reduceEqDiff, ↓reduceIte, implies_true, eq_self, wtAll, Tryd.ntmps78]
  have bad : ¬ Ok s → errE s v = 1 := fun h => if_neg h
  refine want_call (fun hc => ?_) (fun hc => ?_)
  · simp only [Bool.and_eq_true, decide_eq_true_eq] at hc
    have hN : s.hs.length ≤ 16 ∧ s.sh.length ≤ 5 := by omega
    simp only [vsAll, loadA, loadRow, partA, partOk, fieldAddrA, lenA, opA, dstOk, Nat.reduceLT, Nat.reduceEqDiff, ↓reduceIte, eq_self, wtAll]
    refine vs_loop (σ := Nat) (fun i => i ≤ s.hs.length ∧ ∀ j, j < i → okH (s.hs.getD j (0, 0))) (fun i => [(1, boo v), (2, .rptr 1 2 (fun _ => s.cs) 0 0), (20, spAV s.hs), (21, i64 s.hs.length), (22, i64 i)]) (fun _ => H) (fun i => s.hs.length - i) 0 ⟨Nat.zero_le _, fun j hj => absurd hj (by omega)⟩ ?_ (HSub.refl _) fun i hi => ?_
    · simp only [vsAll, argFr, Nat.reduceEqDiff, ↓reduceIte, eq_self, Int.natCast_zero]
    · obtain ⟨hi, hall⟩ := hi
      simp only [vsAll, binA, binLitA, intA, opA, dstOk, Nat.reduceLT, Nat.reduceEqDiff, ↓reduceIte, eq_self]
      refine condD (fun hd => ?_) (fun hd => ?_)
      · have hio : i < s.hs.length := by omega
        simp only [vsAll, loadA, loadRow, partA, partOk, fieldAddrA, indexAddrA, cellA, cellsA, okAll, stAll, opsA, opA, allocA, newCells, okCells, storeObj, dstOk, Nat.reduceAdd, Nat.reduceLT, Nat.reduceEqDiff, ↓reduceIte, eq_self, wtAll, spF_at]
        refine ⟨by omega, hio, ?_⟩
        intro i5 hh_i5; (try simp only [Hp.set_none, ite_none] at hh_i5)
        have hle : ∀ h : Int × Int, okH h ↔ ((decide (0 ≤ h.1) && decide (h.1 ≤ h.2)) && decide (h.2 ≤ 50) && decide (h.2 - h.1 ≤ 6)) = true := fun h => by
          unfold okH
          simp only [Bool.and_eq_true, decide_eq_true_eq]
          ((try clear hh_i5); omega)
        have hle := hle (s.hs.getD i (0, 0))
        have hnx : okH (s.hs.getD i (0, 0)) → ∀ j, j < i + 1 → okH (s.hs.getD j (0, 0)) := fun h j hj => by
          by_cases e : j = i
          · rw [e]; exact h
          · exact hall j (by ((try clear hh_i5); omega))
        have hno : ¬ okH (s.hs.getD i (0, 0)) → ¬ Ok s := fun h k => h (k.h i hio)
        generalize s.hs.getD i (0, 0) = h at *
        refine callK_pure (within_tri _ _ _ _) ?_
        simp only [vsAll, binA, binLitA, intA, loadA, loadRow, partA, partOk, fieldAddrA, pickA, okAll, stAll, opsA, opA, guardV, dstOk, Nat.reduceLT, Nat.reduceEqDiff, ↓reduceIte, implies_true, eq_self, wtAll]
        refine ⟨fun g => ⟨g, g, ?_⟩, want_call (fun hc2 => ?_) (fun hc2 => ?_)⟩
        · simp only [Bool.and_eq_true, decide_eq_true_eq] at g
          simp only [InR_i64]; ((try clear hh_i5); omega)
        · have hk := hle.2 hc2
          simp only [vsAll, binA, binLitA, intA, opA, dstOk, Nat.reduceLT, Nat.reduceEqDiff, ↓reduceIte, eq_self]
          refine ⟨by simp only [InR_i64]; ((try clear hh_i5); omega), loop_next (i + 1) ⟨by ((try clear hh_i5); omega), hnx hk⟩ (by ((try clear hh_i5); omega)) ?_ ?_⟩
          · simp only [vsAll, Nat.reduceEqDiff, ↓reduceIte, eq_self, Int.natCast_add, Int.natCast_one]
          · (repeat (first | exact HSub_rfl | refine HSub_put_eq (by simp only [vsAll, binA, binLitA, intA, aggA, aggV, boolA, nilA2, isConst, unA, loadA, loadRow, partA, partOk, fieldAddrA, indexAddrA, indexA, fieldA, extractA, lenA, nilCheckA, boxA, boxZ, cellA, cellsA, fillA, okParts, buildSliceA, buildMutA, makeSliceA, partIdx, elemsA, lensA, ifaceA, convA, mmA, pickA, okAll, stAll, opsA, partsA, partsOk, opA, allocA, boxMutA, newCells, okCells, storeObj, appendA, guardV, taA, nM, mapUpA, lookA, sliceA, sliceS, boundsA, opO, okO, copyA, dstOk, nilA, quietOk, nilSliceOp, deferV, panA, resA, argFr, retA.eq_1, retA.eq_2, Nat.reduceAdd, Nat.reduceSub, Nat.reduceMul, Nat.reduceLT, Nat.reduceLeDiff, Nat.reduceEqDiff, Nat.reduceBEq, Int.reduceAdd, Int.reduceSub, Int.reduceMul, Int.reduceNeg, Int.reduceLE, Int.reduceLT, Int.reduceEq, Int.reduceNe, Int.reduceToNat, ↓reduceIte, reduceCtorEq, implies_true, forall_const, eq_self, ne_eq, wtAll, Tryd.ntmps78, Tryd.results78, hh_i5]) ?_ | refine HSub_drop2 (by simp only [eq_self, hh_i5]) ?_ | refine HSub_keep_eq (by simp only [vsAll, binA, binLitA, intA, aggA, aggV, boolA, nilA2, isConst, unA, loadA, loadRow, partA, partOk, fieldAddrA, indexAddrA, indexA, fieldA, extractA, lenA, nilCheckA, boxA, boxZ, cellA, cellsA, fillA, okParts, buildSliceA, buildMutA, makeSliceA, partIdx, elemsA, lensA, ifaceA, convA, mmA, pickA, okAll, stAll, opsA, partsA, partsOk, opA, allocA, boxMutA, newCells, okCells, storeObj, appendA, guardV, taA, nM, mapUpA, lookA, sliceA, sliceS, boundsA, opO, okO, copyA, dstOk, nilA, quietOk, nilSliceOp, deferV, panA, resA, argFr, retA.eq_1, retA.eq_2, Nat.reduceAdd, Nat.reduceSub, Nat.reduceMul, Nat.reduceLT, Nat.reduceLeDiff, Nat.reduceEqDiff, Nat.reduceBEq, Int.reduceAdd, Int.reduceSub, Int.reduceMul, Int.reduceNeg, Int.reduceLE, Int.reduceLT, Int.reduceEq, Int.reduceNe, Int.reduceToNat, ↓reduceIte, reduceCtorEq, implies_true, forall_const, eq_self, ne_eq, wtAll, Tryd.ntmps78, Tryd.results78, hh_i5]) ?_))
        · have hn := hno (fun q => by rw [hle.1 q] at hc2; cases hc2)
          simp only [vsAll, Int.reduceEq, ↓reduceIte, eq_self, bad hn]
          exact ⟨_, by (repeat (first | exact HSub_rfl | refine HSub_put_eq (by simp only [vsAll, binA, binLitA, intA, aggA, aggV, boolA, nilA2, isConst, unA, loadA, loadRow, partA, partOk, fieldAddrA, indexAddrA, indexA, fieldA, extractA, lenA, nilCheckA, boxA, boxZ, cellA, cellsA, fillA, okParts, buildSliceA, buildMutA, makeSliceA, partIdx, elemsA, lensA, ifaceA, convA, mmA, pickA, okAll, stAll, opsA, partsA, partsOk, opA, allocA, boxMutA, newCells, okCells, storeObj, appendA, guardV, taA, nM, mapUpA, lookA, sliceA, sliceS, boundsA, opO, okO, copyA, dstOk, nilA, quietOk, nilSliceOp, deferV, panA, resA, argFr, retA.eq_1, retA.eq_2, Nat.reduceAdd, Nat.reduceSub, Nat.reduceMul, Nat.reduceLT, Nat.reduceLeDiff, Nat.reduceEqDiff, Nat.reduceBEq, Int.reduceAdd, Int.reduceSub, Int.reduceMul, Int.reduceNeg, Int.reduceLE, Int.reduceLT, Int.reduceEq, Int.reduceNe, Int.reduceToNat, ↓reduceIte, reduceCtorEq, implies_true, forall_const, eq_self, ne_eq, wtAll, Tryd.ntmps78, Tryd.results78, hh_i5]) ?_ | refine HSub_drop2 (by simp only [eq_self, hh_i5]) ?_ | refine HSub_keep_eq (by simp only [vsAll, binA, binLitA, intA, aggA, aggV, boolA, nilA2, isConst, unA, loadA, loadRow, partA, partOk, fieldAddrA, indexAddrA, indexA, fieldA, extractA, lenA, nilCheckA, boxA, boxZ, cellA, cellsA, fillA, okParts, buildSliceA, buildMutA, makeSliceA, partIdx, elemsA, lensA, ifaceA, convA, mmA, pickA, okAll, stAll, opsA, partsA, partsOk, opA, allocA, boxMutA, newCells, okCells, storeObj, appendA, guardV, taA, nM, mapUpA, lookA, sliceA, sliceS, boundsA, opO, okO, copyA, dstOk, nilA, quietOk, nilSliceOp, deferV, panA, resA, argFr, retA.eq_1, retA.eq_2, Nat.reduceAdd, Nat.reduceSub, Nat.reduceMul, Nat.reduceLT, Nat.reduceLeDiff, Nat.reduceEqDiff, Nat.reduceBEq, Int.reduceAdd, Int.reduceSub, Int.reduceMul, Int.reduceNeg, Int.reduceLE, Int.reduceLT, Int.reduceEq, Int.reduceNe, Int.reduceToNat, ↓reduceIte, reduceCtorEq, implies_true, forall_const, eq_self, ne_eq, wtAll, Tryd.ntmps78, Tryd.results78, hh_i5]) ?_)), rfl, rfl⟩
      · have ei : i = s.hs.length := by omega
        subst ei
        simp only [vsAll, loadA, loadRow, partA, partOk, fieldAddrA, lenA, opA, dstOk, Nat.reduceLT, Nat.reduceEqDiff, ↓reduceIte, eq_self, wtAll]
        refine vs_loop (σ := Nat) (fun i => i ≤ s.sh.length ∧ ∀ j, j < i → okS (s.sh.getD j sh0)) (fun i => [(1, boo v), (2, .rptr 1 2 (fun _ => s.cs) 0 0), (47, shAV s.sh), (48, i64 s.sh.length), (49, i64 i)]) (fun _ => H) (fun i => s.sh.length - i) 0 ⟨Nat.zero_le _, fun j hj => absurd hj (by omega)⟩ ?_ (HSub.refl _) fun i hi2 => ?_
        · simp only [vsAll, Nat.reduceEqDiff, ↓reduceIte, eq_self, Int.natCast_zero]
        · obtain ⟨hi2, hall2⟩ := hi2
          simp only [vsAll, binA, binLitA, intA, opA, dstOk, Nat.reduceLT, Nat.reduceEqDiff, ↓reduceIte, eq_self]
          refine condD (fun hd2 => ?_) (fun hd2 => ?_)
          · have hio : i < s.sh.length := by omega
            simp only [vsAll, loadA, loadRow, partA, partOk, fieldAddrA, indexAddrA, cellA, cellsA, okAll, stAll, opsA, opA, allocA, newCells, okCells, storeObj, dstOk, Nat.reduceAdd, Nat.reduceLT, Nat.reduceEqDiff, ↓reduceIte, eq_self, wtAll, shF_at]
            refine ⟨by omega, hio, ?_⟩
            intro i7 hh_i7; (try simp only [Hp.set_none, ite_none] at hh_i7)
            have hle : ∀ x : Sh, okS x ↔ ((decide (0 ≤ x.fr) && decide (x.fr ≤ 16)) && (decide (0 ≤ x.nd) && decide (x.nd ≤ 50)) && (decide (1 ≤ x.td) && decide (x.td ≤ 6))) = true := fun x => by
              unfold okS
              simp only [Bool.and_eq_true, decide_eq_true_eq]
              ((try clear hh_i7); omega)
            have hle := hle (s.sh.getD i sh0)
            have hnx : okS (s.sh.getD i sh0) → ∀ j, j < i + 1 → okS (s.sh.getD j sh0) := fun h j hj => by
              by_cases e : j = i
              · rw [e]; exact h
              · exact hall2 j (by ((try clear hh_i7); omega))
            have hno : ¬ okS (s.sh.getD i sh0) → ¬ Ok s := fun h k => h (k.s i hio)
            generalize s.sh.getD i sh0 = x at *
            refine callK_pure (within_tri _ _ _ _) ?_
            simp only [vsAll, loadA, loadRow, partA, partOk, fieldAddrA, opA, guardV, dstOk, Nat.reduceLT, Nat.reduceEqDiff, ↓reduceIte, implies_true, eq_self, wtAll]
            refine gcall _ (fun g => ⟨by simp only [vsAll, opA], by simp only [vsAll, okAll, opsA, opA, ↓reduceIte, eq_self, g], within_tri x.nd 0 50 _⟩) ?_
            simp only [vsAll, loadA, loadRow, partA, partOk, fieldAddrA, pickA, opA, guardV, dstOk, Nat.reduceLT, Nat.reduceEqDiff, ↓reduceIte, implies_true, eq_self, wtAll]
            refine gcall _ (fun g => ⟨by simp only [vsAll, opA], by simp only [vsAll, okAll, opsA, opA, ↓reduceIte, eq_self, g], within_tri x.td 1 6 _⟩) ?_
            simp only [vsAll, pickA, okAll, stAll, opsA, opA, dstOk, Nat.reduceLT, Nat.reduceEqDiff, ↓reduceIte, implies_true, eq_self]
            refine want_call (fun hc2 => ?_) (fun hc2 => ?_)
            · have hk := hle.2 hc2
              simp only [vsAll, binA, binLitA, intA, opA, dstOk, Nat.reduceLT, Nat.reduceEqDiff, ↓reduceIte, eq_self]
              refine ⟨by simp only [InR_i64]; ((try clear hh_i7); omega), loop_next (i + 1) ⟨by ((try clear hh_i7); omega), hnx hk⟩ (by ((try clear hh_i7); omega)) ?_ ?_⟩
              · simp only [vsAll, Nat.reduceEqDiff, ↓reduceIte, eq_self, Int.natCast_add, Int.natCast_one]
              · (repeat (first | exact HSub_rfl | refine HSub_put_eq (by simp only [vsAll, binA, binLitA, intA, aggA, aggV, boolA, nilA2, isConst, unA, loadA, loadRow, partA, partOk, fieldAddrA, indexAddrA, indexA, fieldA, extractA, lenA, nilCheckA, boxA, boxZ, cellA, cellsA, fillA, okParts, buildSliceA, buildMutA, makeSliceA, partIdx, elemsA, lensA, ifaceA, convA, mmA, pickA, okAll, stAll, opsA, partsA, partsOk, opA, allocA, boxMutA, newCells, okCells, storeObj, appendA, guardV, taA, nM, mapUpA, lookA, sliceA, sliceS, boundsA, opO, okO, copyA, dstOk, nilA, quietOk, nilSliceOp, deferV, panA, resA, argFr, retA.eq_1, retA.eq_2, Nat.reduceAdd, Nat.reduceSub, Nat.reduceMul, Nat.reduceLT, Nat.reduceLeDiff, Nat.reduceEqDiff, Nat.reduceBEq, Int.reduceAdd, Int.reduceSub, Int.reduceMul, Int.reduceNeg, Int.reduceLE, Int.reduceLT, Int.reduceEq, Int.reduceNe, Int.reduceToNat, ↓reduceIte, reduceCtorEq, implies_true, forall_const, eq_self, ne_eq, wtAll, Tryd.ntmps78, Tryd.results78, hh_i7]) ?_ | refine HSub_drop2 (by simp only [eq_self, hh_i7]) ?_ | refine HSub_keep_eq (by simp only [vsAll, binA, binLitA, intA, aggA, aggV, boolA, nilA2, isConst, unA, loadA, loadRow, partA, partOk, fieldAddrA, indexAddrA, indexA, fieldA, extractA, lenA, nilCheckA, boxA, boxZ, cellA, cellsA, fillA, okParts, buildSliceA, buildMutA, makeSliceA, partIdx, elemsA, lensA, ifaceA, convA, mmA, pickA, okAll, stAll, opsA, partsA, partsOk, opA, allocA, boxMutA, newCells, okCells, storeObj, appendA, guardV, taA, nM, mapUpA, lookA, sliceA, sliceS, boundsA, opO, okO, copyA, dstOk, nilA, quietOk, nilSliceOp, deferV, panA, resA, argFr, retA.eq_1, retA.eq_2, Nat.reduceAdd, Nat.reduceSub, Nat.reduceMul, Nat.reduceLT, Nat.reduceLeDiff, Nat.reduceEqDiff, Nat.reduceBEq, Int.reduceAdd, Int.reduceSub, Int.reduceMul, Int.reduceNeg, Int.reduceLE, Int.reduceLT, Int.reduceEq, Int.reduceNe, Int.reduceToNat, ↓reduceIte, reduceCtorEq, implies_true, forall_const, eq_self, ne_eq, wtAll, Tryd.ntmps78, Tryd.results78, hh_i7]) ?_))
            · have hn := hno (fun q => by rw [hle.1 q] at hc2; cases hc2)
              simp only [vsAll, Int.reduceEq, ↓reduceIte, eq_self, bad hn]
              exact ⟨_, by (repeat (first | exact HSub_rfl | refine HSub_put_eq (by simp only [vsAll, binA, binLitA, intA, aggA, aggV, boolA, nilA2, isConst, unA, loadA, loadRow, partA, partOk, fieldAddrA, indexAddrA, indexA, fieldA, extractA, lenA, nilCheckA, boxA, boxZ, cellA, cellsA, fillA, okParts, buildSliceA, buildMutA, makeSliceA, partIdx, elemsA, lensA, ifaceA, convA, mmA, pickA, okAll, stAll, opsA, partsA, partsOk, opA, allocA, boxMutA, newCells, okCells, storeObj, appendA, guardV, taA, nM, mapUpA, lookA, sliceA, sliceS, boundsA, opO, okO, copyA, dstOk, nilA, quietOk, nilSliceOp, deferV, panA, resA, argFr, retA.eq_1, retA.eq_2, Nat.reduceAdd, Nat.reduceSub, Nat.reduceMul, Nat.reduceLT, Nat.reduceLeDiff, Nat.reduceEqDiff, Nat.reduceBEq, Int.reduceAdd, Int.reduceSub, Int.reduceMul, Int.reduceNeg, Int.reduceLE, Int.reduceLT, Int.reduceEq, Int.reduceNe, Int.reduceToNat, ↓reduceIte, reduceCtorEq, implies_true, forall_const, eq_self, ne_eq, wtAll, Tryd.ntmps78, Tryd.results78, hh_i7]) ?_ | refine HSub_drop2 (by simp only [eq_self, hh_i7]) ?_ | refine HSub_keep_eq (by simp only [vsAll, binA, binLitA, intA, aggA, aggV, boolA, nilA2, isConst, unA, loadA, loadRow, partA, partOk, fieldAddrA, indexAddrA, indexA, fieldA, extractA, lenA, nilCheckA, boxA, boxZ, cellA, cellsA, fillA, okParts, buildSliceA, buildMutA, makeSliceA, partIdx, elemsA, lensA, ifaceA, convA, mmA, pickA, okAll, stAll, opsA, partsA, partsOk, opA, allocA, boxMutA, newCells, okCells, storeObj, appendA, guardV, taA, nM, mapUpA, lookA, sliceA, sliceS, boundsA, opO, okO, copyA, dstOk, nilA, quietOk, nilSliceOp, deferV, panA, resA, argFr, retA.eq_1, retA.eq_2, Nat.reduceAdd, Nat.reduceSub, Nat.reduceMul, Nat.reduceLT, Nat.reduceLeDiff, Nat.reduceEqDiff, Nat.reduceBEq, Int.reduceAdd, Int.reduceSub, Int.reduceMul, Int.reduceNeg, Int.reduceLE, Int.reduceLT, Int.reduceEq, Int.reduceNe, Int.reduceToNat, ↓reduceIte, reduceCtorEq, implies_true, forall_const, eq_self, ne_eq, wtAll, Tryd.ntmps78, Tryd.results78, hh_i7]) ?_)), rfl, rfl⟩
          · have ei : i = s.sh.length := by omega
            have hk : Ok s := ⟨hN.1, hN.2, hall, by rw [← ei]; exact hall2⟩
            have ee : errE s v = if v = true then 0 else 2 := if_pos hk
            simp only [vsAll, okAll, stAll, opsA, opA, dstOk, Nat.reduceLT, Nat.reduceEqDiff, ↓reduceIte, eq_self]
            refine want_call (fun hc2 => ?_) (fun hc2 => ?_)
            · subst hc2
              simp only [vsAll, resA, retA.eq_2, ↓reduceIte, eq_self, Tryd.results78, ee]
              exact ⟨_, by (repeat (first | exact HSub_rfl | refine HSub_put_eq (by simp only [vsAll, binA, binLitA, intA, aggA, aggV, boolA, nilA2, isConst, unA, loadA, loadRow, partA, partOk, fieldAddrA, indexAddrA, indexA, fieldA, extractA, lenA, nilCheckA, boxA, boxZ, cellA, cellsA, fillA, okParts, buildSliceA, buildMutA, makeSliceA, partIdx, elemsA, lensA, ifaceA, convA, mmA, pickA, okAll, stAll, opsA, partsA, partsOk, opA, allocA, boxMutA, newCells, okCells, storeObj, appendA, guardV, taA, nM, mapUpA, lookA, sliceA, sliceS, boundsA, opO, okO, copyA, dstOk, nilA, quietOk, nilSliceOp, deferV, panA, resA, argFr, retA.eq_1, retA.eq_2, Nat.reduceAdd, Nat.reduceSub, Nat.reduceMul, Nat.reduceLT, Nat.reduceLeDiff, Nat.reduceEqDiff, Nat.reduceBEq, Int.reduceAdd, Int.reduceSub, Int.reduceMul, Int.reduceNeg, Int.reduceLE, Int.reduceLT, Int.reduceEq, Int.reduceNe, Int.reduceToNat, ↓reduceIte, reduceCtorEq, implies_true, forall_const, eq_self, ne_eq, wtAll, Tryd.ntmps78, Tryd.results78]) ?_ | refine HSub_drop2 (by simp only [vsAll, binA, binLitA, intA, aggA, aggV, boolA, nilA2, isConst, unA, loadA, loadRow, partA, partOk, fieldAddrA, indexAddrA, indexA, fieldA, extractA, lenA, nilCheckA, boxA, boxZ, cellA, cellsA, fillA, okParts, buildSliceA, buildMutA, makeSliceA, partIdx, elemsA, lensA, ifaceA, convA, mmA, pickA, okAll, stAll, opsA, partsA, partsOk, opA, allocA, boxMutA, newCells, okCells, storeObj, appendA, guardV, taA, nM, mapUpA, lookA, sliceA, sliceS, boundsA, opO, okO, copyA, dstOk, nilA, quietOk, nilSliceOp, deferV, panA, resA, argFr, retA.eq_1, retA.eq_2, Nat.reduceAdd, Nat.reduceSub, Nat.reduceMul, Nat.reduceLT, Nat.reduceLeDiff, Nat.reduceEqDiff, Nat.reduceBEq, Int.reduceAdd, Int.reduceSub, Int.reduceMul, Int.reduceNeg, Int.reduceLE, Int.reduceLT, Int.reduceEq, Int.reduceNe, Int.reduceToNat, ↓reduceIte, reduceCtorEq, implies_true, forall_const, eq_self, ne_eq, wtAll, Tryd.ntmps78, Tryd.results78]) ?_ | refine HSub_keep_eq (by simp only [vsAll, binA, binLitA, intA, aggA, aggV, boolA, nilA2, isConst, unA, loadA, loadRow, partA, partOk, fieldAddrA, indexAddrA, indexA, fieldA, extractA, lenA, nilCheckA, boxA, boxZ, cellA, cellsA, fillA, okParts, buildSliceA, buildMutA, makeSliceA, partIdx, elemsA, lensA, ifaceA, convA, mmA, pickA, okAll, stAll, opsA, partsA, partsOk, opA, allocA, boxMutA, newCells, okCells, storeObj, appendA, guardV, taA, nM, mapUpA, lookA, sliceA, sliceS, boundsA, opO, okO, copyA, dstOk, nilA, quietOk, nilSliceOp, deferV, panA, resA, argFr, retA.eq_1, retA.eq_2, Nat.reduceAdd, Nat.reduceSub, Nat.reduceMul, Nat.reduceLT, Nat.reduceLeDiff, Nat.reduceEqDiff, Nat.reduceBEq, Int.reduceAdd, Int.reduceSub, Int.reduceMul, Int.reduceNeg, Int.reduceLE, Int.reduceLT, Int.reduceEq, Int.reduceNe, Int.reduceToNat, ↓reduceIte, reduceCtorEq, implies_true, forall_const, eq_self, ne_eq, wtAll, Tryd.ntmps78, Tryd.results78]) ?_)), rfl, rfl⟩
            · subst hc2
              simp only [vsAll, Int.reduceEq, ↓reduceIte, eq_self, ee]
              exact ⟨_, by (repeat (first | exact HSub_rfl | refine HSub_put_eq (by simp only [vsAll, binA, binLitA, intA, aggA, aggV, boolA, nilA2, isConst, unA, loadA, loadRow, partA, partOk, fieldAddrA, indexAddrA, indexA, fieldA, extractA, lenA, nilCheckA, boxA, boxZ, cellA, cellsA, fillA, okParts, buildSliceA, buildMutA, makeSliceA, partIdx, elemsA, lensA, ifaceA, convA, mmA, pickA, okAll, stAll, opsA, partsA, partsOk, opA, allocA, boxMutA, newCells, okCells, storeObj, appendA, guardV, taA, nM, mapUpA, lookA, sliceA, sliceS, boundsA, opO, okO, copyA, dstOk, nilA, quietOk, nilSliceOp, deferV, panA, resA, argFr, retA.eq_1, retA.eq_2, Nat.reduceAdd, Nat.reduceSub, Nat.reduceMul, Nat.reduceLT, Nat.reduceLeDiff, Nat.reduceEqDiff, Nat.reduceBEq, Int.reduceAdd, Int.reduceSub, Int.reduceMul, Int.reduceNeg, Int.reduceLE, Int.reduceLT, Int.reduceEq, Int.reduceNe, Int.reduceToNat, ↓reduceIte, reduceCtorEq, implies_true, forall_const, eq_self, ne_eq, wtAll, Tryd.ntmps78, Tryd.results78]) ?_ | refine HSub_drop2 (by simp only [vsAll, binA, binLitA, intA, aggA, aggV, boolA, nilA2, isConst, unA, loadA, loadRow, partA, partOk, fieldAddrA, indexAddrA, indexA, fieldA, extractA, lenA, nilCheckA, boxA, boxZ, cellA, cellsA, fillA, okParts, buildSliceA, buildMutA, makeSliceA, partIdx, elemsA, lensA, ifaceA, convA, mmA, pickA, okAll, stAll, opsA, partsA, partsOk, opA, allocA, boxMutA, newCells, okCells, storeObj, appendA, guardV, taA, nM, mapUpA, lookA, sliceA, sliceS, boundsA, opO, okO, copyA, dstOk, nilA, quietOk, nilSliceOp, deferV, panA, resA, argFr, retA.eq_1, retA.eq_2, Nat.reduceAdd, Nat.reduceSub, Nat.reduceMul, Nat.reduceLT, Nat.reduceLeDiff, Nat.reduceEqDiff, Nat.reduceBEq, Int.reduceAdd, Int.reduceSub, Int.reduceMul, Int.reduceNeg, Int.reduceLE, Int.reduceLT, Int.reduceEq, Int.reduceNe, Int.reduceToNat, ↓reduceIte, reduceCtorEq, implies_true, forall_const, eq_self, ne_eq, wtAll, Tryd.ntmps78, Tryd.results78]) ?_ | refine HSub_keep_eq (by simp only [vsAll, binA, binLitA, intA, aggA, aggV, boolA, nilA2, isConst, unA, loadA, loadRow, partA, partOk, fieldAddrA, indexAddrA, indexA, fieldA, extractA, lenA, nilCheckA, boxA, boxZ, cellA, cellsA, fillA, okParts, buildSliceA, buildMutA, makeSliceA, partIdx, elemsA, lensA, ifaceA, convA, mmA, pickA, okAll, stAll, opsA, partsA, partsOk, opA, allocA, boxMutA, newCells, okCells, storeObj, appendA, guardV, taA, nM, mapUpA, lookA, sliceA, sliceS, boundsA, opO, okO, copyA, dstOk, nilA, quietOk, nilSliceOp, deferV, panA, resA, argFr, retA.eq_1, retA.eq_2, Nat.reduceAdd, Nat.reduceSub, Nat.reduceMul, Nat.reduceLT, Nat.reduceLeDiff, Nat.reduceEqDiff, Nat.reduceBEq, Int.reduceAdd, Int.reduceSub, Int.reduceMul, Int.reduceNeg, Int.reduceLE, Int.reduceLT, Int.reduceEq, Int.reduceNe, Int.reduceToNat, ↓reduceIte, reduceCtorEq, implies_true, forall_const, eq_self, ne_eq, wtAll, Tryd.ntmps78, Tryd.results78]) ?_)), rfl, rfl⟩
  · simp only [Bool.and_eq_false_iff, decide_eq_false_iff_not] at hc
    have e : errE s v = 1 := bad fun k => by have := k.nH; have := k.nS; omega
    simp only [vsAll, Int.reduceEq, ↓reduceIte, eq_self, e]
    exact ⟨_, HSub.refl _, rfl, rfl⟩
end Go.Proofs.YtnmgegodkmgdeaaDoor
end
section
set_option linter.unusedVariables false
set_option linter.unusedSimpArgs false
set_option maxHeartbeats 4000000
set_option maxRecDepth 100000
namespace Go.Proofs.YtnmgegodkmgdeaaDoor
open Go.V
/-- The cells of an opened slip: the slip, whether for sure, and the tides of each of five ships. -/
abbrev slC (s : Sl) (u : Bool) (at' : List AV) : List AV := spAV s.hs :: shAV s.sh :: boo u :: at'
abbrev slP (s : Sl) (u : Bool) (at' : List AV) : AV := .rptr 1 8 (fun _ => slC s u at') 0 0
theorem enoughR_tri (s : Sl) (u : Bool) (i : Nat) (t : Int) (at' : List AV) (H : Hp) (id : Nat) (ho' : H id = some (.box 8 1 fun _ => slC s u at')) (k : Ok s) (hi : i < s.sh.length) : PTri Tryd.prog (fnA 109) [.ref id 0 8 0 0, i64 i, i64 t] H (boo (enB s u i t)) := by
  have nH := k.nH
  have nS := k.nS
  refine tri_v0 (fun _ => false) Tryd.func109 (by kernel_rfl) rfl (by simp only [List.length_append, List.length_cons, List.length_nil, Tryd.ntmps109]; decide) ?_
  simp only [vsAll, binA, binLitA, intA, loadA, loadRow, partA, partOk, fieldAddrA, lenA, nilCheckA, okAll, stAll, opsA, opA, dstOk, nilSliceOp, argFr, Nat.reduceLT, Nat.reduceEqDiff, ↓reduceIte, reduceCtorEq, eq_self, wtAll, Tryd.ntmps109, ho']
  refine ⟨by simp only [InR_i64]; omega, callK_pure (within_tri _ _ _ _) ?_⟩
  simp only [vsAll, unA, opA, dstOk, Nat.reduceLT, ↓reduceIte, eq_self]
  have e0 : enB s u i t = ((decide (0 ≤ t) && decide (t ≤ (s.hs.length : Int) - 1)) && decide ((s.sh.getD i sh0).nd ≤ htI s u t.toNat)) := rfl
  refine condV (fun hc => ?_) (fun hc => ?_)
  · have e : enB s u i t = false := by
      rw [e0]
      simp only [Bool.not_eq_true'] at hc
      rw [hc, Bool.false_and]
    simp only [vsAll, opA, dstOk, nilSliceOp, resA, retA.eq_1, Nat.reduceLT, ↓reduceIte, eq_self, Tryd.results109, e]
  · simp only [Bool.not_eq_false'] at hc
    rw [hc, Bool.true_and] at e0
    simp only [Bool.and_eq_true, decide_eq_true_eq] at hc
    have et : t = (t.toNat : Int) := by omega
    generalize t.toNat = tn at *
    subst et
    have ho : tn < s.hs.length := by omega
    simp only [vsAll, loadA, loadRow, partA, partOk, fieldAddrA, indexAddrA, nilCheckA, opA, dstOk, nilSliceOp, argFr, Nat.reduceLT, Nat.reduceEqDiff, ↓reduceIte, reduceCtorEq, eq_self, wtAll, spF_at, ho']
    refine ⟨by omega, ho, ?_⟩
    have eh : ∀ u, htI s u tn = if u = true then (s.hs.getD tn (0, 0)).1 else (s.hs.getD tn (0, 0)).2 := fun u => rfl
    refine condV (fun hu => ?_) (fun hu => ?_)
    · subst hu
      rw [eh, if_pos rfl] at e0
      simp only [vsAll, binA, binLitA, intA, loadA, loadRow, partA, partOk, fieldAddrA, indexAddrA, nilCheckA, opA, dstOk, nilSliceOp, resA, argFr, retA.eq_1, Nat.reduceLT, Nat.reduceEqDiff, ↓reduceIte, reduceCtorEq, eq_self, wtAll, Tryd.results109, spF_at, ho']
      refine ⟨by omega, ho, ?_⟩
      simp only [vsAll, eq_self, shF_at]
      refine ⟨by omega, hi, ?_⟩
      simp only [eq_self, e0]
    · subst hu
      rw [eh, if_neg (by decide)] at e0
      simp only [vsAll, binA, binLitA, intA, loadA, loadRow, partA, partOk, fieldAddrA, indexAddrA, nilCheckA, opA, dstOk, nilSliceOp, resA, argFr, retA.eq_1, Nat.reduceLT, Nat.reduceEqDiff, ↓reduceIte, reduceCtorEq, eq_self, wtAll, Tryd.results109, shF_at, ho']
      refine ⟨by omega, hi, ?_⟩
      simp only [eq_self, e0]
theorem loneR_tri (s : Sl) (u : Bool) (i : Nat) (t : Int) (at' : List AV) (bef : AV) (H : Hp) (id : Nat) (ho' : H id = some (.box 8 1 fun _ => slC s u at')) (k : Ok s) (hi : i < s.sh.length) (ht : t < 2 ^ 60) : PTri Tryd.prog (fnA 110) [.agg [], .ref id 0 8 0 0, i64 i, i64 t, bef] H (i64 (alR s u i t)) := by
  have nH := k.nH
  have nS := k.nS
  have kx := k.s i hi
  refine Tri.drop ?_
  refine tri_v0 (fun _ => false) Tryd.func110 (by kernel_rfl) rfl (by simp only [List.length_append, List.length_cons, List.length_nil, Tryd.ntmps110]; decide) ?_
  simp only [vsAll, binA, binLitA, intA, loadA, loadRow, partA, partOk, fieldAddrA, indexAddrA, nilCheckA, boxZ, cellA, cellsA, opA, allocA, newCells, okCells, storeObj, dstOk, nilSliceOp, argFr, Nat.reduceAdd, Nat.reduceLT, Nat.reduceEqDiff, ↓reduceIte, eq_self, wtAll, Tryd.ntmps110, shF_at, ho']
  refine ⟨by omega, hi, ?_⟩
  intro ik hh_ik; (try simp only [Hp.set_none, ite_none] at hh_ik)
  have hk : ¬ id = ik := fun e => by rw [e, hh_ik] at ho'; cases ho'
  have ea : alR s u i t = if t < (s.sh.getD i sh0).fr then 1 else if (!enB s u i t || !enB s u i (t + (s.sh.getD i sh0).td)) = true then 2 else 0 := rfl
  have kx2 : okS (s.sh.getD i sh0) := kx
  unfold okS at kx
  generalize hx : s.sh.getD i sh0 = x at *
  refine condV (fun hc => ?_) (fun hc => ?_)
  · rw [if_pos (of_decide_eq_true hc)] at ea
    simp only [vsAll, opA, dstOk, nilSliceOp, resA, retA.eq_1, Nat.reduceLT, ↓reduceIte, eq_self, Tryd.results110, ea]
    exact ⟨_, by (repeat (first | exact HSub_rfl | refine HSub_put_eq (by simp only [vsAll, binA, binLitA, intA, aggA, aggV, boolA, nilA2, isConst, unA, loadA, loadRow, partA, partOk, fieldAddrA, indexAddrA, indexA, fieldA, extractA, lenA, nilCheckA, boxA, boxZ, cellA, cellsA, fillA, okParts, buildSliceA, buildMutA, makeSliceA, partIdx, elemsA, lensA, ifaceA, convA, mmA, pickA, okAll, stAll, opsA, partsA, partsOk, opA, allocA, boxMutA, newCells, okCells, storeObj, appendA, guardV, taA, nM, mapUpA, lookA, sliceA, sliceS, boundsA, opO, okO, copyA, dstOk, nilA, quietOk, nilSliceOp, deferV, panA, resA, argFr, retA.eq_1, retA.eq_2, Nat.reduceAdd, Nat.reduceSub, Nat.reduceMul, Nat.reduceLT, Nat.reduceLeDiff, Nat.reduceEqDiff, Nat.reduceBEq, Int.reduceAdd, Int.reduceSub, Int.reduceMul, Int.reduceNeg, Int.reduceLE, Int.reduceLT, Int.reduceEq, Int.reduceNe, Int.reduceToNat, ↓reduceIte, reduceCtorEq, implies_true, forall_const, eq_self, ne_eq, wtAll, Tryd.ntmps110, Tryd.results110, hh_ik]) ?_ | refine HSub_drop2 (by simp only [eq_self, hh_ik]) ?_ | refine HSub_keep_eq (by simp only [vsAll, binA, binLitA, intA, aggA, aggV, boolA, nilA2, isConst, unA, loadA, loadRow, partA, partOk, fieldAddrA, indexAddrA, indexA, fieldA, extractA, lenA, nilCheckA, boxA, boxZ, cellA, cellsA, fillA, okParts, buildSliceA, buildMutA, makeSliceA, partIdx, elemsA, lensA, ifaceA, convA, mmA, pickA, okAll, stAll, opsA, partsA, partsOk, opA, allocA, boxMutA, newCells, okCells, storeObj, appendA, guardV, taA, nM, mapUpA, lookA, sliceA, sliceS, boundsA, opO, okO, copyA, dstOk, nilA, quietOk, nilSliceOp, deferV, panA, resA, argFr, retA.eq_1, retA.eq_2, Nat.reduceAdd, Nat.reduceSub, Nat.reduceMul, Nat.reduceLT, Nat.reduceLeDiff, Nat.reduceEqDiff, Nat.reduceBEq, Int.reduceAdd, Int.reduceSub, Int.reduceMul, Int.reduceNeg, Int.reduceLE, Int.reduceLT, Int.reduceEq, Int.reduceNe, Int.reduceToNat, ↓reduceIte, reduceCtorEq, implies_true, forall_const, eq_self, ne_eq, wtAll, Tryd.ntmps110, Tryd.results110, hh_ik]) ?_)), rfl, rfl⟩
  · simp only [decide_eq_false_iff_not] at hc
    rw [if_neg (by ((try clear hh_ik); omega))] at ea
    simp only [vsAll, okAll, stAll, opsA, opA, dstOk, argFr, Nat.reduceLT, Nat.reduceEqDiff, ↓reduceIte, eq_self]
    refine callK_pure (enoughR_tri s u i t at' _ id (by simp only [vsAll, ↓reduceIte, eq_self, ho', hk]) k hi) ?_
    simp only [vsAll, binA, binLitA, intA, unA, loadA, loadRow, partA, partOk, fieldAddrA, opA, guardV, dstOk, argFr, Nat.reduceLT, Nat.reduceEqDiff, ↓reduceIte, implies_true, eq_self, wtAll]
    refine ⟨fun g => ⟨g, g, by simp only [InR_i64]; ((try clear hh_ik); omega)⟩, ?_⟩
    refine gcall _ (fun g => ⟨by simp only [vsAll, opA], by simp only [vsAll, okAll, opsA, opA, Nat.reduceEqDiff, ↓reduceIte, eq_self, g], enoughR_tri s u i (t + x.td) at' _ id (by simp only [vsAll, ↓reduceIte, eq_self, ho', hk]) k hi⟩) ?_
    simp only [vsAll, unA, pickA, opA, guardV, dstOk, nilSliceOp, Nat.reduceLT, Nat.reduceEqDiff, ↓reduceIte, implies_true, eq_self]
    refine condV (fun hc2 => ?_) (fun hc2 => ?_)
    · rw [if_pos hc2] at ea
      simp only [vsAll, opA, dstOk, nilSliceOp, resA, retA.eq_1, Nat.reduceLT, ↓reduceIte, eq_self, Tryd.results110, ea]
      exact ⟨_, by (repeat (first | exact HSub_rfl | refine HSub_put_eq (by simp only [vsAll, binA, binLitA, intA, aggA, aggV, boolA, nilA2, isConst, unA, loadA, loadRow, partA, partOk, fieldAddrA, indexAddrA, indexA, fieldA, extractA, lenA, nilCheckA, boxA, boxZ, cellA, cellsA, fillA, okParts, buildSliceA, buildMutA, makeSliceA, partIdx, elemsA, lensA, ifaceA, convA, mmA, pickA, okAll, stAll, opsA, partsA, partsOk, opA, allocA, boxMutA, newCells, okCells, storeObj, appendA, guardV, taA, nM, mapUpA, lookA, sliceA, sliceS, boundsA, opO, okO, copyA, dstOk, nilA, quietOk, nilSliceOp, deferV, panA, resA, argFr, retA.eq_1, retA.eq_2, Nat.reduceAdd, Nat.reduceSub, Nat.reduceMul, Nat.reduceLT, Nat.reduceLeDiff, Nat.reduceEqDiff, Nat.reduceBEq, Int.reduceAdd, Int.reduceSub, Int.reduceMul, Int.reduceNeg, Int.reduceLE, Int.reduceLT, Int.reduceEq, Int.reduceNe, Int.reduceToNat, ↓reduceIte, reduceCtorEq, implies_true, forall_const, eq_self, ne_eq, wtAll, Tryd.ntmps110, Tryd.results110, hh_ik]) ?_ | refine HSub_drop2 (by simp only [eq_self, hh_ik]) ?_ | refine HSub_keep_eq (by simp only [vsAll, binA, binLitA, intA, aggA, aggV, boolA, nilA2, isConst, unA, loadA, loadRow, partA, partOk, fieldAddrA, indexAddrA, indexA, fieldA, extractA, lenA, nilCheckA, boxA, boxZ, cellA, cellsA, fillA, okParts, buildSliceA, buildMutA, makeSliceA, partIdx, elemsA, lensA, ifaceA, convA, mmA, pickA, okAll, stAll, opsA, partsA, partsOk, opA, allocA, boxMutA, newCells, okCells, storeObj, appendA, guardV, taA, nM, mapUpA, lookA, sliceA, sliceS, boundsA, opO, okO, copyA, dstOk, nilA, quietOk, nilSliceOp, deferV, panA, resA, argFr, retA.eq_1, retA.eq_2, Nat.reduceAdd, Nat.reduceSub, Nat.reduceMul, Nat.reduceLT, Nat.reduceLeDiff, Nat.reduceEqDiff, Nat.reduceBEq, Int.reduceAdd, Int.reduceSub, Int.reduceMul, Int.reduceNeg, Int.reduceLE, Int.reduceLT, Int.reduceEq, Int.reduceNe, Int.reduceToNat, ↓reduceIte, reduceCtorEq, implies_true, forall_const, eq_self, ne_eq, wtAll, Tryd.ntmps110, Tryd.results110, hh_ik]) ?_)), rfl, rfl⟩
    · rw [if_neg (by rw [hc2]; decide)] at ea
      simp only [vsAll, opA, dstOk, nilSliceOp, resA, retA.eq_1, Nat.reduceLT, ↓reduceIte, eq_self, Tryd.results110, ea]
      exact ⟨_, by (repeat (first | exact HSub_rfl | refine HSub_put_eq (by simp only [vsAll, binA, binLitA, intA, aggA, aggV, boolA, nilA2, isConst, unA, loadA, loadRow, partA, partOk, fieldAddrA, indexAddrA, indexA, fieldA, extractA, lenA, nilCheckA, boxA, boxZ, cellA, cellsA, fillA, okParts, buildSliceA, buildMutA, makeSliceA, partIdx, elemsA, lensA, ifaceA, convA, mmA, pickA, okAll, stAll, opsA, partsA, partsOk, opA, allocA, boxMutA, newCells, okCells, storeObj, appendA, guardV, taA, nM, mapUpA, lookA, sliceA, sliceS, boundsA, opO, okO, copyA, dstOk, nilA, quietOk, nilSliceOp, deferV, panA, resA, argFr, retA.eq_1, retA.eq_2, Nat.reduceAdd, Nat.reduceSub, Nat.reduceMul, Nat.reduceLT, Nat.reduceLeDiff, Nat.reduceEqDiff, Nat.reduceBEq, Int.reduceAdd, Int.reduceSub, Int.reduceMul, Int.reduceNeg, Int.reduceLE, Int.reduceLT, Int.reduceEq, Int.reduceNe, Int.reduceToNat, ↓reduceIte, reduceCtorEq, implies_true, forall_const, eq_self, ne_eq, wtAll, Tryd.ntmps110, Tryd.results110, hh_ik]) ?_ | refine HSub_drop2 (by simp only [eq_self, hh_ik]) ?_ | refine HSub_keep_eq (by simp only [vsAll, binA, binLitA, intA, aggA, aggV, boolA, nilA2, isConst, unA, loadA, loadRow, partA, partOk, fieldAddrA, indexAddrA, indexA, fieldA, extractA, lenA, nilCheckA, boxA, boxZ, cellA, cellsA, fillA, okParts, buildSliceA, buildMutA, makeSliceA, partIdx, elemsA, lensA, ifaceA, convA, mmA, pickA, okAll, stAll, opsA, partsA, partsOk, opA, allocA, boxMutA, newCells, okCells, storeObj, appendA, guardV, taA, nM, mapUpA, lookA, sliceA, sliceS, boundsA, opO, okO, copyA, dstOk, nilA, quietOk, nilSliceOp, deferV, panA, resA, argFr, retA.eq_1, retA.eq_2, Nat.reduceAdd, Nat.reduceSub, Nat.reduceMul, Nat.reduceLT, Nat.reduceLeDiff, Nat.reduceEqDiff, Nat.reduceBEq, Int.reduceAdd, Int.reduceSub, Int.reduceMul, Int.reduceNeg, Int.reduceLE, Int.reduceLT, Int.reduceEq, Int.reduceNe, Int.reduceToNat, ↓reduceIte, reduceCtorEq, implies_true, forall_const, eq_self, ne_eq, wtAll, Tryd.ntmps110, Tryd.results110, hh_ik]) ?_)), rfl, rfl⟩
theorem enough_tri (s : Sl) (u : Bool) (i : Nat) (t : Int) (at' : List AV) (H : Hp) (k : Ok s) (hi : i < s.sh.length) : PTri Tryd.prog (fnA 109) [slP s u at', i64 i, i64 t] H (boo (enB s u i t)) := by
  have nH := k.nH
  have nS := k.nS
  refine tri_v0 (fun _ => false) Tryd.func109 (by kernel_rfl) rfl (by simp only [List.length_append, List.length_cons, List.length_nil, Tryd.ntmps109]; decide) ?_
  simp only [vsAll, binA, binLitA, intA, loadA, loadRow, partA, partOk, fieldAddrA, lenA, nilCheckA, okAll, stAll, opsA, opA, dstOk, nilSliceOp, argFr, Nat.reduceLT, Nat.reduceEqDiff, ↓reduceIte, reduceCtorEq, eq_self, wtAll, Tryd.ntmps109]
  refine ⟨by simp only [InR_i64]; omega, callK_pure (within_tri _ _ _ _) ?_⟩
  simp only [vsAll, unA, opA, dstOk, Nat.reduceLT, ↓reduceIte, eq_self]
  have e0 : enB s u i t = ((decide (0 ≤ t) && decide (t ≤ (s.hs.length : Int) - 1)) && decide ((s.sh.getD i sh0).nd ≤ htI s u t.toNat)) := rfl
  refine condV (fun hc => ?_) (fun hc => ?_)
  · have e : enB s u i t = false := by
      rw [e0]
      simp only [Bool.not_eq_true'] at hc
      rw [hc, Bool.false_and]
    simp only [vsAll, opA, dstOk, nilSliceOp, resA, retA.eq_1, Nat.reduceLT, ↓reduceIte, eq_self, Tryd.results109, e]
  · simp only [Bool.not_eq_false'] at hc
    rw [hc, Bool.true_and] at e0
    simp only [Bool.and_eq_true, decide_eq_true_eq] at hc
    have et : t = (t.toNat : Int) := by omega
    generalize t.toNat = tn at *
    subst et
    have ho : tn < s.hs.length := by omega
    simp only [vsAll, loadA, loadRow, partA, partOk, fieldAddrA, indexAddrA, nilCheckA, opA, dstOk, nilSliceOp, argFr, Nat.reduceLT, Nat.reduceEqDiff, ↓reduceIte, reduceCtorEq, eq_self, wtAll, spF_at]
    refine ⟨by omega, ho, ?_⟩
    have eh : ∀ u, htI s u tn = if u = true then (s.hs.getD tn (0, 0)).1 else (s.hs.getD tn (0, 0)).2 := fun u => rfl
    refine condV (fun hu => ?_) (fun hu => ?_)
    · subst hu
      rw [eh, if_pos rfl] at e0
      simp only [vsAll, binA, binLitA, intA, loadA, loadRow, partA, partOk, fieldAddrA, indexAddrA, nilCheckA, opA, dstOk, nilSliceOp, resA, argFr, retA.eq_1, Nat.reduceLT, Nat.reduceEqDiff, ↓reduceIte, reduceCtorEq, eq_self, wtAll, Tryd.results109, spF_at]
      refine ⟨by omega, ho, ?_⟩
      simp only [vsAll, eq_self, shF_at]
      refine ⟨by omega, hi, ?_⟩
      simp only [eq_self, e0]
    · subst hu
      rw [eh, if_neg (by decide)] at e0
      simp only [vsAll, binA, binLitA, intA, loadA, loadRow, partA, partOk, fieldAddrA, indexAddrA, nilCheckA, opA, dstOk, nilSliceOp, resA, argFr, retA.eq_1, Nat.reduceLT, Nat.reduceEqDiff, ↓reduceIte, reduceCtorEq, eq_self, wtAll, Tryd.results109, shF_at]
      refine ⟨by omega, hi, ?_⟩
      simp only [eq_self, e0]
theorem lone_tri (s : Sl) (u : Bool) (i : Nat) (t : Int) (at' : List AV) (bef : AV) (H : Hp) (k : Ok s) (hi : i < s.sh.length) (ht : t < 2 ^ 60) : PTri Tryd.prog (fnA 110) [.agg [], slP s u at', i64 i, i64 t, bef] H (i64 (alR s u i t)) := by
  have nH := k.nH
  have nS := k.nS
  have kx := k.s i hi
  refine Tri.drop ?_
  refine tri_v0 (fun _ => false) Tryd.func110 (by kernel_rfl) rfl (by simp only [List.length_append, List.length_cons, List.length_nil, Tryd.ntmps110]; decide) ?_
  simp only [vsAll, binA, binLitA, intA, loadA, loadRow, partA, partOk, fieldAddrA, indexAddrA, nilCheckA, boxZ, cellA, cellsA, opA, allocA, newCells, okCells, storeObj, dstOk, nilSliceOp, argFr, Nat.reduceAdd, Nat.reduceLT, Nat.reduceEqDiff, ↓reduceIte, eq_self, wtAll, Tryd.ntmps110, shF_at]
  refine ⟨by omega, hi, ?_⟩
  intro ik hh_ik; (try simp only [Hp.set_none, ite_none] at hh_ik)
  skip
  have ea : alR s u i t = if t < (s.sh.getD i sh0).fr then 1 else if (!enB s u i t || !enB s u i (t + (s.sh.getD i sh0).td)) = true then 2 else 0 := rfl
  have kx2 : okS (s.sh.getD i sh0) := kx
  unfold okS at kx
  generalize hx : s.sh.getD i sh0 = x at *
  refine condV (fun hc => ?_) (fun hc => ?_)
  · rw [if_pos (of_decide_eq_true hc)] at ea
    simp only [vsAll, opA, dstOk, nilSliceOp, resA, retA.eq_1, Nat.reduceLT, ↓reduceIte, eq_self, Tryd.results110, ea]
    exact ⟨_, by (repeat (first | exact HSub_rfl | refine HSub_put_eq (by simp only [vsAll, binA, binLitA, intA, aggA, aggV, boolA, nilA2, isConst, unA, loadA, loadRow, partA, partOk, fieldAddrA, indexAddrA, indexA, fieldA, extractA, lenA, nilCheckA, boxA, boxZ, cellA, cellsA, fillA, okParts, buildSliceA, buildMutA, makeSliceA, partIdx, elemsA, lensA, ifaceA, convA, mmA, pickA, okAll, stAll, opsA, partsA, partsOk, opA, allocA, boxMutA, newCells, okCells, storeObj, appendA, guardV, taA, nM, mapUpA, lookA, sliceA, sliceS, boundsA, opO, okO, copyA, dstOk, nilA, quietOk, nilSliceOp, deferV, panA, resA, argFr, retA.eq_1, retA.eq_2, Nat.reduceAdd, Nat.reduceSub, Nat.reduceMul, Nat.reduceLT, Nat.reduceLeDiff, Nat.reduceEqDiff, Nat.reduceBEq, Int.reduceAdd, Int.reduceSub, Int.reduceMul, Int.reduceNeg, Int.reduceLE, Int.reduceLT, Int.reduceEq, Int.reduceNe, Int.reduceToNat, ↓reduceIte, reduceCtorEq, implies_true, forall_const, eq_self, ne_eq, wtAll, Tryd.ntmps110, Tryd.results110, hh_ik]) ?_ | refine HSub_drop2 (by simp only [eq_self, hh_ik]) ?_ | refine HSub_keep_eq (by simp only [vsAll, binA, binLitA, intA, aggA, aggV, boolA, nilA2, isConst, unA, loadA, loadRow, partA, partOk, fieldAddrA, indexAddrA, indexA, fieldA, extractA, lenA, nilCheckA, boxA, boxZ, cellA, cellsA, fillA, okParts, buildSliceA, buildMutA, makeSliceA, partIdx, elemsA, lensA, ifaceA, convA, mmA, pickA, okAll, stAll, opsA, partsA, partsOk, opA, allocA, boxMutA, newCells, okCells, storeObj, appendA, guardV, taA, nM, mapUpA, lookA, sliceA, sliceS, boundsA, opO, okO, copyA, dstOk, nilA, quietOk, nilSliceOp, deferV, panA, resA, argFr, retA.eq_1, retA.eq_2, Nat.reduceAdd, Nat.reduceSub, Nat.reduceMul, Nat.reduceLT, Nat.reduceLeDiff, Nat.reduceEqDiff, Nat.reduceBEq, Int.reduceAdd, Int.reduceSub, Int.reduceMul, Int.reduceNeg, Int.reduceLE, Int.reduceLT, Int.reduceEq, Int.reduceNe, Int.reduceToNat, ↓reduceIte, reduceCtorEq, implies_true, forall_const, eq_self, ne_eq, wtAll, Tryd.ntmps110, Tryd.results110, hh_ik]) ?_)), rfl, rfl⟩
  · simp only [decide_eq_false_iff_not] at hc
    rw [if_neg (by ((try clear hh_ik); omega))] at ea
    simp only [vsAll, okAll, stAll, opsA, opA, dstOk, argFr, Nat.reduceLT, Nat.reduceEqDiff, ↓reduceIte, eq_self]
    refine callK_pure (enough_tri s u i t at' _ k hi) ?_
    simp only [vsAll, binA, binLitA, intA, unA, loadA, loadRow, partA, partOk, fieldAddrA, opA, guardV, dstOk, argFr, Nat.reduceLT, Nat.reduceEqDiff, ↓reduceIte, implies_true, eq_self, wtAll]
    refine ⟨fun g => ⟨g, g, by simp only [InR_i64]; ((try clear hh_ik); omega)⟩, ?_⟩
    refine gcall _ (fun g => ⟨by simp only [vsAll, opA], by simp only [vsAll, okAll, opsA, opA, Nat.reduceEqDiff, ↓reduceIte, eq_self, g], enough_tri s u i (t + x.td) at' _ k hi⟩) ?_
    simp only [vsAll, unA, pickA, opA, guardV, dstOk, nilSliceOp, Nat.reduceLT, Nat.reduceEqDiff, ↓reduceIte, implies_true, eq_self]
    refine condV (fun hc2 => ?_) (fun hc2 => ?_)
    · rw [if_pos hc2] at ea
      simp only [vsAll, opA, dstOk, nilSliceOp, resA, retA.eq_1, Nat.reduceLT, ↓reduceIte, eq_self, Tryd.results110, ea]
      exact ⟨_, by (repeat (first | exact HSub_rfl | refine HSub_put_eq (by simp only [vsAll, binA, binLitA, intA, aggA, aggV, boolA, nilA2, isConst, unA, loadA, loadRow, partA, partOk, fieldAddrA, indexAddrA, indexA, fieldA, extractA, lenA, nilCheckA, boxA, boxZ, cellA, cellsA, fillA, okParts, buildSliceA, buildMutA, makeSliceA, partIdx, elemsA, lensA, ifaceA, convA, mmA, pickA, okAll, stAll, opsA, partsA, partsOk, opA, allocA, boxMutA, newCells, okCells, storeObj, appendA, guardV, taA, nM, mapUpA, lookA, sliceA, sliceS, boundsA, opO, okO, copyA, dstOk, nilA, quietOk, nilSliceOp, deferV, panA, resA, argFr, retA.eq_1, retA.eq_2, Nat.reduceAdd, Nat.reduceSub, Nat.reduceMul, Nat.reduceLT, Nat.reduceLeDiff, Nat.reduceEqDiff, Nat.reduceBEq, Int.reduceAdd, Int.reduceSub, Int.reduceMul, Int.reduceNeg, Int.reduceLE, Int.reduceLT, Int.reduceEq, Int.reduceNe, Int.reduceToNat, ↓reduceIte, reduceCtorEq, implies_true, forall_const, eq_self, ne_eq, wtAll, Tryd.ntmps110, Tryd.results110, hh_ik]) ?_ | refine HSub_drop2 (by simp only [eq_self, hh_ik]) ?_ | refine HSub_keep_eq (by simp only [vsAll, binA, binLitA, intA, aggA, aggV, boolA, nilA2, isConst, unA, loadA, loadRow, partA, partOk, fieldAddrA, indexAddrA, indexA, fieldA, extractA, lenA, nilCheckA, boxA, boxZ, cellA, cellsA, fillA, okParts, buildSliceA, buildMutA, makeSliceA, partIdx, elemsA, lensA, ifaceA, convA, mmA, pickA, okAll, stAll, opsA, partsA, partsOk, opA, allocA, boxMutA, newCells, okCells, storeObj, appendA, guardV, taA, nM, mapUpA, lookA, sliceA, sliceS, boundsA, opO, okO, copyA, dstOk, nilA, quietOk, nilSliceOp, deferV, panA, resA, argFr, retA.eq_1, retA.eq_2, Nat.reduceAdd, Nat.reduceSub, Nat.reduceMul, Nat.reduceLT, Nat.reduceLeDiff, Nat.reduceEqDiff, Nat.reduceBEq, Int.reduceAdd, Int.reduceSub, Int.reduceMul, Int.reduceNeg, Int.reduceLE, Int.reduceLT, Int.reduceEq, Int.reduceNe, Int.reduceToNat, ↓reduceIte, reduceCtorEq, implies_true, forall_const, eq_self, ne_eq, wtAll, Tryd.ntmps110, Tryd.results110, hh_ik]) ?_)), rfl, rfl⟩
    · rw [if_neg (by rw [hc2]; decide)] at ea
      simp only [vsAll, opA, dstOk, nilSliceOp, resA, retA.eq_1, Nat.reduceLT, ↓reduceIte, eq_self, Tryd.results110, ea]
      exact ⟨_, by (repeat (first | exact HSub_rfl | refine HSub_put_eq (by simp only [vsAll, binA, binLitA, intA, aggA, aggV, boolA, nilA2, isConst, unA, loadA, loadRow, partA, partOk, fieldAddrA, indexAddrA, indexA, fieldA, extractA, lenA, nilCheckA, boxA, boxZ, cellA, cellsA, fillA, okParts, buildSliceA, buildMutA, makeSliceA, partIdx, elemsA, lensA, ifaceA, convA, mmA, pickA, okAll, stAll, opsA, partsA, partsOk, opA, allocA, boxMutA, newCells, okCells, storeObj, appendA, guardV, taA, nM, mapUpA, lookA, sliceA, sliceS, boundsA, opO, okO, copyA, dstOk, nilA, quietOk, nilSliceOp, deferV, panA, resA, argFr, retA.eq_1, retA.eq_2, Nat.reduceAdd, Nat.reduceSub, Nat.reduceMul, Nat.reduceLT, Nat.reduceLeDiff, Nat.reduceEqDiff, Nat.reduceBEq, Int.reduceAdd, Int.reduceSub, Int.reduceMul, Int.reduceNeg, Int.reduceLE, Int.reduceLT, Int.reduceEq, Int.reduceNe, Int.reduceToNat, ↓reduceIte, reduceCtorEq, implies_true, forall_const, eq_self, ne_eq, wtAll, Tryd.ntmps110, Tryd.results110, hh_ik]) ?_ | refine HSub_drop2 (by simp only [eq_self, hh_ik]) ?_ | refine HSub_keep_eq (by simp only [vsAll, binA, binLitA, intA, aggA, aggV, boolA, nilA2, isConst, unA, loadA, loadRow, partA, partOk, fieldAddrA, indexAddrA, indexA, fieldA, extractA, lenA, nilCheckA, boxA, boxZ, cellA, cellsA, fillA, okParts, buildSliceA, buildMutA, makeSliceA, partIdx, elemsA, lensA, ifaceA, convA, mmA, pickA, okAll, stAll, opsA, partsA, partsOk, opA, allocA, boxMutA, newCells, okCells, storeObj, appendA, guardV, taA, nM, mapUpA, lookA, sliceA, sliceS, boundsA, opO, okO, copyA, dstOk, nilA, quietOk, nilSliceOp, deferV, panA, resA, argFr, retA.eq_1, retA.eq_2, Nat.reduceAdd, Nat.reduceSub, Nat.reduceMul, Nat.reduceLT, Nat.reduceLeDiff, Nat.reduceEqDiff, Nat.reduceBEq, Int.reduceAdd, Int.reduceSub, Int.reduceMul, Int.reduceNeg, Int.reduceLE, Int.reduceLT, Int.reduceEq, Int.reduceNe, Int.reduceToNat, ↓reduceIte, reduceCtorEq, implies_true, forall_const, eq_self, ne_eq, wtAll, Tryd.ntmps110, Tryd.results110, hh_ik]) ?_)), rfl, rfl⟩
end Go.Proofs.YtnmgegodkmgdeaaDoor
end
section
set_option linter.unusedVariables false
set_option linter.unusedSimpArgs false
set_option maxHeartbeats 4000000
set_option maxRecDepth 100000
namespace Go.Proofs.YtnmgegodkmgdeaaDoor
open Go.V
theorem meth_lone : methT Tryd.prog 84 "caulkworks/slip.rule" 110 := fun cv vs w => by kernel_rfl
theorem meth_among : methT Tryd.prog 86 "caulkworks/slip.rule" 112 := fun cv vs w => by kernel_rfl
abbrev loneA : AV := .iface 84 (.agg [])
abbrev amongA : AV := .iface 86 (.agg [])
/-- A ship by herself breaks no rule, or which. -/
theorem byLoneR_tri (s : Sl) (u : Bool) (i : Nat) (t : Int) (at' : List AV) (bef : AV) (hb : bef.ok) (hb2 : bef.st = bef) (H : Hp) (id : Nat) (ho' : H id = some (.box 8 1 fun _ => slC s u at')) (k : Ok s) (hi : i < s.sh.length) (ht : t < 2 ^ 60) :
    PTri Tryd.prog (fnA 55) [.ref id 0 8 0 0, loneA, i64 i, i64 t, bef] H (i64 (alR s u i t)) := by
  refine tri_v0 (fun _ => false) Tryd.func55 (by kernel_rfl) rfl (by simp only [List.length_append, List.length_cons, List.length_nil, Tryd.ntmps55]; decide) ?_
  simp only [vsAll, okAll, stAll, opsA, opA, dstOk, nilSliceOp, argFr, Nat.reduceLT, Nat.reduceEqDiff, ↓reduceIte, reduceCtorEq, eq_self, Tryd.ntmps55, hb, hb2]
  refine callK_pure (tri_inv meth_lone (loneR_tri s u i t at' bef H id ho' k hi ht)) ?_
  simp only [vsAll, opA, dstOk, nilSliceOp, resA, retA.eq_1, Nat.reduceLT, ↓reduceIte, eq_self, Tryd.results55]
theorem clear_tri (s : Sl) (u : Bool) (a b : Nat) (x y : Int) (at' : List AV) (H : Hp) (k : Ok s) (ha : a < s.sh.length) (hb : b < s.sh.length) (hx : -1000 ≤ x ∧ x ≤ 1000) (hy : -1000 ≤ y ∧ y ≤ 1000) :
    PTri Tryd.prog (fnA 111) [.agg [], slP s u at', i64 a, i64 x, i64 b, i64 y] H (boo (!ovB s a x b y)) := by
  have nS := k.nS
  have ka := k.s a ha
  have kb := k.s b hb
  unfold okS at ka kb
  have e : (!ovB s a x b y) = (decide (x + (s.sh.getD a sh0).td ≤ y) || decide (y + (s.sh.getD b sh0).td ≤ x)) := by
    rw [Bool.eq_iff_iff]
    simp only [ovB, Bool.not_eq_true', Bool.and_eq_false_iff, decide_eq_false_iff_not, Bool.or_eq_true, decide_eq_true_eq]
    omega
  rw [e]
  refine tri_v0 (fun _ => false) Tryd.func111 (by kernel_rfl) rfl (by simp only [List.length_append, List.length_cons, List.length_nil, Tryd.ntmps111]; decide) ?_
  simp only [vsAll, binA, binLitA, intA, loadA, loadRow, partA, partOk, fieldAddrA, indexAddrA, nilCheckA, boxZ, pickA, opA, guardV, dstOk, nilSliceOp, resA, argFr, retA.eq_1, Nat.reduceLT, Nat.reduceEqDiff, ↓reduceIte, implies_true, eq_self, wtAll, Tryd.ntmps111, Tryd.results111, shF_at]
  refine ⟨⟨by omega, by omega⟩, ha, by simp only [InR_i64]; omega, fun g => ⟨g, g, by omega, by omega⟩, fun g => ⟨g, hb⟩, fun g => ⟨g, g, by simp only [InR_i64]; omega⟩⟩
theorem among_tri (s : Sl) (u : Bool) (i : Nat) (t : Int) (l : List Int) (at' : List AV) (H : Hp) (k : Ok s) (hi : i < s.sh.length) (ht : -1000 ≤ t ∧ t ≤ 1000) (hl : l.length = i) (hb : ∀ z ∈ l, -1000 ≤ z ∧ z ≤ 1000) :
    PTri Tryd.prog (fnA 112) [.agg [], slP s u at', i64 i, i64 t, intsAV l] H (i64 (brT s u i t l)) := by
  have nS := k.nS
  refine tri_v0 (fun _ => false) Tryd.func112 (by kernel_rfl) rfl (by simp only [List.length_append, List.length_cons, List.length_nil, Tryd.ntmps112]; decide) ?_
  simp only [vsAll, loadA, fieldAddrA, boxZ, okAll, stAll, opsA, opA, dstOk, nilSliceOp, argFr, Nat.reduceLT, Nat.reduceEqDiff, ↓reduceIte, eq_self, wtAll, Tryd.ntmps112]
  refine callK_pure (lone_tri s u i t at' (intsAV l) H k hi (by omega)) ?_
  simp only [vsAll, binA, binLitA, intA, opA, dstOk, nilSliceOp, Nat.reduceLT, ↓reduceIte, eq_self]
  refine condV (fun hc => ?_) (fun hc => ?_)
  · have e : brT s u i t l = alR s u i t := by
      rw [brT, if_neg (by simpa using hc)]
    simp only [vsAll, opA, dstOk, nilSliceOp, resA, retA.eq_1, Nat.reduceLT, Nat.reduceEqDiff, ↓reduceIte, eq_self, Tryd.results112, e]
  · have ha : alR s u i t = 0 := by simpa using hc
    have e : brT s u i t l = if ((List.range i).any fun j => ovB s i t j (l.getD j 0)) = true then 3 else 0 := by
      rw [brT, if_pos ha]
    simp only [vsAll, lenA, opA, dstOk, argFr, Nat.reduceLT, Nat.reduceEqDiff, ↓reduceIte, eq_self, wtAll]
    refine vs_loop (σ := Nat) (fun j => j ≤ i ∧ ∀ q, q < j → ovB s i t q (l.getD q 0) = false) (fun j => [(1, slP s u at'), (2, i64 i), (3, i64 t), (5, .zp 86), (24, intsAV l), (25, i64 l.length), (26, i64 j)]) (fun _ => H) (fun j => i - j) 0 ⟨Nat.zero_le _, fun j hj => absurd hj (by omega)⟩ ?_ (HSub.refl _) fun j hj => ?_
    · simp only [vsAll, argFr, Nat.reduceEqDiff, ↓reduceIte, eq_self, Int.natCast_zero]
    · obtain ⟨hj, hall⟩ := hj
      simp only [vsAll, binA, binLitA, intA, opA, dstOk, Nat.reduceLT, Nat.reduceEqDiff, ↓reduceIte, eq_self]
      refine condD (fun hd => ?_) (fun hd => ?_)
      · have hji : j < i := by omega
        have hz := hb _ (mem_getD l j 0 (by omega))
        simp only [vsAll, loadA, loadRow, partA, partOk, indexAddrA, okAll, stAll, opsA, opA, dstOk, nilSliceOp, Nat.reduceLT, Nat.reduceEqDiff, ↓reduceIte, eq_self, wtAll, intF_at]
        refine ⟨⟨by omega, by omega⟩, by omega, ?_⟩
        refine callK_pure (clear_tri s u i j t (l.getD j 0) at' H k hi (by omega) ht hz) ?_
        simp only [vsAll, unA, opA, dstOk, Nat.reduceLT, ↓reduceIte, eq_self]
        refine condV (fun ho => ?_) (fun ho => ?_)
        · try simp only [Bool.not_not] at ho
          rw [if_pos (any_range.2 ⟨j, hji, ho⟩)] at e
          simp only [vsAll, opA, dstOk, nilSliceOp, resA, retA.eq_1, Nat.reduceLT, ↓reduceIte, eq_self, Tryd.results112, e]
        · try simp only [Bool.not_not] at ho
          simp only [vsAll, binA, binLitA, intA, opA, dstOk, Nat.reduceLT, Nat.reduceEqDiff, ↓reduceIte, eq_self]
          refine ⟨by simp only [InR_i64]; omega, loop_next (j + 1) ⟨by omega, fun q hq => ?_⟩ (by omega) ?_ (HSub.refl _)⟩
          · by_cases hqj : q = j
            · rw [hqj]; exact ho
            · exact hall q (by omega)
          · simp only [vsAll, Nat.reduceEqDiff, ↓reduceIte, eq_self, Int.natCast_add, Int.natCast_one]
      · have ei : j = i := by omega
        subst ei
        have e0 : ((List.range j).any fun q => ovB s j t q (l.getD q 0)) = false := by
          rw [← Bool.not_eq_true, any_range]
          rintro ⟨q, hq, hh⟩
          rw [hall q hq] at hh; cases hh
        rw [e0, if_neg (by decide)] at e
        simp only [vsAll, opA, dstOk, nilSliceOp, resA, retA.eq_1, Nat.reduceLT, ↓reduceIte, eq_self, Tryd.results112, e]
/-- The rule that a ship breaks among those before her. -/
theorem byAmong_tri (s : Sl) (u : Bool) (i : Nat) (t : Int) (l : List Int) (at' : List AV) (H : Hp) (k : Ok s) (hi : i < s.sh.length) (ht : -1000 ≤ t ∧ t ≤ 1000) (hl : l.length = i) (hb : ∀ z ∈ l, -1000 ≤ z ∧ z ≤ 1000) :
    PTri Tryd.prog (fnA 55) [slP s u at', amongA, i64 i, i64 t, intsAV l] H (i64 (brT s u i t l)) := by
  refine tri_v0 (fun _ => false) Tryd.func55 (by kernel_rfl) rfl (by simp only [List.length_append, List.length_cons, List.length_nil, Tryd.ntmps55]; decide) ?_
  simp only [vsAll, okAll, stAll, opsA, opA, dstOk, nilSliceOp, argFr, Nat.reduceLT, Nat.reduceEqDiff, ↓reduceIte, reduceCtorEq, eq_self, Tryd.ntmps55]
  refine callK_pure (tri_inv meth_among (among_tri s u i t l at' H k hi ht hl hb)) ?_
  simp only [vsAll, opA, dstOk, nilSliceOp, resA, retA.eq_1, Nat.reduceLT, ↓reduceIte, eq_self, Tryd.results55]
end Go.Proofs.YtnmgegodkmgdeaaDoor
end
section
set_option linter.unusedVariables false
set_option linter.unusedSimpArgs false
set_option maxHeartbeats 4000000
set_option maxRecDepth 100000
namespace Go.Proofs.YtnmgegodkmgdeaaDoor
open Go.V
/-- The tides of each of five ships. -/
def bthF (m : Nat → Nat) : Nat → List AV := fun i => if i < 5 then [u64 (m i : Nat)] else []
abbrev bthL (m : Nat → Nat) : List AV := [u64 (m 0 : Nat), u64 (m 1 : Nat), u64 (m 2 : Nat), u64 (m 3 : Nat), u64 (m 4 : Nat)]
abbrev bthAV (m : Nat → Nat) : AV := .arr 5 1 (bthF m)
def upM (m : Nat → Nat) (i v : Nat) : Nat → Nat := fun k => if k = i then v else m k
theorem bthF_at (m : Nat → Nat) (i : Nat) (h : i < 5) : bthF m i = [u64 (m i : Nat)] := if_pos h
theorem lt5 {i : Nat} (h : i < 5) : i = 0 ∨ i = 1 ∨ i = 2 ∨ i = 3 ∨ i = 4 := by omega
theorem bth_up (m : Nat → Nat) (i v : Nat) (h : i < 5) : (fun k => if k = i then [u64 (v : Nat)] else bthF m k) = bthF (upM m i v) := by
  funext k
  unfold bthF upM
  by_cases e : k = i
  · subst e; simp [h]
  · simp [e]
theorem bth_cells (s : Sl) (u : Bool) (m : Nat → Nat) : (fun r => ((slC s u (bthL m)).drop (3 + r * 1)).take 1) = bthF m := by
  funext r
  unfold bthF
  by_cases h : r < 5
  · rcases lt5 h with rfl | rfl | rfl | rfl | rfl <;> rfl
  · rw [if_neg h]
    have : (slC s u (bthL m)).drop (3 + r * 1) = [] := List.drop_eq_nil_of_le (by simp only [slC, List.length_cons, List.length_nil]; omega)
    rw [this]; rfl
theorem bth_get (s : Sl) (u : Bool) (m : Nat → Nat) (i : Nat) (h : i < 5) : ((slC s u (bthL m)).drop (3 + i * 1)).getD 0 .any = u64 (m i : Nat) := by
  rcases lt5 h with rfl | rfl | rfl | rfl | rfl <;> rfl
theorem bth_set (s : Sl) (u : Bool) (m : Nat → Nat) (i v : Nat) (h : i < 5) : List.take (3 + i * 1) (slC s u (bthL m)) ++ [u64 (v : Nat)] ++ List.drop (3 + i * 1) (shAV s.sh :: boo u :: bthL m) = slC s u (bthL (upM m i v)) := by
  rcases lt5 h with rfl | rfl | rfl | rfl | rfl <;> rfl
theorem bth_upd (m : Nat → Nat) (i v : Nat) (h : i < 5) : updF 5 i (bthF m) (u64 (v : Nat) :: List.drop 1 (bthF m i)) = bthF (upM m i v) := by
  rw [bthF_at m i h]
  exact bth_up m i v h
theorem ret_freezeB {P : Program} {fn : Func} {R : Res → Hp → Prop} {s : Fr} {H : Hp} {t id st n i j : Nat} {f : Nat → List AV} (hr : fn.results.toList = [.tmp t]) (hs : s t = .ref id 0 st i j)
    (ho : H id = some (.box st n f)) (h : R (.ret (.rptr n st f i j)) (H.del id)) : FnPost P fn R .ret s [] H := by
  refine Ent.freezeB (s' := put s (some t) (.rptr n st f i j)) ho (fun u => ?_) ?_
  · simp only [put]
    split
    · rename_i e; subst e; exact .inr ⟨i, j, hs, rfl⟩
    · exact .inl rfl
  · rw [hr]
    refine ⟨rfl, ?_⟩
    simp only [resA, put, if_pos]
    exact ⟨trivial, h⟩
theorem with_tri (a n : Nat) (H : Hp) (ha : a < 2 ^ 60) (hn : n < 60) : PTri Tryd.prog (fnA 79) [u64 (a : Nat), i64 n] H (u64 ((a ||| 2 ^ n : Nat) : Int)) := by
  have hp : 2 ^ n ≤ 2 ^ 59 := Nat.pow_le_pow_right (by decide) (by omega)
  have ep : (1 : Int) * 2 ^ n = ((2 ^ n : Nat) : Int) := by rw [Int.one_mul]; simp
  refine tri_v0 (fun _ => false) Tryd.func79 (by kernel_rfl) rfl (by simp only [List.length_append, List.length_cons, List.length_nil, Tryd.ntmps79]; decide) ?_
  simp only [vsAll, binA, binLitA, intA, opA, dstOk, nilSliceOp, resA, argFr, retA.eq_1, Nat.reduceLT, Nat.reduceEqDiff, ↓reduceIte, reduceCtorEq, eq_self, Tryd.ntmps79, Tryd.results79, ep]
  clear ep
  generalize 2 ^ n = p at hp ⊢
  refine ⟨⟨by omega, by omega, by simp only [InR_u64]; omega⟩, by omega, by omega, by simp only [InR_u64]; omega, by simp only [InR_u64]; omega⟩
theorem only_tri (m : Nat → Nat) (i t : Nat) (H : Hp) (hi : i < 5) (ht : t < 60) : PTri Tryd.prog (fnA 83) [bthAV m, i64 i, i64 t] H (bthAV (upM m i (2 ^ t))) := by
  refine Tri.drop ?_
  refine tri_v0 (mset [3]) Tryd.func83 (by kernel_rfl) rfl (by simp only [List.length_append, List.length_cons, List.length_nil, Tryd.ntmps83]; decide) ?_
  simp only [vsAll, okAll, stAll, opsA, opA, allocA, boxMutA, dstOk, argFr, Nat.reduceLT, Nat.reduceEqDiff, Nat.reduceBEq, ↓reduceIte, eq_self, wtAll, Tryd.ntmps83]
  intro i3 hh_i3; (try simp only [Hp.set_none, ite_none] at hh_i3)
  intro i6 hh_i6; (try simp only [ite_none] at hh_i6)
  refine callK_pure (with_tri 0 t _ (by decide) ht) ?_
  rw [Nat.zero_or]
  simp only [vsAll, loadA, loadRow, indexAddrA, cellA, cellsA, opA, newCells, okCells, storeObj, dstOk, resA, retA.eq_1, Nat.reduceMul, Nat.reduceLT, Nat.reduceEqDiff, ↓reduceIte, eq_self, wtAll, Tryd.results83, hh_i6, bth_upd m i (2 ^ t) hi]
  exact ⟨by ((try clear hh_i3); (try clear hh_i6); omega), hi, fun k hk => by rw [bthF_at _ _ hk]; exact ⟨rfl, trivial⟩, dropR_pure rfl (by (repeat (first | exact HSub_rfl | refine HSub_put_eq (by simp only [vsAll, binA, binLitA, intA, aggA, aggV, boolA, nilA2, isConst, unA, loadA, loadRow, partA, partOk, fieldAddrA, indexAddrA, indexA, fieldA, extractA, lenA, nilCheckA, boxA, boxZ, cellA, cellsA, fillA, okParts, buildSliceA, buildMutA, makeSliceA, partIdx, elemsA, lensA, ifaceA, convA, mmA, pickA, okAll, stAll, opsA, partsA, partsOk, opA, allocA, boxMutA, newCells, okCells, storeObj, appendA, guardV, taA, nM, mapUpA, lookA, sliceA, sliceS, boundsA, opO, okO, copyA, dstOk, nilA, quietOk, nilSliceOp, deferV, panA, resA, argFr, retA.eq_1, retA.eq_2, Nat.reduceAdd, Nat.reduceSub, Nat.reduceMul, Nat.reduceLT, Nat.reduceLeDiff, Nat.reduceEqDiff, Nat.reduceBEq, Int.reduceAdd, Int.reduceSub, Int.reduceMul, Int.reduceNeg, Int.reduceLE, Int.reduceLT, Int.reduceEq, Int.reduceNe, Int.reduceToNat, ↓reduceIte, reduceCtorEq, implies_true, forall_const, eq_self, ne_eq, wtAll, Tryd.ntmps83, Tryd.results83, hh_i3, hh_i6]) ?_ | refine HSub_drop2 (by simp only [eq_self, hh_i3, hh_i6]) ?_ | refine HSub_keep_eq (by simp only [vsAll, binA, binLitA, intA, aggA, aggV, boolA, nilA2, isConst, unA, loadA, loadRow, partA, partOk, fieldAddrA, indexAddrA, indexA, fieldA, extractA, lenA, nilCheckA, boxA, boxZ, cellA, cellsA, fillA, okParts, buildSliceA, buildMutA, makeSliceA, partIdx, elemsA, lensA, ifaceA, convA, mmA, pickA, okAll, stAll, opsA, partsA, partsOk, opA, allocA, boxMutA, newCells, okCells, storeObj, appendA, guardV, taA, nM, mapUpA, lookA, sliceA, sliceS, boundsA, opO, okO, copyA, dstOk, nilA, quietOk, nilSliceOp, deferV, panA, resA, argFr, retA.eq_1, retA.eq_2, Nat.reduceAdd, Nat.reduceSub, Nat.reduceMul, Nat.reduceLT, Nat.reduceLeDiff, Nat.reduceEqDiff, Nat.reduceBEq, Int.reduceAdd, Int.reduceSub, Int.reduceMul, Int.reduceNeg, Int.reduceLE, Int.reduceLT, Int.reduceEq, Int.reduceNe, Int.reduceToNat, ↓reduceIte, reduceCtorEq, implies_true, forall_const, eq_self, ne_eq, wtAll, Tryd.ntmps83, Tryd.results83, hh_i3, hh_i6]) ?_)))⟩
/-- The tides of each ship. -/
def tdA (s : Sl) (u : Bool) (q : Nat) : Nat := if q < s.sh.length then tdN s u q s.hs.length else 0
def opM (s : Sl) (u : Bool) (i t : Nat) : Nat → Nat := fun q => if q < i then tdN s u q s.hs.length else if q = i then tdN s u i t else 0
theorem opM_row (s : Sl) (u : Bool) (i : Nat) : opM s u i s.hs.length = opM s u (i + 1) 0 := by
  funext q
  unfold opM
  by_cases h1 : q < i
  · rw [if_pos h1, if_pos (by omega)]
  · by_cases h2 : q = i
    · subst h2; rw [if_neg h1, if_pos rfl, if_pos (by omega)]
    · rw [if_neg h1, if_neg h2, if_neg (by omega)]
      by_cases h3 : q = i + 1
      · rw [if_pos h3]; rfl
      · rw [if_neg h3]
theorem opM_end (s : Sl) (u : Bool) : opM s u s.sh.length 0 = tdA s u := by
  funext q
  unfold opM tdA
  by_cases h1 : q < s.sh.length
  · rw [if_pos h1, if_pos h1]
  · rw [if_neg h1, if_neg h1]
    split <;> rfl
theorem opM_no (s : Sl) (u : Bool) (i t : Nat) (h : ¬ alR s u i t = 0) : opM s u i (t + 1) = opM s u i t := by
  funext q
  unfold opM
  simp only [tdN, if_neg h, Nat.add_zero]
theorem opM_yes (s : Sl) (u : Bool) (i t : Nat) (h : alR s u i t = 0) : upM (opM s u i t) i (tdN s u i t + 2 ^ t) = opM s u i (t + 1) := by
  funext q
  unfold opM upM
  simp only [tdN, if_pos h]
  by_cases h2 : q = i
  · subst h2; simp
  · rw [if_neg h2, if_neg h2, if_neg h2]
theorem opM_at (s : Sl) (u : Bool) (i t : Nat) : opM s u i t i = tdN s u i t := by simp [opM]
theorem or_bit (a n : Nat) (h : a < 2 ^ n) : a ||| 2 ^ n = a + 2 ^ n := by
  have := Nat.two_pow_add_eq_or_of_lt h 1
  rw [Nat.mul_one] at this
  rw [Nat.or_comm, ← this]; omega
abbrev opP (s : Sl) (u : Bool) : AV := slP s u (bthL (tdA s u))
def openR (s : Sl) (u v : Bool) (H : Hp) : Res → Hp → Prop := fun r H' => H' = H ∧ r = if errE s v = 0 then .ret (opP s u) else .pan (refS (errE s v))
theorem check_call {s : Sl} {v : Bool} {H : Hp} {K : AV → Hp → Prop} {Kp : AV → Hp → Prop} (kn : Near s) (h1 : ¬ errE s v = 0 → Kp (refS (errE s v)) H) (h2 : Ok s → v = true → K (.tuple []) H) :
    CallK Tryd.prog (fnA 78) [s.av, boo v] H K Kp := by
  refine ⟨_, check_tri s v H kn, fun r H' hr => ?_⟩
  obtain ⟨rfl, rfl⟩ := hr
  by_cases h : errE s v = 0
  · rw [if_pos h]
    exact h2 (errE_zero h).1 (errE_zero h).2
  · rw [if_neg h]
    exact h1 h
theorem open_tri (s : Sl) (u v : Bool) (H : Hp) (kn : Near s) : Tri Tryd.prog (fnA 45) [s.av, boo u, boo v] H (openR s u v H) := by
  refine tri_vs (m := mset [17]) Tryd.func45 (by kernel_rfl) rfl (by simp only [List.length_append, List.length_cons, List.length_nil, Tryd.ntmps45]; decide) ?_
  simp only [vsAll, loadA, loadRow, partA, partOk, boxA, boxZ, okAll, stAll, opsA, opA, dstOk, nilSliceOp, argFr, Nat.reduceAdd, Nat.reduceLT, Nat.reduceEqDiff, Nat.reduceBEq, ↓reduceIte, eq_self, wtAll, Tryd.ntmps45]
  refine check_call kn (fun hc => ?_) (fun k hv => ?_)
  · simp only [vsAll, eq_self]
    exact ⟨H, HSub_rfl, rfl, by rw [if_neg hc]⟩
  · have nH := k.nH
    have nS := k.nS
    subst hv
    simp only [vsAll, loadA, loadRow, partA, partOk, fieldAddrA, lenA, cellA, cellsA, fillA, okParts, partsA, partsOk, opA, boxMutA, dstOk, nilSliceOp, argFr, Nat.reduceAdd, Nat.reduceLT, Nat.reduceLeDiff, Nat.reduceEqDiff, Nat.reduceBEq, ↓reduceIte, eq_self, wtAll]
    intro ib hh_ib; (try simp only [Hp.set_none, ite_none] at hh_ib)
    have hO : ∀ i t, (H.set ib (.box 8 1 fun _ => slC s u (bthL (opM s u i t)))) ib = some (.box 8 1 fun _ => slC s u (bthL (opM s u i t))) := fun i t => Hp.set_same _ _ _
    refine vs_loop (σ := Nat) (fun i => i ≤ s.sh.length) (fun i => [(3, .rptr 1 2 (fun _ => s.cs) 0 0), (7, .ref ib 0 8 0 0), (8, fnA 79), (20, i64 s.sh.length), (21, i64 i)]) (fun i => H.set ib (.box 8 1 fun _ => slC s u (bthL (opM s u i 0)))) (fun i => s.sh.length - i) 0 (Nat.zero_le _) ?_ ?_ fun i hi => ?_
    · simp only [vsAll, Nat.reduceEqDiff, ↓reduceIte, eq_self, Int.natCast_zero]
    · exact HSub_rfl
    · simp only [vsAll, binA, binLitA, intA, opA, dstOk, Nat.reduceLT, Nat.reduceEqDiff, ↓reduceIte, eq_self]
      refine condD (fun hd => ?_) (fun hd => ?_)
      · have his : i < s.sh.length := by ((try clear hh_ib); omega)
        simp only [vsAll, loadA, loadRow, partA, partOk, fieldAddrA, lenA, opA, dstOk, nilSliceOp, Nat.reduceLT, Nat.reduceEqDiff, Nat.reduceBEq, ↓reduceIte, eq_self, wtAll]
        refine vs_loop (σ := Nat) (fun t => t ≤ s.hs.length) (fun t => [(3, .rptr 1 2 (fun _ => s.cs) 0 0), (7, .ref ib 0 8 0 0), (8, fnA 79), (20, i64 s.sh.length), (21, i64 i), (9, i64 i), (26, i64 s.hs.length), (27, i64 t)]) (fun t => H.set ib (.box 8 1 fun _ => slC s u (bthL (opM s u i t)))) (fun t => s.hs.length - t) 0 (Nat.zero_le _) ?_ ?_ fun t ht => ?_
        · simp only [vsAll, Nat.reduceEqDiff, ↓reduceIte, eq_self, Int.natCast_zero]
        · exact HSub_rfl
        · simp only [vsAll, binA, binLitA, intA, opA, dstOk, Nat.reduceLT, Nat.reduceEqDiff, ↓reduceIte, eq_self]
          refine condD (fun hd2 => ?_) (fun hd2 => ?_)
          · have hts : t < s.hs.length := by ((try clear hh_ib); omega)
            simp only [vsAll, fillA, okParts, ifaceA, okAll, stAll, opsA, partsA, partsOk, opA, dstOk, nilSliceOp, Nat.reduceLT, Nat.reduceEqDiff, Nat.reduceBEq, ↓reduceIte, eq_self, wtAll]
            refine callK_pure (byLoneR_tri s u i t (bthL (opM s u i t)) nilA trivial rfl _ ib (hO i t) k his (by ((try clear hh_ib); omega))) ?_
            simp only [vsAll, binA, binLitA, intA, opA, dstOk, Nat.reduceLT, ↓reduceIte, eq_self]
            refine condV (fun hc => ?_) (fun hc => ?_)
            · have ha : alR s u i t = 0 := by simpa using hc
              have hl := tdN_lt s u i t
              have hp : 2 ^ t ≤ 2 ^ 16 := Nat.pow_le_pow_right (by decide) (by ((try clear hh_ib); omega))
              refine vs_draw2 [0, 0, 0, 0, 0, 0, 0, 0, 0, 0, 1, 0, 0, 2, 3] [([0, 1, 2, 3, 4, 5, 6, 7, 8, 9, 11, 12], [], 10), ([13], [], 14)] [] (by decide +kernel) ?_
              simp only [vsAll, loadA, loadRow, partA, partOk, fieldAddrA, indexAddrA, nilCheckA, okAll, stAll, opsA, opA, dstOk, Nat.reduceLT, Nat.reduceEqDiff, ↓reduceIte, eq_self, wtAll]
              rw [bth_get s u _ i (by ((try clear hh_ib); omega)), opM_at]
              refine ⟨⟨by ((try clear hh_ib); omega), by ((try clear hh_ib); omega)⟩, by ((try clear hh_ib); omega), trivial, callK_pure (with_tri (tdN s u i t) t _ (by ((try clear hh_ib); omega)) (by ((try clear hh_ib); omega))) ?_⟩
              rw [or_bit _ _ hl]
              simp only [vsAll, binA, binLitA, intA, indexAddrA, cellA, cellsA, opA, newCells, okCells, storeObj, dstOk, Nat.reduceLT, Nat.reduceLeDiff, Nat.reduceEqDiff, ↓reduceIte, eq_self, wtAll]
              rw [bth_set s u _ i _ (by ((try clear hh_ib); omega)), opM_yes s u i t ha, Hp.set_set]
              refine ⟨⟨by ((try clear hh_ib); omega), by ((try clear hh_ib); omega)⟩, by ((try clear hh_ib); omega), by simp only [InR_i64]; ((try clear hh_ib); omega), loop_next (t + 1) (by ((try clear hh_ib); omega)) (by ((try clear hh_ib); omega)) ?_ ?_⟩
              · simp only [vsAll, Nat.reduceEqDiff, ↓reduceIte, eq_self, Int.natCast_add, Int.natCast_one]
              · exact HSub_rfl
            · have ha : ¬ alR s u i t = 0 := by simpa using hc
              simp only [vsAll, binA, binLitA, intA, opA, dstOk, Nat.reduceLT, Nat.reduceEqDiff, ↓reduceIte, eq_self]
              refine ⟨by simp only [InR_i64]; ((try clear hh_ib); omega), loop_next (t + 1) (by ((try clear hh_ib); omega)) (by ((try clear hh_ib); omega)) ?_ ?_⟩
              · simp only [vsAll, Nat.reduceEqDiff, ↓reduceIte, eq_self, Int.natCast_add, Int.natCast_one]
              · rw [opM_no s u i t ha]; exact HSub_rfl
          · have et : t = s.hs.length := by ((try clear hh_ib); omega)
            subst et
            simp only [vsAll, binA, binLitA, intA, opA, dstOk, Nat.reduceLT, Nat.reduceEqDiff, ↓reduceIte, eq_self]
            refine ⟨by simp only [InR_i64]; ((try clear hh_ib); omega), loop_next (i + 1) (by ((try clear hh_ib); omega)) (by ((try clear hh_ib); omega)) ?_ ?_⟩
            · simp only [vsAll, Nat.reduceEqDiff, ↓reduceIte, eq_self, Int.natCast_add, Int.natCast_one]
            · rw [opM_row]; exact HSub_rfl
      · have ei : i = s.sh.length := by ((try clear hh_ib); omega)
        subst ei
        rw [opM_end]
        simp only [vsAll, opA, dstOk, nilSliceOp, Nat.reduceLT, Nat.reduceEqDiff, Nat.reduceBEq, ↓reduceIte, eq_self]
        refine ret_freezeB (by rw [Tryd.results45]) (rfl) (Hp.set_same _ _ _) ?_
        rw [set_del hh_ib]
        exact ⟨H, HSub_rfl, rfl, by rw [errE_ok k]; rfl⟩
end Go.Proofs.YtnmgegodkmgdeaaDoor
end
