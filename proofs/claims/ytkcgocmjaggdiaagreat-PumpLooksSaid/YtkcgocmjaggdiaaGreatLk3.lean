/- Helper lemmas of this claim, part 3. -/
import Derived.Test.YtkcgocmjaggdiaaGreatChecked
import Derived.ChangeSame
import Derived.JoinedOf
import Derived.ProofKit
import Derived.Handed
import Derived.Test.YtkcgocmjaggdiaaGreatLk2
section
namespace Go.Proofs.YtkcgocmjaggdiaaGreat
open Go.V
theorem boolT4 : boolT Tryz.prog 4 = true := by kernel_rfl
theorem ifcT20 : ifcT Tryz.prog 20 = true := by kernel_rfl
theorem ifcT65 : ifcT Tryz.prog 65 = true := by kernel_rfl
theorem ifcT66 : ifcT Tryz.prog 66 = true := by kernel_rfl
theorem ifcT144 : ifcT Tryz.prog 144 = true := by kernel_rfl
theorem ifcT145 : ifcT Tryz.prog 145 = true := by kernel_rfl
theorem meth154 : methT Tryz.prog 141 "caulkworks/well.is" 113 := fun v args w => by kernel_rfl
theorem meth182 : methT Tryz.prog 169 "caulkworks/well.is" 114 := fun v args w => by kernel_rfl
theorem meth81o : methT Tryz.prog 98 "caulkworks/pump.of" 109 := fun v args w => by kernel_rfl
theorem meth81s : methT Tryz.prog 98 "caulkworks/pump.strength" 110 := fun v args w => by kernel_rfl
theorem meth126o : methT Tryz.prog 104 "caulkworks/pump.of" 111 := fun v args w => by kernel_rfl
theorem meth126s : methT Tryz.prog 104 "caulkworks/pump.strength" 112 := fun v args w => by kernel_rfl
theorem mapZ136 : mapZ Tryz.prog 131 = some (.int .i64 0) := by kernel_rfl
theorem zT1 : zT Tryz.prog 1 = false := by kernel_rfl
theorem szT1 : szT Tryz.prog 1 = some (1, false) := by kernel_rfl
theorem arT1 : arT Tryz.prog 1 = none := by kernel_rfl
theorem conc1 : Program.concrete Tryz.prog 1 = true := by kernel_rfl
theorem zT2 : zT Tryz.prog 2 = false := by kernel_rfl
theorem szT2 : szT Tryz.prog 2 = some (1, false) := by kernel_rfl
theorem arT2 : arT Tryz.prog 2 = none := by kernel_rfl
theorem conc2 : Program.concrete Tryz.prog 2 = true := by kernel_rfl
theorem undS2 : (Program.underlying Tryz.prog 2).isSome = true := by kernel_rfl
theorem intT2 : intT Tryz.prog 2 = some .i64 := by kernel_rfl
theorem elT2 : elT Tryz.prog 2 = none := by kernel_rfl
theorem azT2 : azT Tryz.prog 2 = some (1, 1, [.int .i64 0]) := by kernel_rfl
theorem zeroT2 : zeroT Tryz.prog 2 = some [.int .i64 0] := by kernel_rfl
theorem zT3 : zT Tryz.prog 3 = false := by kernel_rfl
theorem szT3 : szT Tryz.prog 3 = some (1, false) := by kernel_rfl
theorem arT3 : arT Tryz.prog 3 = none := by kernel_rfl
theorem conc3 : Program.concrete Tryz.prog 3 = true := by kernel_rfl
theorem undS3 : (Program.underlying Tryz.prog 3).isSome = true := by kernel_rfl
theorem intT3 : intT Tryz.prog 3 = some .i64 := by kernel_rfl
theorem elT3 : elT Tryz.prog 3 = none := by kernel_rfl
theorem azT3 : azT Tryz.prog 3 = some (1, 1, [.int .i64 0]) := by kernel_rfl
theorem zeroT3 : zeroT Tryz.prog 3 = some [.int .i64 0] := by kernel_rfl
theorem zT4 : zT Tryz.prog 4 = false := by kernel_rfl
theorem szT4 : szT Tryz.prog 4 = some (1, false) := by kernel_rfl
theorem arT4 : arT Tryz.prog 4 = none := by kernel_rfl
theorem conc4 : Program.concrete Tryz.prog 4 = true := by kernel_rfl
theorem undS4 : (Program.underlying Tryz.prog 4).isSome = true := by kernel_rfl
theorem elT4 : elT Tryz.prog 4 = none := by kernel_rfl
theorem azT4 : azT Tryz.prog 4 = some (1, 1, [.bool false]) := by kernel_rfl
theorem zeroT4 : zeroT Tryz.prog 4 = some [.bool false] := by kernel_rfl
theorem zT5 : zT Tryz.prog 5 = false := by kernel_rfl
theorem szT5 : szT Tryz.prog 5 = some (1, false) := by kernel_rfl
theorem arT5 : arT Tryz.prog 5 = none := by kernel_rfl
theorem conc5 : Program.concrete Tryz.prog 5 = true := by kernel_rfl
theorem undS5 : (Program.underlying Tryz.prog 5).isSome = true := by kernel_rfl
theorem intT5 : intT Tryz.prog 5 = some .u8 := by kernel_rfl
theorem elT5 : elT Tryz.prog 5 = none := by kernel_rfl
theorem azT5 : azT Tryz.prog 5 = some (1, 1, [.int .u8 0]) := by kernel_rfl
theorem zeroT5 : zeroT Tryz.prog 5 = some [.int .u8 0] := by kernel_rfl
theorem zT12 : zT Tryz.prog 12 = false := by kernel_rfl
theorem szT12 : szT Tryz.prog 12 = some (1, false) := by kernel_rfl
theorem arT12 : arT Tryz.prog 12 = none := by kernel_rfl
theorem conc12 : Program.concrete Tryz.prog 12 = true := by kernel_rfl
theorem undS12 : (Program.underlying Tryz.prog 12).isSome = true := by kernel_rfl
theorem intT12 : intT Tryz.prog 12 = some .u64 := by kernel_rfl
theorem elT12 : elT Tryz.prog 12 = none := by kernel_rfl
theorem azT12 : azT Tryz.prog 12 = some (1, 1, [.int .u64 0]) := by kernel_rfl
theorem zeroT12 : zeroT Tryz.prog 12 = some [.int .u64 0] := by kernel_rfl
theorem zT13 : zT Tryz.prog 13 = false := by kernel_rfl
theorem szT13 : szT Tryz.prog 13 = some (2, true) := by kernel_rfl
theorem arT13 : arT Tryz.prog 13 = none := by kernel_rfl
theorem conc13 : Program.concrete Tryz.prog 13 = true := by kernel_rfl
theorem undS13 : (Program.underlying Tryz.prog 13).isSome = true := by kernel_rfl
theorem elT13 : elT Tryz.prog 13 = none := by kernel_rfl
theorem azT13 : azT Tryz.prog 13 = some (2, 1, [.string .empty, .int .u64 0]) := by kernel_rfl
theorem zeroT13 : zeroT Tryz.prog 13 = some [.string .empty, .int .u64 0] := by kernel_rfl
theorem bT13 : bT Tryz.prog 13 = true := by kernel_rfl
theorem fldT13_0 : fldT Tryz.prog 13 0 = some (0, 1, false) := by kernel_rfl
theorem fldT13_1 : fldT Tryz.prog 13 1 = some (1, 1, false) := by kernel_rfl
theorem zT20 : zT Tryz.prog 20 = false := by kernel_rfl
theorem szT20 : szT Tryz.prog 20 = some (1, false) := by kernel_rfl
theorem arT20 : arT Tryz.prog 20 = none := by kernel_rfl
theorem zT21 : zT Tryz.prog 21 = false := by kernel_rfl
theorem szT21 : szT Tryz.prog 21 = some (1, false) := by kernel_rfl
theorem arT21 : arT Tryz.prog 21 = none := by kernel_rfl
theorem conc21 : Program.concrete Tryz.prog 21 = true := by kernel_rfl
theorem undS21 : (Program.underlying Tryz.prog 21).isSome = true := by kernel_rfl
theorem intT21 : intT Tryz.prog 21 = some .i32 := by kernel_rfl
theorem elT21 : elT Tryz.prog 21 = none := by kernel_rfl
theorem azT21 : azT Tryz.prog 21 = some (1, 1, [.int .i32 0]) := by kernel_rfl
theorem zeroT21 : zeroT Tryz.prog 21 = some [.int .i32 0] := by kernel_rfl
theorem zT22 : zT Tryz.prog 22 = false := by kernel_rfl
theorem szT22 : szT Tryz.prog 22 = some (1, false) := by kernel_rfl
theorem arT22 : arT Tryz.prog 22 = none := by kernel_rfl
theorem conc22 : Program.concrete Tryz.prog 22 = true := by kernel_rfl
theorem undS22 : (Program.underlying Tryz.prog 22).isSome = true := by kernel_rfl
theorem elT22 : elT Tryz.prog 22 = some (2, true) := by kernel_rfl
theorem elB22 : elB Tryz.prog 22 = some (2, 16) := by kernel_rfl
theorem bsT22 : bsT Tryz.prog 22 = some 2 := by kernel_rfl
theorem mkT22 : mkT Tryz.prog 22 = some (2, 16, [.int .i64 0, .int .i64 0]) := by kernel_rfl
theorem azT22 : azT Tryz.prog 22 = some (1, 1, [.slice none 0 0]) := by kernel_rfl
theorem zeroT22 : zeroT Tryz.prog 22 = some [.slice none 0 0] := by kernel_rfl
theorem zT23 : zT Tryz.prog 23 = false := by kernel_rfl
theorem szT23 : szT Tryz.prog 23 = some (1, false) := by kernel_rfl
theorem arT23 : arT Tryz.prog 23 = none := by kernel_rfl
theorem conc23 : Program.concrete Tryz.prog 23 = true := by kernel_rfl
theorem undS23 : (Program.underlying Tryz.prog 23).isSome = true := by kernel_rfl
theorem elT23 : elT Tryz.prog 23 = some (4, true) := by kernel_rfl
theorem elB23 : elB Tryz.prog 23 = some (4, 32) := by kernel_rfl
theorem bsT23 : bsT Tryz.prog 23 = some 4 := by kernel_rfl
theorem mkT23 : mkT Tryz.prog 23 = some (4, 32, [.int .i64 0, .int .i64 0, .int .i64 0, .int .i64 0]) := by kernel_rfl
theorem azT23 : azT Tryz.prog 23 = some (1, 1, [.slice none 0 0]) := by kernel_rfl
theorem zeroT23 : zeroT Tryz.prog 23 = some [.slice none 0 0] := by kernel_rfl
theorem zT24 : zT Tryz.prog 24 = false := by kernel_rfl
theorem szT24 : szT Tryz.prog 24 = some (1, false) := by kernel_rfl
theorem arT24 : arT Tryz.prog 24 = none := by kernel_rfl
theorem conc24 : Program.concrete Tryz.prog 24 = true := by kernel_rfl
theorem undS24 : (Program.underlying Tryz.prog 24).isSome = true := by kernel_rfl
theorem elT24 : elT Tryz.prog 24 = some (1, false) := by kernel_rfl
theorem elB24 : elB Tryz.prog 24 = some (1, 8) := by kernel_rfl
theorem bsT24 : bsT Tryz.prog 24 = some 1 := by kernel_rfl
theorem mkT24 : mkT Tryz.prog 24 = some (1, 8, [.int .i64 0]) := by kernel_rfl
theorem azT24 : azT Tryz.prog 24 = some (1, 1, [.slice none 0 0]) := by kernel_rfl
theorem zeroT24 : zeroT Tryz.prog 24 = some [.slice none 0 0] := by kernel_rfl
theorem zT25 : zT Tryz.prog 25 = false := by kernel_rfl
theorem szT25 : szT Tryz.prog 25 = some (1, false) := by kernel_rfl
theorem arT25 : arT Tryz.prog 25 = none := by kernel_rfl
theorem conc25 : Program.concrete Tryz.prog 25 = true := by kernel_rfl
theorem undS25 : (Program.underlying Tryz.prog 25).isSome = true := by kernel_rfl
theorem elT25 : elT Tryz.prog 25 = some (5, true) := by kernel_rfl
theorem elB25 : elB Tryz.prog 25 = some (5, 40) := by kernel_rfl
theorem bsT25 : bsT Tryz.prog 25 = some 5 := by kernel_rfl
theorem mkT25 : mkT Tryz.prog 25 = some (5, 40, [.int .i64 0, .int .i64 0, .int .i64 0, .int .i64 0, .int .i64 0]) := by kernel_rfl
theorem azT25 : azT Tryz.prog 25 = some (1, 1, [.slice none 0 0]) := by kernel_rfl
theorem zeroT25 : zeroT Tryz.prog 25 = some [.slice none 0 0] := by kernel_rfl
theorem zT26 : zT Tryz.prog 26 = false := by kernel_rfl
theorem szT26 : szT Tryz.prog 26 = some (2, true) := by kernel_rfl
theorem arT26 : arT Tryz.prog 26 = none := by kernel_rfl
theorem conc26 : Program.concrete Tryz.prog 26 = true := by kernel_rfl
theorem undS26 : (Program.underlying Tryz.prog 26).isSome = true := by kernel_rfl
theorem elT26 : elT Tryz.prog 26 = none := by kernel_rfl
theorem azT26 : azT Tryz.prog 26 = some (2, 1, [.slice none 0 0, .slice none 0 0]) := by kernel_rfl
theorem zeroT26 : zeroT Tryz.prog 26 = some [.slice none 0 0, .slice none 0 0] := by kernel_rfl
theorem bT26 : bT Tryz.prog 26 = true := by kernel_rfl
theorem fldT26_0 : fldT Tryz.prog 26 0 = some (0, 1, false) := by kernel_rfl
theorem fldT26_1 : fldT Tryz.prog 26 1 = some (1, 1, false) := by kernel_rfl
theorem zT27 : zT Tryz.prog 27 = false := by kernel_rfl
theorem szT27 : szT Tryz.prog 27 = some (2, true) := by kernel_rfl
theorem arT27 : arT Tryz.prog 27 = none := by kernel_rfl
theorem conc27 : Program.concrete Tryz.prog 27 = true := by kernel_rfl
theorem undS27 : (Program.underlying Tryz.prog 27).isSome = true := by kernel_rfl
theorem elT27 : elT Tryz.prog 27 = none := by kernel_rfl
theorem azT27 : azT Tryz.prog 27 = some (2, 1, [.slice none 0 0, .slice none 0 0]) := by kernel_rfl
theorem zeroT27 : zeroT Tryz.prog 27 = some [.slice none 0 0, .slice none 0 0] := by kernel_rfl
theorem bT27 : bT Tryz.prog 27 = true := by kernel_rfl
theorem fldT27_0 : fldT Tryz.prog 27 0 = some (0, 1, false) := by kernel_rfl
theorem fldT27_1 : fldT Tryz.prog 27 1 = some (1, 1, false) := by kernel_rfl
theorem zT28 : zT Tryz.prog 28 = false := by kernel_rfl
theorem szT28 : szT Tryz.prog 28 = some (5, true) := by kernel_rfl
theorem arT28 : arT Tryz.prog 28 = none := by kernel_rfl
theorem conc28 : Program.concrete Tryz.prog 28 = true := by kernel_rfl
theorem undS28 : (Program.underlying Tryz.prog 28).isSome = true := by kernel_rfl
theorem elT28 : elT Tryz.prog 28 = none := by kernel_rfl
theorem azT28 : azT Tryz.prog 28 = some (5, 1, [.slice none 0 0, .int .i64 0, .slice none 0 0, .slice none 0 0, .slice none 0 0]) := by kernel_rfl
theorem zeroT28 : zeroT Tryz.prog 28 = some [.slice none 0 0, .int .i64 0, .slice none 0 0, .slice none 0 0, .slice none 0 0] := by kernel_rfl
theorem bT28 : bT Tryz.prog 28 = true := by kernel_rfl
theorem fldT28_0 : fldT Tryz.prog 28 0 = some (0, 1, false) := by kernel_rfl
theorem fldT28_1 : fldT Tryz.prog 28 1 = some (1, 1, false) := by kernel_rfl
theorem fldT28_2 : fldT Tryz.prog 28 2 = some (2, 1, false) := by kernel_rfl
theorem fldT28_3 : fldT Tryz.prog 28 3 = some (3, 2, true) := by kernel_rfl
theorem zT29 : zT Tryz.prog 29 = false := by kernel_rfl
theorem szT29 : szT Tryz.prog 29 = some (5, true) := by kernel_rfl
theorem arT29 : arT Tryz.prog 29 = none := by kernel_rfl
theorem conc29 : Program.concrete Tryz.prog 29 = true := by kernel_rfl
theorem undS29 : (Program.underlying Tryz.prog 29).isSome = true := by kernel_rfl
theorem elT29 : elT Tryz.prog 29 = none := by kernel_rfl
theorem azT29 : azT Tryz.prog 29 = some (5, 1, [.slice none 0 0, .int .i64 0, .slice none 0 0, .slice none 0 0, .slice none 0 0]) := by kernel_rfl
theorem zeroT29 : zeroT Tryz.prog 29 = some [.slice none 0 0, .int .i64 0, .slice none 0 0, .slice none 0 0, .slice none 0 0] := by kernel_rfl
theorem bT29 : bT Tryz.prog 29 = true := by kernel_rfl
theorem fldT29_0 : fldT Tryz.prog 29 0 = some (0, 1, false) := by kernel_rfl
theorem fldT29_1 : fldT Tryz.prog 29 1 = some (1, 1, false) := by kernel_rfl
theorem fldT29_2 : fldT Tryz.prog 29 2 = some (2, 1, false) := by kernel_rfl
theorem fldT29_3 : fldT Tryz.prog 29 3 = some (3, 2, true) := by kernel_rfl
theorem zT30 : zT Tryz.prog 30 = false := by kernel_rfl
theorem szT30 : szT Tryz.prog 30 = some (1, false) := by kernel_rfl
theorem arT30 : arT Tryz.prog 30 = none := by kernel_rfl
theorem conc30 : Program.concrete Tryz.prog 30 = true := by kernel_rfl
theorem zT31 : zT Tryz.prog 31 = false := by kernel_rfl
theorem szT31 : szT Tryz.prog 31 = some (1, false) := by kernel_rfl
theorem arT31 : arT Tryz.prog 31 = none := by kernel_rfl
theorem conc31 : Program.concrete Tryz.prog 31 = true := by kernel_rfl
theorem zT32 : zT Tryz.prog 32 = false := by kernel_rfl
theorem szT32 : szT Tryz.prog 32 = some (1, false) := by kernel_rfl
theorem arT32 : arT Tryz.prog 32 = none := by kernel_rfl
theorem conc32 : Program.concrete Tryz.prog 32 = true := by kernel_rfl
theorem zT33 : zT Tryz.prog 33 = false := by kernel_rfl
theorem szT33 : szT Tryz.prog 33 = some (1, false) := by kernel_rfl
theorem arT33 : arT Tryz.prog 33 = none := by kernel_rfl
theorem conc33 : Program.concrete Tryz.prog 33 = true := by kernel_rfl
theorem undS33 : (Program.underlying Tryz.prog 33).isSome = true := by kernel_rfl
theorem intT33 : intT Tryz.prog 33 = some .i64 := by kernel_rfl
theorem elT33 : elT Tryz.prog 33 = none := by kernel_rfl
theorem azT33 : azT Tryz.prog 33 = some (1, 1, [.int .i64 0]) := by kernel_rfl
theorem zeroT33 : zeroT Tryz.prog 33 = some [.int .i64 0] := by kernel_rfl
theorem zT35 : zT Tryz.prog 35 = false := by kernel_rfl
theorem szT35 : szT Tryz.prog 35 = some (1, false) := by kernel_rfl
theorem arT35 : arT Tryz.prog 35 = none := by kernel_rfl
theorem conc35 : Program.concrete Tryz.prog 35 = true := by kernel_rfl
theorem zT37 : zT Tryz.prog 37 = false := by kernel_rfl
theorem szT37 : szT Tryz.prog 37 = some (1, false) := by kernel_rfl
theorem arT37 : arT Tryz.prog 37 = none := by kernel_rfl
theorem conc37 : Program.concrete Tryz.prog 37 = true := by kernel_rfl
theorem zT38 : zT Tryz.prog 38 = false := by kernel_rfl
theorem szT38 : szT Tryz.prog 38 = some (1, false) := by kernel_rfl
theorem arT38 : arT Tryz.prog 38 = none := by kernel_rfl
theorem conc38 : Program.concrete Tryz.prog 38 = true := by kernel_rfl
theorem zT39 : zT Tryz.prog 39 = false := by kernel_rfl
theorem szT39 : szT Tryz.prog 39 = some (1, false) := by kernel_rfl
theorem arT39 : arT Tryz.prog 39 = none := by kernel_rfl
theorem conc39 : Program.concrete Tryz.prog 39 = true := by kernel_rfl
theorem zT40 : zT Tryz.prog 40 = false := by kernel_rfl
theorem szT40 : szT Tryz.prog 40 = some (1, false) := by kernel_rfl
theorem arT40 : arT Tryz.prog 40 = none := by kernel_rfl
theorem conc40 : Program.concrete Tryz.prog 40 = true := by kernel_rfl
theorem zT41 : zT Tryz.prog 41 = false := by kernel_rfl
theorem szT41 : szT Tryz.prog 41 = some (1, false) := by kernel_rfl
theorem arT41 : arT Tryz.prog 41 = none := by kernel_rfl
theorem conc41 : Program.concrete Tryz.prog 41 = true := by kernel_rfl
theorem zT42 : zT Tryz.prog 42 = false := by kernel_rfl
theorem szT42 : szT Tryz.prog 42 = some (2, true) := by kernel_rfl
theorem arT42 : arT Tryz.prog 42 = none := by kernel_rfl
theorem conc42 : Program.concrete Tryz.prog 42 = true := by kernel_rfl
theorem undS42 : (Program.underlying Tryz.prog 42).isSome = true := by kernel_rfl
theorem elT42 : elT Tryz.prog 42 = none := by kernel_rfl
theorem azT42 : azT Tryz.prog 42 = some (2, 1, [.int .i64 0, .int .i64 0]) := by kernel_rfl
theorem zeroT42 : zeroT Tryz.prog 42 = some [.int .i64 0, .int .i64 0] := by kernel_rfl
theorem bT42 : bT Tryz.prog 42 = true := by kernel_rfl
theorem fldT42_0 : fldT Tryz.prog 42 0 = some (0, 1, false) := by kernel_rfl
theorem fldT42_1 : fldT Tryz.prog 42 1 = some (1, 1, false) := by kernel_rfl
theorem zT43 : zT Tryz.prog 43 = false := by kernel_rfl
theorem szT43 : szT Tryz.prog 43 = some (2, true) := by kernel_rfl
theorem arT43 : arT Tryz.prog 43 = none := by kernel_rfl
theorem conc43 : Program.concrete Tryz.prog 43 = true := by kernel_rfl
theorem undS43 : (Program.underlying Tryz.prog 43).isSome = true := by kernel_rfl
theorem elT43 : elT Tryz.prog 43 = none := by kernel_rfl
theorem azT43 : azT Tryz.prog 43 = some (2, 1, [.int .i64 0, .int .i64 0]) := by kernel_rfl
theorem zeroT43 : zeroT Tryz.prog 43 = some [.int .i64 0, .int .i64 0] := by kernel_rfl
theorem bT43 : bT Tryz.prog 43 = true := by kernel_rfl
theorem fldT43_0 : fldT Tryz.prog 43 0 = some (0, 1, false) := by kernel_rfl
theorem fldT43_1 : fldT Tryz.prog 43 1 = some (1, 1, false) := by kernel_rfl
theorem zT44 : zT Tryz.prog 44 = false := by kernel_rfl
theorem szT44 : szT Tryz.prog 44 = some (4, true) := by kernel_rfl
theorem arT44 : arT Tryz.prog 44 = none := by kernel_rfl
theorem conc44 : Program.concrete Tryz.prog 44 = true := by kernel_rfl
theorem undS44 : (Program.underlying Tryz.prog 44).isSome = true := by kernel_rfl
theorem elT44 : elT Tryz.prog 44 = none := by kernel_rfl
theorem azT44 : azT Tryz.prog 44 = some (4, 1, [.int .i64 0, .int .i64 0, .int .i64 0, .int .i64 0]) := by kernel_rfl
theorem zeroT44 : zeroT Tryz.prog 44 = some [.int .i64 0, .int .i64 0, .int .i64 0, .int .i64 0] := by kernel_rfl
theorem bT44 : bT Tryz.prog 44 = true := by kernel_rfl
theorem fldT44_0 : fldT Tryz.prog 44 0 = some (0, 2, true) := by kernel_rfl
theorem fldT44_1 : fldT Tryz.prog 44 1 = some (2, 1, false) := by kernel_rfl
theorem fldT44_2 : fldT Tryz.prog 44 2 = some (3, 1, false) := by kernel_rfl
theorem zT45 : zT Tryz.prog 45 = false := by kernel_rfl
theorem szT45 : szT Tryz.prog 45 = some (4, true) := by kernel_rfl
theorem arT45 : arT Tryz.prog 45 = none := by kernel_rfl
theorem conc45 : Program.concrete Tryz.prog 45 = true := by kernel_rfl
theorem undS45 : (Program.underlying Tryz.prog 45).isSome = true := by kernel_rfl
theorem elT45 : elT Tryz.prog 45 = none := by kernel_rfl
theorem azT45 : azT Tryz.prog 45 = some (4, 1, [.int .i64 0, .int .i64 0, .int .i64 0, .int .i64 0]) := by kernel_rfl
theorem zeroT45 : zeroT Tryz.prog 45 = some [.int .i64 0, .int .i64 0, .int .i64 0, .int .i64 0] := by kernel_rfl
theorem bT45 : bT Tryz.prog 45 = true := by kernel_rfl
theorem fldT45_0 : fldT Tryz.prog 45 0 = some (0, 2, true) := by kernel_rfl
theorem fldT45_1 : fldT Tryz.prog 45 1 = some (2, 1, false) := by kernel_rfl
theorem fldT45_2 : fldT Tryz.prog 45 2 = some (3, 1, false) := by kernel_rfl
theorem zT46 : zT Tryz.prog 46 = false := by kernel_rfl
theorem szT46 : szT Tryz.prog 46 = some (1, false) := by kernel_rfl
theorem arT46 : arT Tryz.prog 46 = none := by kernel_rfl
theorem conc46 : Program.concrete Tryz.prog 46 = true := by kernel_rfl
theorem zT48 : zT Tryz.prog 48 = false := by kernel_rfl
theorem szT48 : szT Tryz.prog 48 = some (1, false) := by kernel_rfl
theorem arT48 : arT Tryz.prog 48 = none := by kernel_rfl
theorem conc48 : Program.concrete Tryz.prog 48 = true := by kernel_rfl
theorem zT50 : zT Tryz.prog 50 = false := by kernel_rfl
theorem szT50 : szT Tryz.prog 50 = some (1, false) := by kernel_rfl
theorem arT50 : arT Tryz.prog 50 = none := by kernel_rfl
theorem conc50 : Program.concrete Tryz.prog 50 = true := by kernel_rfl
theorem zT51 : zT Tryz.prog 51 = false := by kernel_rfl
theorem szT51 : szT Tryz.prog 51 = some (1, false) := by kernel_rfl
theorem arT51 : arT Tryz.prog 51 = none := by kernel_rfl
theorem conc51 : Program.concrete Tryz.prog 51 = true := by kernel_rfl
theorem zT52 : zT Tryz.prog 52 = false := by kernel_rfl
theorem szT52 : szT Tryz.prog 52 = some (1, false) := by kernel_rfl
theorem arT52 : arT Tryz.prog 52 = none := by kernel_rfl
theorem conc52 : Program.concrete Tryz.prog 52 = true := by kernel_rfl
theorem zT53 : zT Tryz.prog 53 = false := by kernel_rfl
theorem szT53 : szT Tryz.prog 53 = some (1, false) := by kernel_rfl
theorem arT53 : arT Tryz.prog 53 = none := by kernel_rfl
theorem conc53 : Program.concrete Tryz.prog 53 = true := by kernel_rfl
theorem zT54 : zT Tryz.prog 54 = false := by kernel_rfl
theorem szT54 : szT Tryz.prog 54 = some (1, false) := by kernel_rfl
theorem arT54 : arT Tryz.prog 54 = none := by kernel_rfl
theorem conc54 : Program.concrete Tryz.prog 54 = true := by kernel_rfl
theorem zT55 : zT Tryz.prog 55 = false := by kernel_rfl
theorem szT55 : szT Tryz.prog 55 = some (1, false) := by kernel_rfl
theorem zeroT55 : azT Tryz.prog 55 = some (1, 1, [.pointer none]) := by kernel_rfl
theorem arT55 : arT Tryz.prog 55 = none := by kernel_rfl
theorem conc55 : Program.concrete Tryz.prog 55 = true := by kernel_rfl
theorem zT56 : zT Tryz.prog 56 = false := by kernel_rfl
theorem szT56 : szT Tryz.prog 56 = some (1, false) := by kernel_rfl
theorem zeroT56 : azT Tryz.prog 56 = some (1, 1, [.pointer none]) := by kernel_rfl
theorem arT56 : arT Tryz.prog 56 = none := by kernel_rfl
theorem conc56 : Program.concrete Tryz.prog 56 = true := by kernel_rfl
theorem zT57 : zT Tryz.prog 57 = false := by kernel_rfl
theorem szT57 : szT Tryz.prog 57 = some (1, false) := by kernel_rfl
theorem arT57 : arT Tryz.prog 57 = none := by kernel_rfl
theorem conc57 : Program.concrete Tryz.prog 57 = true := by kernel_rfl
theorem zT58 : zT Tryz.prog 58 = false := by kernel_rfl
theorem szT58 : szT Tryz.prog 58 = some (1, false) := by kernel_rfl
theorem arT58 : arT Tryz.prog 58 = none := by kernel_rfl
theorem conc58 : Program.concrete Tryz.prog 58 = true := by kernel_rfl
theorem zT59 : zT Tryz.prog 59 = false := by kernel_rfl
theorem szT59 : szT Tryz.prog 59 = some (1, false) := by kernel_rfl
theorem arT59 : arT Tryz.prog 59 = none := by kernel_rfl
theorem conc59 : Program.concrete Tryz.prog 59 = true := by kernel_rfl
theorem zT60 : zT Tryz.prog 60 = false := by kernel_rfl
theorem szT60 : szT Tryz.prog 60 = some (2, true) := by kernel_rfl
theorem arT60 : arT Tryz.prog 60 = none := by kernel_rfl
theorem conc60 : Program.concrete Tryz.prog 60 = true := by kernel_rfl
theorem undS60 : (Program.underlying Tryz.prog 60).isSome = true := by kernel_rfl
theorem elT60 : elT Tryz.prog 60 = none := by kernel_rfl
theorem azT60 : azT Tryz.prog 60 = some (2, 1, [.nilFunc, .nilFunc]) := by kernel_rfl
theorem zeroT60 : zeroT Tryz.prog 60 = some [.nilFunc, .nilFunc] := by kernel_rfl
theorem bT60 : bT Tryz.prog 60 = true := by kernel_rfl
theorem fldT60_0 : fldT Tryz.prog 60 0 = some (0, 1, false) := by kernel_rfl
theorem fldT60_1 : fldT Tryz.prog 60 1 = some (1, 1, false) := by kernel_rfl
theorem zT61 : zT Tryz.prog 61 = false := by kernel_rfl
theorem szT61 : szT Tryz.prog 61 = some (2, true) := by kernel_rfl
theorem arT61 : arT Tryz.prog 61 = none := by kernel_rfl
theorem conc61 : Program.concrete Tryz.prog 61 = true := by kernel_rfl
theorem undS61 : (Program.underlying Tryz.prog 61).isSome = true := by kernel_rfl
theorem elT61 : elT Tryz.prog 61 = none := by kernel_rfl
theorem azT61 : azT Tryz.prog 61 = some (2, 1, [.nilFunc, .nilFunc]) := by kernel_rfl
theorem zeroT61 : zeroT Tryz.prog 61 = some [.nilFunc, .nilFunc] := by kernel_rfl
theorem bT61 : bT Tryz.prog 61 = true := by kernel_rfl
theorem fldT61_0 : fldT Tryz.prog 61 0 = some (0, 1, false) := by kernel_rfl
theorem fldT61_1 : fldT Tryz.prog 61 1 = some (1, 1, false) := by kernel_rfl
theorem zT62 : zT Tryz.prog 62 = false := by kernel_rfl
theorem szT62 : szT Tryz.prog 62 = some (1, false) := by kernel_rfl
theorem arT62 : arT Tryz.prog 62 = none := by kernel_rfl
theorem conc62 : Program.concrete Tryz.prog 62 = true := by kernel_rfl
theorem zT63 : zT Tryz.prog 63 = false := by kernel_rfl
theorem szT63 : szT Tryz.prog 63 = some (1, false) := by kernel_rfl
theorem arT63 : arT Tryz.prog 63 = none := by kernel_rfl
theorem conc63 : Program.concrete Tryz.prog 63 = true := by kernel_rfl
theorem zT64 : zT Tryz.prog 64 = false := by kernel_rfl
theorem szT64 : szT Tryz.prog 64 = some (1, false) := by kernel_rfl
theorem arT64 : arT Tryz.prog 64 = none := by kernel_rfl
theorem conc64 : Program.concrete Tryz.prog 64 = true := by kernel_rfl
theorem zT65 : zT Tryz.prog 65 = false := by kernel_rfl
theorem szT65 : szT Tryz.prog 65 = some (1, false) := by kernel_rfl
theorem arT65 : arT Tryz.prog 65 = none := by kernel_rfl
theorem zT66 : zT Tryz.prog 66 = false := by kernel_rfl
theorem szT66 : szT Tryz.prog 66 = some (1, false) := by kernel_rfl
theorem arT66 : arT Tryz.prog 66 = none := by kernel_rfl
theorem zT67 : zT Tryz.prog 67 = false := by kernel_rfl
theorem szT67 : szT Tryz.prog 67 = some (9, true) := by kernel_rfl
theorem arT67 : arT Tryz.prog 67 = none := by kernel_rfl
theorem conc67 : Program.concrete Tryz.prog 67 = true := by kernel_rfl
theorem undS67 : (Program.underlying Tryz.prog 67).isSome = true := by kernel_rfl
theorem elT67 : elT Tryz.prog 67 = none := by kernel_rfl
theorem azT67 : azT Tryz.prog 67 = some (9, 1, [.slice none 0 0, .int .i64 0, .slice none 0 0, .slice none 0 0, .slice none 0 0, .nilIface, .int .i64 0, .int .i64 0, .int .i64 0]) := by kernel_rfl
theorem zeroT67 : zeroT Tryz.prog 67 = some [.slice none 0 0, .int .i64 0, .slice none 0 0, .slice none 0 0, .slice none 0 0, .nilIface, .int .i64 0, .int .i64 0, .int .i64 0] := by kernel_rfl
theorem bT67 : bT Tryz.prog 67 = true := by kernel_rfl
theorem fldT67_0 : fldT Tryz.prog 67 0 = some (0, 5, true) := by kernel_rfl
theorem fldT67_1 : fldT Tryz.prog 67 1 = some (5, 1, false) := by kernel_rfl
theorem fldT67_2 : fldT Tryz.prog 67 2 = some (6, 2, true) := by kernel_rfl
theorem fldT67_3 : fldT Tryz.prog 67 3 = some (8, 1, false) := by kernel_rfl
theorem zT68 : zT Tryz.prog 68 = false := by kernel_rfl
theorem szT68 : szT Tryz.prog 68 = some (9, true) := by kernel_rfl
theorem arT68 : arT Tryz.prog 68 = none := by kernel_rfl
theorem conc68 : Program.concrete Tryz.prog 68 = true := by kernel_rfl
theorem undS68 : (Program.underlying Tryz.prog 68).isSome = true := by kernel_rfl
theorem elT68 : elT Tryz.prog 68 = none := by kernel_rfl
theorem azT68 : azT Tryz.prog 68 = some (9, 1, [.slice none 0 0, .int .i64 0, .slice none 0 0, .slice none 0 0, .slice none 0 0, .nilIface, .int .i64 0, .int .i64 0, .int .i64 0]) := by kernel_rfl
theorem zeroT68 : zeroT Tryz.prog 68 = some [.slice none 0 0, .int .i64 0, .slice none 0 0, .slice none 0 0, .slice none 0 0, .nilIface, .int .i64 0, .int .i64 0, .int .i64 0] := by kernel_rfl
theorem bT68 : bT Tryz.prog 68 = true := by kernel_rfl
theorem fldT68_0 : fldT Tryz.prog 68 0 = some (0, 5, true) := by kernel_rfl
theorem fldT68_1 : fldT Tryz.prog 68 1 = some (5, 1, false) := by kernel_rfl
theorem fldT68_2 : fldT Tryz.prog 68 2 = some (6, 2, true) := by kernel_rfl
theorem fldT68_3 : fldT Tryz.prog 68 3 = some (8, 1, false) := by kernel_rfl
theorem zT69 : zT Tryz.prog 69 = false := by kernel_rfl
theorem szT69 : szT Tryz.prog 69 = some (1, false) := by kernel_rfl
theorem arT69 : arT Tryz.prog 69 = none := by kernel_rfl
theorem conc69 : Program.concrete Tryz.prog 69 = true := by kernel_rfl
theorem undS69 : (Program.underlying Tryz.prog 69).isSome = true := by kernel_rfl
theorem intT69 : intT Tryz.prog 69 = some .u64 := by kernel_rfl
theorem elT69 : elT Tryz.prog 69 = none := by kernel_rfl
theorem azT69 : azT Tryz.prog 69 = some (1, 1, [.int .u64 0]) := by kernel_rfl
theorem zeroT69 : zeroT Tryz.prog 69 = some [.int .u64 0] := by kernel_rfl
theorem zT70 : zT Tryz.prog 70 = false := by kernel_rfl
theorem szT70 : szT Tryz.prog 70 = some (1, false) := by kernel_rfl
theorem arT70 : arT Tryz.prog 70 = none := by kernel_rfl
theorem conc70 : Program.concrete Tryz.prog 70 = true := by kernel_rfl
theorem zT71 : zT Tryz.prog 71 = false := by kernel_rfl
theorem szT71 : szT Tryz.prog 71 = some (2, true) := by kernel_rfl
theorem arT71 : arT Tryz.prog 71 = none := by kernel_rfl
theorem conc71 : Program.concrete Tryz.prog 71 = true := by kernel_rfl
theorem undS71 : (Program.underlying Tryz.prog 71).isSome = true := by kernel_rfl
theorem elT71 : elT Tryz.prog 71 = none := by kernel_rfl
theorem azT71 : azT Tryz.prog 71 = some (2, 1, [.int .i64 0, .int .i64 0]) := by kernel_rfl
theorem zeroT71 : zeroT Tryz.prog 71 = some [.int .i64 0, .int .i64 0] := by kernel_rfl
theorem bT71 : bT Tryz.prog 71 = true := by kernel_rfl
theorem fldT71_0 : fldT Tryz.prog 71 0 = some (0, 1, false) := by kernel_rfl
theorem fldT71_1 : fldT Tryz.prog 71 1 = some (1, 1, false) := by kernel_rfl
theorem zT72 : zT Tryz.prog 72 = false := by kernel_rfl
theorem szT72 : szT Tryz.prog 72 = some (2, true) := by kernel_rfl
theorem arT72 : arT Tryz.prog 72 = none := by kernel_rfl
theorem conc72 : Program.concrete Tryz.prog 72 = true := by kernel_rfl
theorem undS72 : (Program.underlying Tryz.prog 72).isSome = true := by kernel_rfl
theorem elT72 : elT Tryz.prog 72 = none := by kernel_rfl
theorem azT72 : azT Tryz.prog 72 = some (2, 1, [.int .i64 0, .int .i64 0]) := by kernel_rfl
theorem zeroT72 : zeroT Tryz.prog 72 = some [.int .i64 0, .int .i64 0] := by kernel_rfl
theorem bT72 : bT Tryz.prog 72 = true := by kernel_rfl
theorem fldT72_0 : fldT Tryz.prog 72 0 = some (0, 1, false) := by kernel_rfl
theorem fldT72_1 : fldT Tryz.prog 72 1 = some (1, 1, false) := by kernel_rfl
theorem zT73 : zT Tryz.prog 73 = false := by kernel_rfl
theorem szT73 : szT Tryz.prog 73 = some (6, true) := by kernel_rfl
theorem conc73 : Program.concrete Tryz.prog 73 = true := by kernel_rfl
theorem undS73 : (Program.underlying Tryz.prog 73).isSome = true := by kernel_rfl
theorem elT73 : elT Tryz.prog 73 = none := by kernel_rfl
theorem arT73 : arT Tryz.prog 73 = some (3, 2, true) := by kernel_rfl
theorem azT73 : azT Tryz.prog 73 = some (2, 3, [.int .i64 0, .int .i64 0]) := by kernel_rfl
theorem zeroT73 : zeroT Tryz.prog 73 = some [.int .i64 0, .int .i64 0, .int .i64 0, .int .i64 0, .int .i64 0, .int .i64 0] := by kernel_rfl
theorem zT74 : zT Tryz.prog 74 = false := by kernel_rfl
theorem szT74 : szT Tryz.prog 74 = some (8, true) := by kernel_rfl
theorem arT74 : arT Tryz.prog 74 = none := by kernel_rfl
theorem conc74 : Program.concrete Tryz.prog 74 = true := by kernel_rfl
theorem undS74 : (Program.underlying Tryz.prog 74).isSome = true := by kernel_rfl
theorem elT74 : elT Tryz.prog 74 = none := by kernel_rfl
theorem azT74 : azT Tryz.prog 74 = some (8, 1, [.int .i64 0, .int .i64 0, .int .i64 0, .int .i64 0, .int .i64 0, .int .i64 0, .int .i64 0, .int .i64 0]) := by kernel_rfl
theorem zeroT74 : zeroT Tryz.prog 74 = some [.int .i64 0, .int .i64 0, .int .i64 0, .int .i64 0, .int .i64 0, .int .i64 0, .int .i64 0, .int .i64 0] := by kernel_rfl
theorem bT74 : bT Tryz.prog 74 = true := by kernel_rfl
theorem fldT74_0 : fldT Tryz.prog 74 0 = some (0, 1, false) := by kernel_rfl
theorem fldT74_1 : fldT Tryz.prog 74 1 = some (1, 6, true) := by kernel_rfl
theorem fldT74_2 : fldT Tryz.prog 74 2 = some (7, 1, false) := by kernel_rfl
theorem zT75 : zT Tryz.prog 75 = false := by kernel_rfl
theorem szT75 : szT Tryz.prog 75 = some (8, true) := by kernel_rfl
theorem arT75 : arT Tryz.prog 75 = none := by kernel_rfl
theorem conc75 : Program.concrete Tryz.prog 75 = true := by kernel_rfl
theorem undS75 : (Program.underlying Tryz.prog 75).isSome = true := by kernel_rfl
theorem elT75 : elT Tryz.prog 75 = none := by kernel_rfl
theorem azT75 : azT Tryz.prog 75 = some (8, 1, [.int .i64 0, .int .i64 0, .int .i64 0, .int .i64 0, .int .i64 0, .int .i64 0, .int .i64 0, .int .i64 0]) := by kernel_rfl
theorem zeroT75 : zeroT Tryz.prog 75 = some [.int .i64 0, .int .i64 0, .int .i64 0, .int .i64 0, .int .i64 0, .int .i64 0, .int .i64 0, .int .i64 0] := by kernel_rfl
theorem bT75 : bT Tryz.prog 75 = true := by kernel_rfl
theorem fldT75_0 : fldT Tryz.prog 75 0 = some (0, 1, false) := by kernel_rfl
theorem fldT75_1 : fldT Tryz.prog 75 1 = some (1, 6, true) := by kernel_rfl
theorem fldT75_2 : fldT Tryz.prog 75 2 = some (7, 1, false) := by kernel_rfl
theorem zT76 : zT Tryz.prog 76 = false := by kernel_rfl
theorem szT76 : szT Tryz.prog 76 = some (1, false) := by kernel_rfl
theorem arT76 : arT Tryz.prog 76 = none := by kernel_rfl
theorem conc76 : Program.concrete Tryz.prog 76 = true := by kernel_rfl
theorem zT78 : zT Tryz.prog 78 = false := by kernel_rfl
theorem szT78 : szT Tryz.prog 78 = some (1, false) := by kernel_rfl
theorem arT78 : arT Tryz.prog 78 = none := by kernel_rfl
theorem conc78 : Program.concrete Tryz.prog 78 = true := by kernel_rfl
theorem zT79 : zT Tryz.prog 79 = false := by kernel_rfl
theorem szT79 : szT Tryz.prog 79 = some (8, true) := by kernel_rfl
theorem conc79 : Program.concrete Tryz.prog 79 = true := by kernel_rfl
theorem undS79 : (Program.underlying Tryz.prog 79).isSome = true := by kernel_rfl
theorem elT79 : elT Tryz.prog 79 = none := by kernel_rfl
theorem arT79 : arT Tryz.prog 79 = some (8, 1, false) := by kernel_rfl
theorem azT79 : azT Tryz.prog 79 = some (1, 8, [.int .i64 0]) := by kernel_rfl
theorem zeroT79 : zeroT Tryz.prog 79 = some [.int .i64 0, .int .i64 0, .int .i64 0, .int .i64 0, .int .i64 0, .int .i64 0, .int .i64 0, .int .i64 0] := by kernel_rfl
theorem zT80 : zT Tryz.prog 80 = false := by kernel_rfl
theorem szT80 : szT Tryz.prog 80 = some (1, false) := by kernel_rfl
theorem arT80 : arT Tryz.prog 80 = none := by kernel_rfl
theorem conc80 : Program.concrete Tryz.prog 80 = true := by kernel_rfl
theorem zT81 : zT Tryz.prog 81 = false := by kernel_rfl
theorem szT81 : szT Tryz.prog 81 = some (1, false) := by kernel_rfl
theorem arT81 : arT Tryz.prog 81 = none := by kernel_rfl
theorem conc81 : Program.concrete Tryz.prog 81 = true := by kernel_rfl
theorem zT82 : zT Tryz.prog 82 = false := by kernel_rfl
theorem szT82 : szT Tryz.prog 82 = some (1, false) := by kernel_rfl
theorem arT82 : arT Tryz.prog 82 = none := by kernel_rfl
theorem conc82 : Program.concrete Tryz.prog 82 = true := by kernel_rfl
theorem zT83 : zT Tryz.prog 83 = false := by kernel_rfl
theorem szT83 : szT Tryz.prog 83 = some (1, false) := by kernel_rfl
theorem arT83 : arT Tryz.prog 83 = none := by kernel_rfl
theorem conc83 : Program.concrete Tryz.prog 83 = true := by kernel_rfl
theorem undS83 : (Program.underlying Tryz.prog 83).isSome = true := by kernel_rfl
theorem elT83 : elT Tryz.prog 83 = some (1, false) := by kernel_rfl
theorem elB83 : elB Tryz.prog 83 = some (1, 24) := by kernel_rfl
theorem bsT83 : bsT Tryz.prog 83 = some 1 := by kernel_rfl
theorem mkT83 : mkT Tryz.prog 83 = some (1, 24, [.slice none 0 0]) := by kernel_rfl
theorem azT83 : azT Tryz.prog 83 = some (1, 1, [.slice none 0 0]) := by kernel_rfl
theorem zeroT83 : zeroT Tryz.prog 83 = some [.slice none 0 0] := by kernel_rfl
theorem zT84 : zT Tryz.prog 84 = false := by kernel_rfl
theorem szT84 : szT Tryz.prog 84 = some (1, false) := by kernel_rfl
theorem arT84 : arT Tryz.prog 84 = none := by kernel_rfl
theorem conc84 : Program.concrete Tryz.prog 84 = true := by kernel_rfl
theorem zT85 : zT Tryz.prog 85 = false := by kernel_rfl
theorem szT85 : szT Tryz.prog 85 = some (1, false) := by kernel_rfl
theorem arT85 : arT Tryz.prog 85 = none := by kernel_rfl
theorem conc85 : Program.concrete Tryz.prog 85 = true := by kernel_rfl
theorem zT86 : zT Tryz.prog 86 = false := by kernel_rfl
theorem szT86 : szT Tryz.prog 86 = some (1, false) := by kernel_rfl
theorem arT86 : arT Tryz.prog 86 = none := by kernel_rfl
theorem conc86 : Program.concrete Tryz.prog 86 = true := by kernel_rfl
theorem zT87 : zT Tryz.prog 87 = false := by kernel_rfl
theorem szT87 : szT Tryz.prog 87 = some (1, false) := by kernel_rfl
theorem arT87 : arT Tryz.prog 87 = none := by kernel_rfl
theorem conc87 : Program.concrete Tryz.prog 87 = true := by kernel_rfl
theorem zT88 : zT Tryz.prog 88 = false := by kernel_rfl
theorem szT88 : szT Tryz.prog 88 = some (1, false) := by kernel_rfl
theorem arT88 : arT Tryz.prog 88 = none := by kernel_rfl
theorem conc88 : Program.concrete Tryz.prog 88 = true := by kernel_rfl
theorem zT89 : zT Tryz.prog 89 = false := by kernel_rfl
theorem szT89 : szT Tryz.prog 89 = some (1, false) := by kernel_rfl
theorem arT89 : arT Tryz.prog 89 = none := by kernel_rfl
theorem conc89 : Program.concrete Tryz.prog 89 = true := by kernel_rfl
theorem zT90 : zT Tryz.prog 90 = false := by kernel_rfl
theorem szT90 : szT Tryz.prog 90 = some (5, true) := by kernel_rfl
theorem arT90 : arT Tryz.prog 90 = none := by kernel_rfl
theorem conc90 : Program.concrete Tryz.prog 90 = true := by kernel_rfl
theorem undS90 : (Program.underlying Tryz.prog 90).isSome = true := by kernel_rfl
theorem elT90 : elT Tryz.prog 90 = none := by kernel_rfl
theorem azT90 : azT Tryz.prog 90 = some (5, 1, [.int .i64 0, .int .i64 0, .int .i64 0, .int .i64 0, .int .i64 0]) := by kernel_rfl
theorem zeroT90 : zeroT Tryz.prog 90 = some [.int .i64 0, .int .i64 0, .int .i64 0, .int .i64 0, .int .i64 0] := by kernel_rfl
theorem bT90 : bT Tryz.prog 90 = true := by kernel_rfl
theorem fldT90_0 : fldT Tryz.prog 90 0 = some (0, 1, false) := by kernel_rfl
theorem fldT90_1 : fldT Tryz.prog 90 1 = some (1, 2, true) := by kernel_rfl
theorem fldT90_2 : fldT Tryz.prog 90 2 = some (3, 2, true) := by kernel_rfl
theorem zT91 : zT Tryz.prog 91 = false := by kernel_rfl
theorem szT91 : szT Tryz.prog 91 = some (5, true) := by kernel_rfl
theorem arT91 : arT Tryz.prog 91 = none := by kernel_rfl
theorem conc91 : Program.concrete Tryz.prog 91 = true := by kernel_rfl
theorem undS91 : (Program.underlying Tryz.prog 91).isSome = true := by kernel_rfl
theorem elT91 : elT Tryz.prog 91 = none := by kernel_rfl
theorem azT91 : azT Tryz.prog 91 = some (5, 1, [.int .i64 0, .int .i64 0, .int .i64 0, .int .i64 0, .int .i64 0]) := by kernel_rfl
theorem zeroT91 : zeroT Tryz.prog 91 = some [.int .i64 0, .int .i64 0, .int .i64 0, .int .i64 0, .int .i64 0] := by kernel_rfl
theorem bT91 : bT Tryz.prog 91 = true := by kernel_rfl
theorem fldT91_0 : fldT Tryz.prog 91 0 = some (0, 1, false) := by kernel_rfl
theorem fldT91_1 : fldT Tryz.prog 91 1 = some (1, 2, true) := by kernel_rfl
theorem fldT91_2 : fldT Tryz.prog 91 2 = some (3, 2, true) := by kernel_rfl
theorem zT92 : zT Tryz.prog 92 = false := by kernel_rfl
theorem szT92 : szT Tryz.prog 92 = some (1, false) := by kernel_rfl
theorem arT92 : arT Tryz.prog 92 = none := by kernel_rfl
theorem conc92 : Program.concrete Tryz.prog 92 = true := by kernel_rfl
theorem zT93 : zT Tryz.prog 93 = false := by kernel_rfl
theorem szT93 : szT Tryz.prog 93 = some (1, false) := by kernel_rfl
theorem arT93 : arT Tryz.prog 93 = none := by kernel_rfl
theorem conc93 : Program.concrete Tryz.prog 93 = true := by kernel_rfl
theorem zT94 : zT Tryz.prog 94 = false := by kernel_rfl
theorem szT94 : szT Tryz.prog 94 = some (1, false) := by kernel_rfl
theorem arT94 : arT Tryz.prog 94 = none := by kernel_rfl
theorem conc94 : Program.concrete Tryz.prog 94 = true := by kernel_rfl
theorem zT95 : zT Tryz.prog 95 = false := by kernel_rfl
theorem szT95 : szT Tryz.prog 95 = some (1, false) := by kernel_rfl
theorem arT95 : arT Tryz.prog 95 = none := by kernel_rfl
theorem conc95 : Program.concrete Tryz.prog 95 = true := by kernel_rfl
theorem zT96 : zT Tryz.prog 96 = false := by kernel_rfl
theorem szT96 : szT Tryz.prog 96 = some (1, false) := by kernel_rfl
theorem arT96 : arT Tryz.prog 96 = none := by kernel_rfl
theorem conc96 : Program.concrete Tryz.prog 96 = true := by kernel_rfl
theorem zT97 : zT Tryz.prog 97 = true := by kernel_rfl
theorem szT97 : szT Tryz.prog 97 = some (0, true) := by kernel_rfl
theorem arT97 : arT Tryz.prog 97 = none := by kernel_rfl
theorem conc97 : Program.concrete Tryz.prog 97 = true := by kernel_rfl
theorem undS97 : (Program.underlying Tryz.prog 97).isSome = true := by kernel_rfl
theorem elT97 : elT Tryz.prog 97 = none := by kernel_rfl
theorem azT97 : azT Tryz.prog 97 = some (0, 1, []) := by kernel_rfl
theorem zeroT97 : zeroT Tryz.prog 97 = some [] := by kernel_rfl
theorem bT97 : bT Tryz.prog 97 = true := by kernel_rfl
theorem zT98 : zT Tryz.prog 98 = true := by kernel_rfl
theorem szT98 : szT Tryz.prog 98 = some (0, true) := by kernel_rfl
theorem arT98 : arT Tryz.prog 98 = none := by kernel_rfl
theorem conc98 : Program.concrete Tryz.prog 98 = true := by kernel_rfl
theorem undS98 : (Program.underlying Tryz.prog 98).isSome = true := by kernel_rfl
theorem elT98 : elT Tryz.prog 98 = none := by kernel_rfl
theorem azT98 : azT Tryz.prog 98 = some (0, 1, []) := by kernel_rfl
theorem zeroT98 : zeroT Tryz.prog 98 = some [] := by kernel_rfl
theorem bT98 : bT Tryz.prog 98 = true := by kernel_rfl
theorem zT99 : zT Tryz.prog 99 = false := by kernel_rfl
theorem szT99 : szT Tryz.prog 99 = some (1, false) := by kernel_rfl
theorem arT99 : arT Tryz.prog 99 = none := by kernel_rfl
theorem conc99 : Program.concrete Tryz.prog 99 = true := by kernel_rfl
theorem zT100 : zT Tryz.prog 100 = false := by kernel_rfl
theorem szT100 : szT Tryz.prog 100 = some (1, false) := by kernel_rfl
theorem arT100 : arT Tryz.prog 100 = none := by kernel_rfl
theorem conc100 : Program.concrete Tryz.prog 100 = true := by kernel_rfl
theorem zT101 : zT Tryz.prog 101 = false := by kernel_rfl
theorem szT101 : szT Tryz.prog 101 = some (1, false) := by kernel_rfl
theorem arT101 : arT Tryz.prog 101 = none := by kernel_rfl
theorem conc101 : Program.concrete Tryz.prog 101 = true := by kernel_rfl
theorem undS101 : (Program.underlying Tryz.prog 101).isSome = true := by kernel_rfl
theorem intT101 : intT Tryz.prog 101 = some .i64 := by kernel_rfl
theorem elT101 : elT Tryz.prog 101 = none := by kernel_rfl
theorem azT101 : azT Tryz.prog 101 = some (1, 1, [.int .i64 0]) := by kernel_rfl
theorem zeroT101 : zeroT Tryz.prog 101 = some [.int .i64 0] := by kernel_rfl
theorem zT103 : zT Tryz.prog 103 = false := by kernel_rfl
theorem szT103 : szT Tryz.prog 103 = some (1, false) := by kernel_rfl
theorem arT103 : arT Tryz.prog 103 = none := by kernel_rfl
theorem conc103 : Program.concrete Tryz.prog 103 = true := by kernel_rfl
theorem zT104 : zT Tryz.prog 104 = true := by kernel_rfl
theorem szT104 : szT Tryz.prog 104 = some (0, true) := by kernel_rfl
theorem arT104 : arT Tryz.prog 104 = none := by kernel_rfl
theorem conc104 : Program.concrete Tryz.prog 104 = true := by kernel_rfl
theorem undS104 : (Program.underlying Tryz.prog 104).isSome = true := by kernel_rfl
theorem elT104 : elT Tryz.prog 104 = none := by kernel_rfl
theorem azT104 : azT Tryz.prog 104 = some (0, 1, []) := by kernel_rfl
theorem zeroT104 : zeroT Tryz.prog 104 = some [] := by kernel_rfl
theorem bT104 : bT Tryz.prog 104 = true := by kernel_rfl
theorem zT105 : zT Tryz.prog 105 = false := by kernel_rfl
theorem szT105 : szT Tryz.prog 105 = some (1, false) := by kernel_rfl
theorem arT105 : arT Tryz.prog 105 = none := by kernel_rfl
theorem conc105 : Program.concrete Tryz.prog 105 = true := by kernel_rfl
theorem zT106 : zT Tryz.prog 106 = false := by kernel_rfl
theorem szT106 : szT Tryz.prog 106 = some (2, true) := by kernel_rfl
theorem arT106 : arT Tryz.prog 106 = none := by kernel_rfl
theorem conc106 : Program.concrete Tryz.prog 106 = true := by kernel_rfl
theorem undS106 : (Program.underlying Tryz.prog 106).isSome = true := by kernel_rfl
theorem elT106 : elT Tryz.prog 106 = none := by kernel_rfl
theorem azT106 : azT Tryz.prog 106 = some (2, 1, [.int .i64 0, .bool false]) := by kernel_rfl
theorem zeroT106 : zeroT Tryz.prog 106 = some [.int .i64 0, .bool false] := by kernel_rfl
theorem bT106 : bT Tryz.prog 106 = true := by kernel_rfl
theorem fldT106_0 : fldT Tryz.prog 106 0 = some (0, 1, false) := by kernel_rfl
theorem fldT106_1 : fldT Tryz.prog 106 1 = some (1, 1, false) := by kernel_rfl
theorem zT107 : zT Tryz.prog 107 = false := by kernel_rfl
theorem szT107 : szT Tryz.prog 107 = some (2, true) := by kernel_rfl
theorem arT107 : arT Tryz.prog 107 = none := by kernel_rfl
theorem conc107 : Program.concrete Tryz.prog 107 = true := by kernel_rfl
theorem undS107 : (Program.underlying Tryz.prog 107).isSome = true := by kernel_rfl
theorem elT107 : elT Tryz.prog 107 = none := by kernel_rfl
theorem azT107 : azT Tryz.prog 107 = some (2, 1, [.int .i64 0, .bool false]) := by kernel_rfl
theorem zeroT107 : zeroT Tryz.prog 107 = some [.int .i64 0, .bool false] := by kernel_rfl
theorem bT107 : bT Tryz.prog 107 = true := by kernel_rfl
theorem fldT107_0 : fldT Tryz.prog 107 0 = some (0, 1, false) := by kernel_rfl
theorem fldT107_1 : fldT Tryz.prog 107 1 = some (1, 1, false) := by kernel_rfl
theorem zT109 : zT Tryz.prog 109 = false := by kernel_rfl
theorem szT109 : szT Tryz.prog 109 = some (1, false) := by kernel_rfl
theorem arT109 : arT Tryz.prog 109 = none := by kernel_rfl
theorem conc109 : Program.concrete Tryz.prog 109 = true := by kernel_rfl
theorem zT110 : zT Tryz.prog 110 = false := by kernel_rfl
theorem szT110 : szT Tryz.prog 110 = some (1, false) := by kernel_rfl
theorem arT110 : arT Tryz.prog 110 = none := by kernel_rfl
theorem conc110 : Program.concrete Tryz.prog 110 = true := by kernel_rfl
theorem zT111 : zT Tryz.prog 111 = false := by kernel_rfl
theorem szT111 : szT Tryz.prog 111 = some (1, false) := by kernel_rfl
theorem arT111 : arT Tryz.prog 111 = none := by kernel_rfl
theorem conc111 : Program.concrete Tryz.prog 111 = true := by kernel_rfl
theorem zT112 : zT Tryz.prog 112 = false := by kernel_rfl
theorem szT112 : szT Tryz.prog 112 = some (1, false) := by kernel_rfl
theorem arT112 : arT Tryz.prog 112 = none := by kernel_rfl
theorem conc112 : Program.concrete Tryz.prog 112 = true := by kernel_rfl
theorem zT113 : zT Tryz.prog 113 = false := by kernel_rfl
theorem szT113 : szT Tryz.prog 113 = some (1, false) := by kernel_rfl
theorem arT113 : arT Tryz.prog 113 = none := by kernel_rfl
theorem conc113 : Program.concrete Tryz.prog 113 = true := by kernel_rfl
theorem zT114 : zT Tryz.prog 114 = false := by kernel_rfl
theorem szT114 : szT Tryz.prog 114 = some (1, false) := by kernel_rfl
theorem arT114 : arT Tryz.prog 114 = none := by kernel_rfl
theorem conc114 : Program.concrete Tryz.prog 114 = true := by kernel_rfl
theorem undS114 : (Program.underlying Tryz.prog 114).isSome = true := by kernel_rfl
theorem intT114 : intT Tryz.prog 114 = some .u32 := by kernel_rfl
theorem elT114 : elT Tryz.prog 114 = none := by kernel_rfl
theorem azT114 : azT Tryz.prog 114 = some (1, 1, [.int .u32 0]) := by kernel_rfl
theorem zeroT114 : zeroT Tryz.prog 114 = some [.int .u32 0] := by kernel_rfl
theorem zT115 : zT Tryz.prog 115 = false := by kernel_rfl
theorem szT115 : szT Tryz.prog 115 = some (1, false) := by kernel_rfl
theorem arT115 : arT Tryz.prog 115 = none := by kernel_rfl
theorem conc115 : Program.concrete Tryz.prog 115 = true := by kernel_rfl
theorem zT116 : zT Tryz.prog 116 = false := by kernel_rfl
theorem szT116 : szT Tryz.prog 116 = some (1, false) := by kernel_rfl
theorem arT116 : arT Tryz.prog 116 = none := by kernel_rfl
theorem conc116 : Program.concrete Tryz.prog 116 = true := by kernel_rfl
theorem undS116 : (Program.underlying Tryz.prog 116).isSome = true := by kernel_rfl
theorem intT116 : intT Tryz.prog 116 = some .u64 := by kernel_rfl
theorem elT116 : elT Tryz.prog 116 = none := by kernel_rfl
theorem azT116 : azT Tryz.prog 116 = some (1, 1, [.int .u64 0]) := by kernel_rfl
theorem zeroT116 : zeroT Tryz.prog 116 = some [.int .u64 0] := by kernel_rfl
theorem zT117 : zT Tryz.prog 117 = false := by kernel_rfl
theorem szT117 : szT Tryz.prog 117 = some (1, false) := by kernel_rfl
theorem arT117 : arT Tryz.prog 117 = none := by kernel_rfl
theorem conc117 : Program.concrete Tryz.prog 117 = true := by kernel_rfl
theorem zT118 : zT Tryz.prog 118 = false := by kernel_rfl
theorem szT118 : szT Tryz.prog 118 = some (1, false) := by kernel_rfl
theorem arT118 : arT Tryz.prog 118 = none := by kernel_rfl
theorem conc118 : Program.concrete Tryz.prog 118 = true := by kernel_rfl
theorem zT119 : zT Tryz.prog 119 = false := by kernel_rfl
theorem szT119 : szT Tryz.prog 119 = some (1, false) := by kernel_rfl
theorem arT119 : arT Tryz.prog 119 = none := by kernel_rfl
theorem conc119 : Program.concrete Tryz.prog 119 = true := by kernel_rfl
theorem zT120 : zT Tryz.prog 120 = false := by kernel_rfl
theorem szT120 : szT Tryz.prog 120 = some (101, true) := by kernel_rfl
theorem conc120 : Program.concrete Tryz.prog 120 = true := by kernel_rfl
theorem undS120 : (Program.underlying Tryz.prog 120).isSome = true := by kernel_rfl
theorem elT120 : elT Tryz.prog 120 = none := by kernel_rfl
theorem arT120 : arT Tryz.prog 120 = some (101, 1, false) := by kernel_rfl
theorem azT120 : azT Tryz.prog 120 = some (1, 101, [.bool false]) := by kernel_rfl
theorem zT121 : zT Tryz.prog 121 = false := by kernel_rfl
theorem szT121 : szT Tryz.prog 121 = some (101, true) := by kernel_rfl
theorem conc121 : Program.concrete Tryz.prog 121 = true := by kernel_rfl
theorem undS121 : (Program.underlying Tryz.prog 121).isSome = true := by kernel_rfl
theorem elT121 : elT Tryz.prog 121 = none := by kernel_rfl
theorem arT121 : arT Tryz.prog 121 = some (101, 1, false) := by kernel_rfl
theorem azT121 : azT Tryz.prog 121 = some (1, 101, [.bool false]) := by kernel_rfl
theorem zT122 : zT Tryz.prog 122 = false := by kernel_rfl
theorem szT122 : szT Tryz.prog 122 = some (1, false) := by kernel_rfl
theorem zeroT122 : azT Tryz.prog 122 = some (1, 1, [.pointer none]) := by kernel_rfl
theorem arT122 : arT Tryz.prog 122 = none := by kernel_rfl
theorem conc122 : Program.concrete Tryz.prog 122 = true := by kernel_rfl
theorem zT123 : zT Tryz.prog 123 = false := by kernel_rfl
theorem szT123 : szT Tryz.prog 123 = some (1, false) := by kernel_rfl
theorem arT123 : arT Tryz.prog 123 = none := by kernel_rfl
theorem conc123 : Program.concrete Tryz.prog 123 = true := by kernel_rfl
theorem zT124 : zT Tryz.prog 124 = false := by kernel_rfl
theorem szT124 : szT Tryz.prog 124 = some (1, false) := by kernel_rfl
theorem arT124 : arT Tryz.prog 124 = none := by kernel_rfl
theorem conc124 : Program.concrete Tryz.prog 124 = true := by kernel_rfl
theorem zT125 : zT Tryz.prog 125 = false := by kernel_rfl
theorem szT125 : szT Tryz.prog 125 = some (1, false) := by kernel_rfl
theorem arT125 : arT Tryz.prog 125 = none := by kernel_rfl
theorem conc125 : Program.concrete Tryz.prog 125 = true := by kernel_rfl
theorem zT126 : zT Tryz.prog 126 = false := by kernel_rfl
theorem szT126 : szT Tryz.prog 126 = some (1, false) := by kernel_rfl
theorem arT126 : arT Tryz.prog 126 = none := by kernel_rfl
theorem conc126 : Program.concrete Tryz.prog 126 = true := by kernel_rfl
theorem zT127 : zT Tryz.prog 127 = false := by kernel_rfl
theorem szT127 : szT Tryz.prog 127 = some (1, false) := by kernel_rfl
theorem arT127 : arT Tryz.prog 127 = none := by kernel_rfl
theorem conc127 : Program.concrete Tryz.prog 127 = true := by kernel_rfl
theorem zT128 : zT Tryz.prog 128 = false := by kernel_rfl
theorem szT128 : szT Tryz.prog 128 = some (1, false) := by kernel_rfl
theorem arT128 : arT Tryz.prog 128 = none := by kernel_rfl
theorem conc128 : Program.concrete Tryz.prog 128 = true := by kernel_rfl
theorem zT129 : zT Tryz.prog 129 = false := by kernel_rfl
theorem szT129 : szT Tryz.prog 129 = some (1, false) := by kernel_rfl
theorem arT129 : arT Tryz.prog 129 = none := by kernel_rfl
theorem conc129 : Program.concrete Tryz.prog 129 = true := by kernel_rfl
theorem undS129 : (Program.underlying Tryz.prog 129).isSome = true := by kernel_rfl
theorem intT129 : intT Tryz.prog 129 = some .i64 := by kernel_rfl
theorem elT129 : elT Tryz.prog 129 = none := by kernel_rfl
theorem azT129 : azT Tryz.prog 129 = some (1, 1, [.int .i64 0]) := by kernel_rfl
theorem zeroT129 : zeroT Tryz.prog 129 = some [.int .i64 0] := by kernel_rfl
theorem zT131 : zT Tryz.prog 131 = false := by kernel_rfl
theorem szT131 : szT Tryz.prog 131 = some (1, false) := by kernel_rfl
theorem arT131 : arT Tryz.prog 131 = none := by kernel_rfl
theorem conc131 : Program.concrete Tryz.prog 131 = true := by kernel_rfl
theorem zT132 : zT Tryz.prog 132 = false := by kernel_rfl
theorem szT132 : szT Tryz.prog 132 = some (3, true) := by kernel_rfl
theorem arT132 : arT Tryz.prog 132 = none := by kernel_rfl
theorem conc132 : Program.concrete Tryz.prog 132 = true := by kernel_rfl
theorem undS132 : (Program.underlying Tryz.prog 132).isSome = true := by kernel_rfl
theorem elT132 : elT Tryz.prog 132 = none := by kernel_rfl
theorem azT132 : azT Tryz.prog 132 = some (3, 1, [.slice none 0 0, .slice none 0 0, .map none]) := by kernel_rfl
theorem zeroT132 : zeroT Tryz.prog 132 = some [.slice none 0 0, .slice none 0 0, .map none] := by kernel_rfl
theorem bT132 : bT Tryz.prog 132 = true := by kernel_rfl
theorem fldT132_0 : fldT Tryz.prog 132 0 = some (0, 2, true) := by kernel_rfl
theorem fldT132_1 : fldT Tryz.prog 132 1 = some (2, 1, false) := by kernel_rfl
theorem zT133 : zT Tryz.prog 133 = false := by kernel_rfl
theorem szT133 : szT Tryz.prog 133 = some (3, true) := by kernel_rfl
theorem arT133 : arT Tryz.prog 133 = none := by kernel_rfl
theorem conc133 : Program.concrete Tryz.prog 133 = true := by kernel_rfl
theorem undS133 : (Program.underlying Tryz.prog 133).isSome = true := by kernel_rfl
theorem elT133 : elT Tryz.prog 133 = none := by kernel_rfl
theorem azT133 : azT Tryz.prog 133 = some (3, 1, [.slice none 0 0, .slice none 0 0, .map none]) := by kernel_rfl
theorem zeroT133 : zeroT Tryz.prog 133 = some [.slice none 0 0, .slice none 0 0, .map none] := by kernel_rfl
theorem bT133 : bT Tryz.prog 133 = true := by kernel_rfl
theorem fldT133_0 : fldT Tryz.prog 133 0 = some (0, 2, true) := by kernel_rfl
theorem fldT133_1 : fldT Tryz.prog 133 1 = some (2, 1, false) := by kernel_rfl
theorem zT134 : zT Tryz.prog 134 = false := by kernel_rfl
theorem szT134 : szT Tryz.prog 134 = some (1, false) := by kernel_rfl
theorem arT134 : arT Tryz.prog 134 = none := by kernel_rfl
theorem conc134 : Program.concrete Tryz.prog 134 = true := by kernel_rfl
theorem zT135 : zT Tryz.prog 135 = false := by kernel_rfl
theorem szT135 : szT Tryz.prog 135 = some (1, false) := by kernel_rfl
theorem arT135 : arT Tryz.prog 135 = none := by kernel_rfl
theorem conc135 : Program.concrete Tryz.prog 135 = true := by kernel_rfl
theorem zT136 : zT Tryz.prog 136 = false := by kernel_rfl
theorem szT136 : szT Tryz.prog 136 = some (1, false) := by kernel_rfl
theorem arT136 : arT Tryz.prog 136 = none := by kernel_rfl
theorem conc136 : Program.concrete Tryz.prog 136 = true := by kernel_rfl
theorem zT137 : zT Tryz.prog 137 = false := by kernel_rfl
theorem szT137 : szT Tryz.prog 137 = some (1, false) := by kernel_rfl
theorem arT137 : arT Tryz.prog 137 = none := by kernel_rfl
theorem conc137 : Program.concrete Tryz.prog 137 = true := by kernel_rfl
theorem zT138 : zT Tryz.prog 138 = false := by kernel_rfl
theorem szT138 : szT Tryz.prog 138 = some (1, false) := by kernel_rfl
theorem arT138 : arT Tryz.prog 138 = none := by kernel_rfl
theorem conc138 : Program.concrete Tryz.prog 138 = true := by kernel_rfl
theorem zT139 : zT Tryz.prog 139 = false := by kernel_rfl
theorem szT139 : szT Tryz.prog 139 = some (1, false) := by kernel_rfl
theorem arT139 : arT Tryz.prog 139 = none := by kernel_rfl
theorem conc139 : Program.concrete Tryz.prog 139 = true := by kernel_rfl
theorem zT140 : zT Tryz.prog 140 = false := by kernel_rfl
theorem szT140 : szT Tryz.prog 140 = some (5, true) := by kernel_rfl
theorem arT140 : arT Tryz.prog 140 = none := by kernel_rfl
theorem conc140 : Program.concrete Tryz.prog 140 = true := by kernel_rfl
theorem undS140 : (Program.underlying Tryz.prog 140).isSome = true := by kernel_rfl
theorem elT140 : elT Tryz.prog 140 = none := by kernel_rfl
theorem azT140 : azT Tryz.prog 140 = some (5, 1, [.int .i64 0, .int .i64 0, .int .i64 0, .int .i64 0, .int .i64 0]) := by kernel_rfl
theorem zeroT140 : zeroT Tryz.prog 140 = some [.int .i64 0, .int .i64 0, .int .i64 0, .int .i64 0, .int .i64 0] := by kernel_rfl
theorem bT140 : bT Tryz.prog 140 = true := by kernel_rfl
theorem fldT140_0 : fldT Tryz.prog 140 0 = some (0, 5, true) := by kernel_rfl
theorem zT141 : zT Tryz.prog 141 = false := by kernel_rfl
theorem szT141 : szT Tryz.prog 141 = some (5, true) := by kernel_rfl
theorem arT141 : arT Tryz.prog 141 = none := by kernel_rfl
theorem conc141 : Program.concrete Tryz.prog 141 = true := by kernel_rfl
theorem undS141 : (Program.underlying Tryz.prog 141).isSome = true := by kernel_rfl
theorem elT141 : elT Tryz.prog 141 = none := by kernel_rfl
theorem azT141 : azT Tryz.prog 141 = some (5, 1, [.int .i64 0, .int .i64 0, .int .i64 0, .int .i64 0, .int .i64 0]) := by kernel_rfl
theorem zeroT141 : zeroT Tryz.prog 141 = some [.int .i64 0, .int .i64 0, .int .i64 0, .int .i64 0, .int .i64 0] := by kernel_rfl
theorem bT141 : bT Tryz.prog 141 = true := by kernel_rfl
theorem fldT141_0 : fldT Tryz.prog 141 0 = some (0, 5, true) := by kernel_rfl
theorem zT142 : zT Tryz.prog 142 = false := by kernel_rfl
theorem szT142 : szT Tryz.prog 142 = some (1, false) := by kernel_rfl
theorem arT142 : arT Tryz.prog 142 = none := by kernel_rfl
theorem conc142 : Program.concrete Tryz.prog 142 = true := by kernel_rfl
theorem zT143 : zT Tryz.prog 143 = false := by kernel_rfl
theorem szT143 : szT Tryz.prog 143 = some (1, false) := by kernel_rfl
theorem arT143 : arT Tryz.prog 143 = none := by kernel_rfl
theorem conc143 : Program.concrete Tryz.prog 143 = true := by kernel_rfl
theorem zT144 : zT Tryz.prog 144 = false := by kernel_rfl
theorem szT144 : szT Tryz.prog 144 = some (1, false) := by kernel_rfl
theorem arT144 : arT Tryz.prog 144 = none := by kernel_rfl
theorem zT145 : zT Tryz.prog 145 = false := by kernel_rfl
theorem szT145 : szT Tryz.prog 145 = some (1, false) := by kernel_rfl
theorem arT145 : arT Tryz.prog 145 = none := by kernel_rfl
theorem zT146 : zT Tryz.prog 146 = false := by kernel_rfl
theorem szT146 : szT Tryz.prog 146 = some (1, false) := by kernel_rfl
theorem arT146 : arT Tryz.prog 146 = none := by kernel_rfl
theorem conc146 : Program.concrete Tryz.prog 146 = true := by kernel_rfl
theorem zT147 : zT Tryz.prog 147 = false := by kernel_rfl
theorem szT147 : szT Tryz.prog 147 = some (1, false) := by kernel_rfl
theorem arT147 : arT Tryz.prog 147 = none := by kernel_rfl
theorem conc147 : Program.concrete Tryz.prog 147 = true := by kernel_rfl
theorem zT148 : zT Tryz.prog 148 = false := by kernel_rfl
theorem szT148 : szT Tryz.prog 148 = some (1, false) := by kernel_rfl
theorem arT148 : arT Tryz.prog 148 = none := by kernel_rfl
theorem conc148 : Program.concrete Tryz.prog 148 = true := by kernel_rfl
theorem zT149 : zT Tryz.prog 149 = false := by kernel_rfl
theorem szT149 : szT Tryz.prog 149 = some (1, false) := by kernel_rfl
theorem arT149 : arT Tryz.prog 149 = none := by kernel_rfl
theorem conc149 : Program.concrete Tryz.prog 149 = true := by kernel_rfl
theorem zT155 : zT Tryz.prog 155 = false := by kernel_rfl
theorem szT155 : szT Tryz.prog 155 = some (1, false) := by kernel_rfl
theorem arT155 : arT Tryz.prog 155 = none := by kernel_rfl
theorem conc155 : Program.concrete Tryz.prog 155 = true := by kernel_rfl
theorem zT158 : zT Tryz.prog 158 = false := by kernel_rfl
theorem szT158 : szT Tryz.prog 158 = some (1, false) := by kernel_rfl
theorem arT158 : arT Tryz.prog 158 = none := by kernel_rfl
theorem conc158 : Program.concrete Tryz.prog 158 = true := by kernel_rfl
theorem zT159 : zT Tryz.prog 159 = false := by kernel_rfl
theorem szT159 : szT Tryz.prog 159 = some (1, false) := by kernel_rfl
theorem zeroT159 : azT Tryz.prog 159 = some (1, 1, [.pointer none]) := by kernel_rfl
theorem arT159 : arT Tryz.prog 159 = none := by kernel_rfl
theorem conc159 : Program.concrete Tryz.prog 159 = true := by kernel_rfl
theorem zT164 : zT Tryz.prog 164 = false := by kernel_rfl
theorem szT164 : szT Tryz.prog 164 = some (1, true) := by kernel_rfl
theorem arT164 : arT Tryz.prog 164 = none := by kernel_rfl
theorem conc164 : Program.concrete Tryz.prog 164 = true := by kernel_rfl
theorem undS164 : (Program.underlying Tryz.prog 164).isSome = true := by kernel_rfl
theorem elT164 : elT Tryz.prog 164 = none := by kernel_rfl
theorem azT164 : azT Tryz.prog 164 = some (1, 1, [.int .i64 0]) := by kernel_rfl
theorem zeroT164 : zeroT Tryz.prog 164 = some [.int .i64 0] := by kernel_rfl
theorem bT164 : bT Tryz.prog 164 = true := by kernel_rfl
theorem fldT164_0 : fldT Tryz.prog 164 0 = some (0, 1, false) := by kernel_rfl
theorem zT165 : zT Tryz.prog 165 = false := by kernel_rfl
theorem szT165 : szT Tryz.prog 165 = some (1, true) := by kernel_rfl
theorem arT165 : arT Tryz.prog 165 = none := by kernel_rfl
theorem conc165 : Program.concrete Tryz.prog 165 = true := by kernel_rfl
theorem undS165 : (Program.underlying Tryz.prog 165).isSome = true := by kernel_rfl
theorem elT165 : elT Tryz.prog 165 = none := by kernel_rfl
theorem azT165 : azT Tryz.prog 165 = some (1, 1, [.int .i64 0]) := by kernel_rfl
theorem zeroT165 : zeroT Tryz.prog 165 = some [.int .i64 0] := by kernel_rfl
theorem bT165 : bT Tryz.prog 165 = true := by kernel_rfl
theorem fldT165_0 : fldT Tryz.prog 165 0 = some (0, 1, false) := by kernel_rfl
theorem zT166 : zT Tryz.prog 166 = false := by kernel_rfl
theorem szT166 : szT Tryz.prog 166 = some (2, true) := by kernel_rfl
theorem arT166 : arT Tryz.prog 166 = none := by kernel_rfl
theorem conc166 : Program.concrete Tryz.prog 166 = true := by kernel_rfl
theorem undS166 : (Program.underlying Tryz.prog 166).isSome = true := by kernel_rfl
theorem elT166 : elT Tryz.prog 166 = none := by kernel_rfl
theorem azT166 : azT Tryz.prog 166 = some (2, 1, [.int .i64 0, .int .i64 0]) := by kernel_rfl
theorem zeroT166 : zeroT Tryz.prog 166 = some [.int .i64 0, .int .i64 0] := by kernel_rfl
theorem bT166 : bT Tryz.prog 166 = true := by kernel_rfl
theorem fldT166_0 : fldT Tryz.prog 166 0 = some (0, 1, true) := by kernel_rfl
theorem fldT166_1 : fldT Tryz.prog 166 1 = some (1, 1, false) := by kernel_rfl
theorem zT167 : zT Tryz.prog 167 = false := by kernel_rfl
theorem szT167 : szT Tryz.prog 167 = some (2, true) := by kernel_rfl
theorem arT167 : arT Tryz.prog 167 = none := by kernel_rfl
theorem conc167 : Program.concrete Tryz.prog 167 = true := by kernel_rfl
theorem undS167 : (Program.underlying Tryz.prog 167).isSome = true := by kernel_rfl
theorem elT167 : elT Tryz.prog 167 = none := by kernel_rfl
theorem azT167 : azT Tryz.prog 167 = some (2, 1, [.int .i64 0, .int .i64 0]) := by kernel_rfl
theorem zeroT167 : zeroT Tryz.prog 167 = some [.int .i64 0, .int .i64 0] := by kernel_rfl
theorem bT167 : bT Tryz.prog 167 = true := by kernel_rfl
theorem fldT167_0 : fldT Tryz.prog 167 0 = some (0, 1, true) := by kernel_rfl
theorem fldT167_1 : fldT Tryz.prog 167 1 = some (1, 1, false) := by kernel_rfl
theorem zT168 : zT Tryz.prog 168 = false := by kernel_rfl
theorem szT168 : szT Tryz.prog 168 = some (6, true) := by kernel_rfl
theorem arT168 : arT Tryz.prog 168 = none := by kernel_rfl
theorem conc168 : Program.concrete Tryz.prog 168 = true := by kernel_rfl
theorem undS168 : (Program.underlying Tryz.prog 168).isSome = true := by kernel_rfl
theorem elT168 : elT Tryz.prog 168 = none := by kernel_rfl
theorem azT168 : azT Tryz.prog 168 = some (6, 1, [.int .i64 0, .int .i64 0, .int .i64 0, .int .i64 0, .int .i64 0, .int .i64 0]) := by kernel_rfl
theorem zeroT168 : zeroT Tryz.prog 168 = some [.int .i64 0, .int .i64 0, .int .i64 0, .int .i64 0, .int .i64 0, .int .i64 0] := by kernel_rfl
theorem bT168 : bT Tryz.prog 168 = true := by kernel_rfl
theorem fldT168_0 : fldT Tryz.prog 168 0 = some (0, 5, true) := by kernel_rfl
theorem fldT168_1 : fldT Tryz.prog 168 1 = some (5, 1, false) := by kernel_rfl
theorem zT169 : zT Tryz.prog 169 = false := by kernel_rfl
theorem szT169 : szT Tryz.prog 169 = some (6, true) := by kernel_rfl
theorem arT169 : arT Tryz.prog 169 = none := by kernel_rfl
theorem conc169 : Program.concrete Tryz.prog 169 = true := by kernel_rfl
theorem undS169 : (Program.underlying Tryz.prog 169).isSome = true := by kernel_rfl
theorem elT169 : elT Tryz.prog 169 = none := by kernel_rfl
theorem azT169 : azT Tryz.prog 169 = some (6, 1, [.int .i64 0, .int .i64 0, .int .i64 0, .int .i64 0, .int .i64 0, .int .i64 0]) := by kernel_rfl
theorem zeroT169 : zeroT Tryz.prog 169 = some [.int .i64 0, .int .i64 0, .int .i64 0, .int .i64 0, .int .i64 0, .int .i64 0] := by kernel_rfl
theorem bT169 : bT Tryz.prog 169 = true := by kernel_rfl
theorem fldT169_0 : fldT Tryz.prog 169 0 = some (0, 5, true) := by kernel_rfl
theorem fldT169_1 : fldT Tryz.prog 169 1 = some (5, 1, false) := by kernel_rfl
theorem zT170 : zT Tryz.prog 170 = false := by kernel_rfl
theorem szT170 : szT Tryz.prog 170 = some (1, false) := by kernel_rfl
theorem arT170 : arT Tryz.prog 170 = none := by kernel_rfl
theorem conc170 : Program.concrete Tryz.prog 170 = true := by kernel_rfl
theorem zT171 : zT Tryz.prog 171 = false := by kernel_rfl
theorem szT171 : szT Tryz.prog 171 = some (1, false) := by kernel_rfl
theorem arT171 : arT Tryz.prog 171 = none := by kernel_rfl
theorem conc171 : Program.concrete Tryz.prog 171 = true := by kernel_rfl
theorem zT172 : zT Tryz.prog 172 = false := by kernel_rfl
theorem szT172 : szT Tryz.prog 172 = some (1, false) := by kernel_rfl
theorem arT172 : arT Tryz.prog 172 = none := by kernel_rfl
theorem conc172 : Program.concrete Tryz.prog 172 = true := by kernel_rfl
theorem zT173 : zT Tryz.prog 173 = false := by kernel_rfl
theorem szT173 : szT Tryz.prog 173 = some (1, false) := by kernel_rfl
theorem arT173 : arT Tryz.prog 173 = none := by kernel_rfl
theorem conc173 : Program.concrete Tryz.prog 173 = true := by kernel_rfl
theorem zT174 : zT Tryz.prog 174 = false := by kernel_rfl
theorem szT174 : szT Tryz.prog 174 = some (1, false) := by kernel_rfl
theorem arT174 : arT Tryz.prog 174 = none := by kernel_rfl
theorem conc174 : Program.concrete Tryz.prog 174 = true := by kernel_rfl
theorem zT175 : zT Tryz.prog 175 = false := by kernel_rfl
theorem szT175 : szT Tryz.prog 175 = some (1, false) := by kernel_rfl
theorem arT175 : arT Tryz.prog 175 = none := by kernel_rfl
theorem conc175 : Program.concrete Tryz.prog 175 = true := by kernel_rfl
theorem undS175 : (Program.underlying Tryz.prog 175).isSome = true := by kernel_rfl
theorem elT175 : elT Tryz.prog 175 = none := by kernel_rfl
theorem azT175 : azT Tryz.prog 175 = some (1, 1, [.pointer none]) := by kernel_rfl
theorem zeroT175 : zeroT Tryz.prog 175 = some [.pointer none] := by kernel_rfl
theorem wtAll : type_of% (And.intro (And.intro (And.intro (And.intro (And.intro (And.intro (And.intro (And.intro (And.intro (@boolT4) (And.intro (@ifcT20) (@ifcT65))) (And.intro (And.intro (@ifcT66) (@ifcT144)) (And.intro (@ifcT145) (@meth154)))) (And.intro (And.intro (@meth182) (And.intro (@meth81o) (@meth81s))) (And.intro (And.intro (@meth126o) (@meth126s)) (And.intro (@mapZ136) (@zT1))))) (And.intro (And.intro (And.intro (@szT1) (And.intro (@arT1) (@conc1))) (And.intro (And.intro (@zT2) (@szT2)) (And.intro (@arT2) (@conc2)))) (And.intro (And.intro (And.intro (@undS2) (@intT2)) (And.intro (@elT2) (@azT2))) (And.intro (And.intro (@zeroT2) (@zT3)) (And.intro (@szT3) (@arT3)))))) (And.intro (And.intro (And.intro (And.intro (@conc3) (And.intro (@undS3) (@intT3))) (And.intro (And.intro (@elT3) (@azT3)) (And.intro (@zeroT3) (@zT4)))) (And.intro (And.intro (@szT4) (And.intro (@arT4) (@conc4))) (And.intro (And.intro (@undS4) (@elT4)) (And.intro (@azT4) (@zeroT4))))) (And.intro (And.intro (And.intro (@zT5) (And.intro (@szT5) (@arT5))) (And.intro (And.intro (@conc5) (@undS5)) (And.intro (@intT5) (@elT5)))) (And.intro (And.intro (And.intro (@azT5) (@zeroT5)) (And.intro (@zT12) (@szT12))) (And.intro (And.intro (@arT12) (@conc12)) (And.intro (@undS12) (@intT12))))))) (And.intro (And.intro (And.intro (And.intro (And.intro (@elT12) (And.intro (@azT12) (@zeroT12))) (And.intro (And.intro (@zT13) (@szT13)) (And.intro (@arT13) (@conc13)))) (And.intro (And.intro (@undS13) (And.intro (@elT13) (@azT13))) (And.intro (And.intro (@zeroT13) (@bT13)) (And.intro (@fldT13_0) (@fldT13_1))))) (And.intro (And.intro (And.intro (@zT20) (And.intro (@szT20) (@arT20))) (And.intro (And.intro (@zT21) (@szT21)) (And.intro (@arT21) (@conc21)))) (And.intro (And.intro (And.intro (@undS21) (@intT21)) (And.intro (@elT21) (@azT21))) (And.intro (And.intro (@zeroT21) (@zT22)) (And.intro (@szT22) (@arT22)))))) (And.intro (And.intro (And.intro (And.intro (@conc22) (And.intro (@undS22) (@elT22))) (And.intro (And.intro (@elB22) (@bsT22)) (And.intro (@mkT22) (@azT22)))) (And.intro (And.intro (And.intro (@zeroT22) (@zT23)) (And.intro (@szT23) (@arT23))) (And.intro (And.intro (@conc23) (@undS23)) (And.intro (@elT23) (@elB23))))) (And.intro (And.intro (And.intro (@bsT23) (And.intro (@mkT23) (@azT23))) (And.intro (And.intro (@zeroT23) (@zT24)) (And.intro (@szT24) (@arT24)))) (And.intro (And.intro (And.intro (@conc24) (@undS24)) (And.intro (@elT24) (@elB24))) (And.intro (And.intro (@bsT24) (@mkT24)) (And.intro (@azT24) (@zeroT24)))))))) (And.intro (And.intro (And.intro (And.intro (And.intro (And.intro (@zT25) (And.intro (@szT25) (@arT25))) (And.intro (And.intro (@conc25) (@undS25)) (And.intro (@elT25) (@elB25)))) (And.intro (And.intro (@bsT25) (And.intro (@mkT25) (@azT25))) (And.intro (And.intro (@zeroT25) (@zT26)) (And.intro (@szT26) (@arT26))))) (And.intro (And.intro (And.intro (@conc26) (And.intro (@undS26) (@elT26))) (And.intro (And.intro (@azT26) (@zeroT26)) (And.intro (@bT26) (@fldT26_0)))) (And.intro (And.intro (And.intro (@fldT26_1) (@zT27)) (And.intro (@szT27) (@arT27))) (And.intro (And.intro (@conc27) (@undS27)) (And.intro (@elT27) (@azT27)))))) (And.intro (And.intro (And.intro (And.intro (@zeroT27) (And.intro (@bT27) (@fldT27_0))) (And.intro (And.intro (@fldT27_1) (@zT28)) (And.intro (@szT28) (@arT28)))) (And.intro (And.intro (And.intro (@conc28) (@undS28)) (And.intro (@elT28) (@azT28))) (And.intro (And.intro (@zeroT28) (@bT28)) (And.intro (@fldT28_0) (@fldT28_1))))) (And.intro (And.intro (And.intro (@fldT28_2) (And.intro (@fldT28_3) (@zT29))) (And.intro (And.intro (@szT29) (@arT29)) (And.intro (@conc29) (@undS29)))) (And.intro (And.intro (And.intro (@elT29) (@azT29)) (And.intro (@zeroT29) (@bT29))) (And.intro (And.intro (@fldT29_0) (@fldT29_1)) (And.intro (@fldT29_2) (@fldT29_3))))))) (And.intro (And.intro (And.intro (And.intro (And.intro (@zT30) (And.intro (@szT30) (@arT30))) (And.intro (And.intro (@conc30) (@zT31)) (And.intro (@szT31) (@arT31)))) (And.intro (And.intro (@conc31) (And.intro (@zT32) (@szT32))) (And.intro (And.intro (@arT32) (@conc32)) (And.intro (@zT33) (@szT33))))) (And.intro (And.intro (And.intro (@arT33) (And.intro (@conc33) (@undS33))) (And.intro (And.intro (@intT33) (@elT33)) (And.intro (@azT33) (@zeroT33)))) (And.intro (And.intro (And.intro (@zT35) (@szT35)) (And.intro (@arT35) (@conc35))) (And.intro (And.intro (@zT37) (@szT37)) (And.intro (@arT37) (@conc37)))))) (And.intro (And.intro (And.intro (And.intro (@zT38) (And.intro (@szT38) (@arT38))) (And.intro (And.intro (@conc38) (@zT39)) (And.intro (@szT39) (@arT39)))) (And.intro (And.intro (And.intro (@conc39) (@zT40)) (And.intro (@szT40) (@arT40))) (And.intro (And.intro (@conc40) (@zT41)) (And.intro (@szT41) (@arT41))))) (And.intro (And.intro (And.intro (@conc41) (And.intro (@zT42) (@szT42))) (And.intro (And.intro (@arT42) (@conc42)) (And.intro (@undS42) (@elT42)))) (And.intro (And.intro (And.intro (@azT42) (@zeroT42)) (And.intro (@bT42) (@fldT42_0))) (And.intro (And.intro (@fldT42_1) (@zT43)) (And.intro (@szT43) (@arT43))))))))) (And.intro (And.intro (And.intro (And.intro (And.intro (And.intro (And.intro (@conc43) (And.intro (@undS43) (@elT43))) (And.intro (And.intro (@azT43) (@zeroT43)) (And.intro (@bT43) (@fldT43_0)))) (And.intro (And.intro (@fldT43_1) (And.intro (@zT44) (@szT44))) (And.intro (And.intro (@arT44) (@conc44)) (And.intro (@undS44) (@elT44))))) (And.intro (And.intro (And.intro (@azT44) (And.intro (@zeroT44) (@bT44))) (And.intro (And.intro (@fldT44_0) (@fldT44_1)) (And.intro (@fldT44_2) (@zT45)))) (And.intro (And.intro (And.intro (@szT45) (@arT45)) (And.intro (@conc45) (@undS45))) (And.intro (And.intro (@elT45) (@azT45)) (And.intro (@zeroT45) (@bT45)))))) (And.intro (And.intro (And.intro (And.intro (@fldT45_0) (And.intro (@fldT45_1) (@fldT45_2))) (And.intro (And.intro (@zT46) (@szT46)) (And.intro (@arT46) (@conc46)))) (And.intro (And.intro (And.intro (@zT48) (@szT48)) (And.intro (@arT48) (@conc48))) (And.intro (And.intro (@zT50) (@szT50)) (And.intro (@arT50) (@conc50))))) (And.intro (And.intro (And.intro (@zT51) (And.intro (@szT51) (@arT51))) (And.intro (And.intro (@conc51) (@zT52)) (And.intro (@szT52) (@arT52)))) (And.intro (And.intro (And.intro (@conc52) (@zT53)) (And.intro (@szT53) (@arT53))) (And.intro (And.intro (@conc53) (@zT54)) (And.intro (@szT54) (@arT54))))))) (And.intro (And.intro (And.intro (And.intro (And.intro (@conc54) (And.intro (@zT55) (@szT55))) (And.intro (And.intro (@zeroT55) (@arT55)) (And.intro (@conc55) (@zT56)))) (And.intro (And.intro (@szT56) (And.intro (@zeroT56) (@arT56))) (And.intro (And.intro (@conc56) (@zT57)) (And.intro (@szT57) (@arT57))))) (And.intro (And.intro (And.intro (@conc57) (And.intro (@zT58) (@szT58))) (And.intro (And.intro (@arT58) (@conc58)) (And.intro (@zT59) (@szT59)))) (And.intro (And.intro (And.intro (@arT59) (@conc59)) (And.intro (@zT60) (@szT60))) (And.intro (And.intro (@arT60) (@conc60)) (And.intro (@undS60) (@elT60)))))) (And.intro (And.intro (And.intro (And.intro (@azT60) (And.intro (@zeroT60) (@bT60))) (And.intro (And.intro (@fldT60_0) (@fldT60_1)) (And.intro (@zT61) (@szT61)))) (And.intro (And.intro (And.intro (@arT61) (@conc61)) (And.intro (@undS61) (@elT61))) (And.intro (And.intro (@azT61) (@zeroT61)) (And.intro (@bT61) (@fldT61_0))))) (And.intro (And.intro (And.intro (@fldT61_1) (And.intro (@zT62) (@szT62))) (And.intro (And.intro (@arT62) (@conc62)) (And.intro (@zT63) (@szT63)))) (And.intro (And.intro (And.intro (@arT63) (@conc63)) (And.intro (@zT64) (@szT64))) (And.intro (And.intro (@arT64) (@conc64)) (And.intro (@zT65) (@szT65)))))))) (And.intro (And.intro (And.intro (And.intro (And.intro (And.intro (@arT65) (And.intro (@zT66) (@szT66))) (And.intro (And.intro (@arT66) (@zT67)) (And.intro (@szT67) (@arT67)))) (And.intro (And.intro (@conc67) (And.intro (@undS67) (@elT67))) (And.intro (And.intro (@azT67) (@zeroT67)) (And.intro (@bT67) (@fldT67_0))))) (And.intro (And.intro (And.intro (@fldT67_1) (And.intro (@fldT67_2) (@fldT67_3))) (And.intro (And.intro (@zT68) (@szT68)) (And.intro (@arT68) (@conc68)))) (And.intro (And.intro (And.intro (@undS68) (@elT68)) (And.intro (@azT68) (@zeroT68))) (And.intro (And.intro (@bT68) (@fldT68_0)) (And.intro (@fldT68_1) (@fldT68_2)))))) (And.intro (And.intro (And.intro (And.intro (@fldT68_3) (And.intro (@zT69) (@szT69))) (And.intro (And.intro (@arT69) (@conc69)) (And.intro (@undS69) (@intT69)))) (And.intro (And.intro (And.intro (@elT69) (@azT69)) (And.intro (@zeroT69) (@zT70))) (And.intro (And.intro (@szT70) (@arT70)) (And.intro (@conc70) (@zT71))))) (And.intro (And.intro (And.intro (@szT71) (And.intro (@arT71) (@conc71))) (And.intro (And.intro (@undS71) (@elT71)) (And.intro (@azT71) (@zeroT71)))) (And.intro (And.intro (And.intro (@bT71) (@fldT71_0)) (And.intro (@fldT71_1) (@zT72))) (And.intro (And.intro (@szT72) (@arT72)) (And.intro (@conc72) (@undS72))))))) (And.intro (And.intro (And.intro (And.intro (And.intro (@elT72) (And.intro (@azT72) (@zeroT72))) (And.intro (And.intro (@bT72) (@fldT72_0)) (And.intro (@fldT72_1) (@zT73)))) (And.intro (And.intro (@szT73) (And.intro (@conc73) (@undS73))) (And.intro (And.intro (@elT73) (@arT73)) (And.intro (@azT73) (@zeroT73))))) (And.intro (And.intro (And.intro (@zT74) (And.intro (@szT74) (@arT74))) (And.intro (And.intro (@conc74) (@undS74)) (And.intro (@elT74) (@azT74)))) (And.intro (And.intro (And.intro (@zeroT74) (@bT74)) (And.intro (@fldT74_0) (@fldT74_1))) (And.intro (And.intro (@fldT74_2) (@zT75)) (And.intro (@szT75) (@arT75)))))) (And.intro (And.intro (And.intro (And.intro (@conc75) (And.intro (@undS75) (@elT75))) (And.intro (And.intro (@azT75) (@zeroT75)) (And.intro (@bT75) (@fldT75_0)))) (And.intro (And.intro (And.intro (@fldT75_1) (@fldT75_2)) (And.intro (@zT76) (@szT76))) (And.intro (And.intro (@arT76) (@conc76)) (And.intro (@zT78) (@szT78))))) (And.intro (And.intro (And.intro (@arT78) (And.intro (@conc78) (@zT79))) (And.intro (And.intro (@szT79) (@conc79)) (And.intro (@undS79) (@elT79)))) (And.intro (And.intro (And.intro (@arT79) (@azT79)) (And.intro (@zeroT79) (@zT80))) (And.intro (And.intro (@szT80) (@arT80)) (And.intro (@conc80) (@zT81)))))))))) (And.intro (And.intro (And.intro (And.intro (And.intro (And.intro (And.intro (And.intro (@szT81) (And.intro (@arT81) (@conc81))) (And.intro (And.intro (@zT82) (@szT82)) (And.intro (@arT82) (@conc82)))) (And.intro (And.intro (@zT83) (And.intro (@szT83) (@arT83))) (And.intro (And.intro (@conc83) (@undS83)) (And.intro (@elT83) (@elB83))))) (And.intro (And.intro (And.intro (@bsT83) (And.intro (@mkT83) (@azT83))) (And.intro (And.intro (@zeroT83) (@zT84)) (And.intro (@szT84) (@arT84)))) (And.intro (And.intro (And.intro (@conc84) (@zT85)) (And.intro (@szT85) (@arT85))) (And.intro (And.intro (@conc85) (@zT86)) (And.intro (@szT86) (@arT86)))))) (And.intro (And.intro (And.intro (And.intro (@conc86) (And.intro (@zT87) (@szT87))) (And.intro (And.intro (@arT87) (@conc87)) (And.intro (@zT88) (@szT88)))) (And.intro (And.intro (@arT88) (And.intro (@conc88) (@zT89))) (And.intro (And.intro (@szT89) (@arT89)) (And.intro (@conc89) (@zT90))))) (And.intro (And.intro (And.intro (@szT90) (And.intro (@arT90) (@conc90))) (And.intro (And.intro (@undS90) (@elT90)) (And.intro (@azT90) (@zeroT90)))) (And.intro (And.intro (And.intro (@bT90) (@fldT90_0)) (And.intro (@fldT90_1) (@fldT90_2))) (And.intro (And.intro (@zT91) (@szT91)) (And.intro (@arT91) (@conc91))))))) (And.intro (And.intro (And.intro (And.intro (And.intro (@undS91) (And.intro (@elT91) (@azT91))) (And.intro (And.intro (@zeroT91) (@bT91)) (And.intro (@fldT91_0) (@fldT91_1)))) (And.intro (And.intro (@fldT91_2) (And.intro (@zT92) (@szT92))) (And.intro (And.intro (@arT92) (@conc92)) (And.intro (@zT93) (@szT93))))) (And.intro (And.intro (And.intro (@arT93) (And.intro (@conc93) (@zT94))) (And.intro (And.intro (@szT94) (@arT94)) (And.intro (@conc94) (@zT95)))) (And.intro (And.intro (And.intro (@szT95) (@arT95)) (And.intro (@conc95) (@zT96))) (And.intro (And.intro (@szT96) (@arT96)) (And.intro (@conc96) (@zT97)))))) (And.intro (And.intro (And.intro (And.intro (@szT97) (And.intro (@arT97) (@conc97))) (And.intro (And.intro (@undS97) (@elT97)) (And.intro (@azT97) (@zeroT97)))) (And.intro (And.intro (And.intro (@bT97) (@zT98)) (And.intro (@szT98) (@arT98))) (And.intro (And.intro (@conc98) (@undS98)) (And.intro (@elT98) (@azT98))))) (And.intro (And.intro (And.intro (@zeroT98) (And.intro (@bT98) (@zT99))) (And.intro (And.intro (@szT99) (@arT99)) (And.intro (@conc99) (@zT100)))) (And.intro (And.intro (And.intro (@szT100) (@arT100)) (And.intro (@conc100) (@zT101))) (And.intro (And.intro (@szT101) (@arT101)) (And.intro (@conc101) (@undS101)))))))) (And.intro (And.intro (And.intro (And.intro (And.intro (And.intro (@intT101) (And.intro (@elT101) (@azT101))) (And.intro (And.intro (@zeroT101) (@zT103)) (And.intro (@szT103) (@arT103)))) (And.intro (And.intro (@conc103) (And.intro (@zT104) (@szT104))) (And.intro (And.intro (@arT104) (@conc104)) (And.intro (@undS104) (@elT104))))) (And.intro (And.intro (And.intro (@azT104) (And.intro (@zeroT104) (@bT104))) (And.intro (And.intro (@zT105) (@szT105)) (And.intro (@arT105) (@conc105)))) (And.intro (And.intro (And.intro (@zT106) (@szT106)) (And.intro (@arT106) (@conc106))) (And.intro (And.intro (@undS106) (@elT106)) (And.intro (@azT106) (@zeroT106)))))) (And.intro (And.intro (And.intro (And.intro (@bT106) (And.intro (@fldT106_0) (@fldT106_1))) (And.intro (And.intro (@zT107) (@szT107)) (And.intro (@arT107) (@conc107)))) (And.intro (And.intro (And.intro (@undS107) (@elT107)) (And.intro (@azT107) (@zeroT107))) (And.intro (And.intro (@bT107) (@fldT107_0)) (And.intro (@fldT107_1) (@zT109))))) (And.intro (And.intro (And.intro (@szT109) (And.intro (@arT109) (@conc109))) (And.intro (And.intro (@zT110) (@szT110)) (And.intro (@arT110) (@conc110)))) (And.intro (And.intro (And.intro (@zT111) (@szT111)) (And.intro (@arT111) (@conc111))) (And.intro (And.intro (@zT112) (@szT112)) (And.intro (@arT112) (@conc112))))))) (And.intro (And.intro (And.intro (And.intro (And.intro (@zT113) (And.intro (@szT113) (@arT113))) (And.intro (And.intro (@conc113) (@zT114)) (And.intro (@szT114) (@arT114)))) (And.intro (And.intro (@conc114) (And.intro (@undS114) (@intT114))) (And.intro (And.intro (@elT114) (@azT114)) (And.intro (@zeroT114) (@zT115))))) (And.intro (And.intro (And.intro (@szT115) (And.intro (@arT115) (@conc115))) (And.intro (And.intro (@zT116) (@szT116)) (And.intro (@arT116) (@conc116)))) (And.intro (And.intro (And.intro (@undS116) (@intT116)) (And.intro (@elT116) (@azT116))) (And.intro (And.intro (@zeroT116) (@zT117)) (And.intro (@szT117) (@arT117)))))) (And.intro (And.intro (And.intro (And.intro (@conc117) (And.intro (@zT118) (@szT118))) (And.intro (And.intro (@arT118) (@conc118)) (And.intro (@zT119) (@szT119)))) (And.intro (And.intro (And.intro (@arT119) (@conc119)) (And.intro (@zT120) (@szT120))) (And.intro (And.intro (@conc120) (@undS120)) (And.intro (@elT120) (@arT120))))) (And.intro (And.intro (And.intro (@azT120) (And.intro (@zT121) (@szT121))) (And.intro (And.intro (@conc121) (@undS121)) (And.intro (@elT121) (@arT121)))) (And.intro (And.intro (And.intro (@azT121) (@zT122)) (And.intro (@szT122) (@zeroT122))) (And.intro (And.intro (@arT122) (@conc122)) (And.intro (@zT123) (@szT123))))))))) (And.intro (And.intro (And.intro (And.intro (And.intro (And.intro (And.intro (@arT123) (And.intro (@conc123) (@zT124))) (And.intro (And.intro (@szT124) (@arT124)) (And.intro (@conc124) (@zT125)))) (And.intro (And.intro (@szT125) (And.intro (@arT125) (@conc125))) (And.intro (And.intro (@zT126) (@szT126)) (And.intro (@arT126) (@conc126))))) (And.intro (And.intro (And.intro (@zT127) (And.intro (@szT127) (@arT127))) (And.intro (And.intro (@conc127) (@zT128)) (And.intro (@szT128) (@arT128)))) (And.intro (And.intro (And.intro (@conc128) (@zT129)) (And.intro (@szT129) (@arT129))) (And.intro (And.intro (@conc129) (@undS129)) (And.intro (@intT129) (@elT129)))))) (And.intro (And.intro (And.intro (And.intro (@azT129) (And.intro (@zeroT129) (@zT131))) (And.intro (And.intro (@szT131) (@arT131)) (And.intro (@conc131) (@zT132)))) (And.intro (And.intro (And.intro (@szT132) (@arT132)) (And.intro (@conc132) (@undS132))) (And.intro (And.intro (@elT132) (@azT132)) (And.intro (@zeroT132) (@bT132))))) (And.intro (And.intro (And.intro (@fldT132_0) (And.intro (@fldT132_1) (@zT133))) (And.intro (And.intro (@szT133) (@arT133)) (And.intro (@conc133) (@undS133)))) (And.intro (And.intro (And.intro (@elT133) (@azT133)) (And.intro (@zeroT133) (@bT133))) (And.intro (And.intro (@fldT133_0) (@fldT133_1)) (And.intro (@zT134) (@szT134))))))) (And.intro (And.intro (And.intro (And.intro (And.intro (@arT134) (And.intro (@conc134) (@zT135))) (And.intro (And.intro (@szT135) (@arT135)) (And.intro (@conc135) (@zT136)))) (And.intro (And.intro (@szT136) (And.intro (@arT136) (@conc136))) (And.intro (And.intro (@zT137) (@szT137)) (And.intro (@arT137) (@conc137))))) (And.intro (And.intro (And.intro (@zT138) (And.intro (@szT138) (@arT138))) (And.intro (And.intro (@conc138) (@zT139)) (And.intro (@szT139) (@arT139)))) (And.intro (And.intro (And.intro (@conc139) (@zT140)) (And.intro (@szT140) (@arT140))) (And.intro (And.intro (@conc140) (@undS140)) (And.intro (@elT140) (@azT140)))))) (And.intro (And.intro (And.intro (And.intro (@zeroT140) (And.intro (@bT140) (@fldT140_0))) (And.intro (And.intro (@zT141) (@szT141)) (And.intro (@arT141) (@conc141)))) (And.intro (And.intro (And.intro (@undS141) (@elT141)) (And.intro (@azT141) (@zeroT141))) (And.intro (And.intro (@bT141) (@fldT141_0)) (And.intro (@zT142) (@szT142))))) (And.intro (And.intro (And.intro (@arT142) (And.intro (@conc142) (@zT143))) (And.intro (And.intro (@szT143) (@arT143)) (And.intro (@conc143) (@zT144)))) (And.intro (And.intro (And.intro (@szT144) (@arT144)) (And.intro (@zT145) (@szT145))) (And.intro (And.intro (@arT145) (@zT146)) (And.intro (@szT146) (@arT146)))))))) (And.intro (And.intro (And.intro (And.intro (And.intro (And.intro (@conc146) (And.intro (@zT147) (@szT147))) (And.intro (And.intro (@arT147) (@conc147)) (And.intro (@zT148) (@szT148)))) (And.intro (And.intro (@arT148) (And.intro (@conc148) (@zT149))) (And.intro (And.intro (@szT149) (@arT149)) (And.intro (@conc149) (@zT155))))) (And.intro (And.intro (And.intro (@szT155) (And.intro (@arT155) (@conc155))) (And.intro (And.intro (@zT158) (@szT158)) (And.intro (@arT158) (@conc158)))) (And.intro (And.intro (And.intro (@zT159) (@szT159)) (And.intro (@zeroT159) (@arT159))) (And.intro (And.intro (@conc159) (@zT164)) (And.intro (@szT164) (@arT164)))))) (And.intro (And.intro (And.intro (And.intro (@conc164) (And.intro (@undS164) (@elT164))) (And.intro (And.intro (@azT164) (@zeroT164)) (And.intro (@bT164) (@fldT164_0)))) (And.intro (And.intro (And.intro (@zT165) (@szT165)) (And.intro (@arT165) (@conc165))) (And.intro (And.intro (@undS165) (@elT165)) (And.intro (@azT165) (@zeroT165))))) (And.intro (And.intro (And.intro (@bT165) (And.intro (@fldT165_0) (@zT166))) (And.intro (And.intro (@szT166) (@arT166)) (And.intro (@conc166) (@undS166)))) (And.intro (And.intro (And.intro (@elT166) (@azT166)) (And.intro (@zeroT166) (@bT166))) (And.intro (And.intro (@fldT166_0) (@fldT166_1)) (And.intro (@zT167) (@szT167))))))) (And.intro (And.intro (And.intro (And.intro (And.intro (@arT167) (And.intro (@conc167) (@undS167))) (And.intro (And.intro (@elT167) (@azT167)) (And.intro (@zeroT167) (@bT167)))) (And.intro (And.intro (@fldT167_0) (And.intro (@fldT167_1) (@zT168))) (And.intro (And.intro (@szT168) (@arT168)) (And.intro (@conc168) (@undS168))))) (And.intro (And.intro (And.intro (@elT168) (And.intro (@azT168) (@zeroT168))) (And.intro (And.intro (@bT168) (@fldT168_0)) (And.intro (@fldT168_1) (@zT169)))) (And.intro (And.intro (And.intro (@szT169) (@arT169)) (And.intro (@conc169) (@undS169))) (And.intro (And.intro (@elT169) (@azT169)) (And.intro (@zeroT169) (@bT169)))))) (And.intro (And.intro (And.intro (And.intro (@fldT169_0) (And.intro (@fldT169_1) (@zT170))) (And.intro (And.intro (@szT170) (@arT170)) (And.intro (@conc170) (@zT171)))) (And.intro (And.intro (And.intro (@szT171) (@arT171)) (And.intro (@conc171) (@zT172))) (And.intro (And.intro (@szT172) (@arT172)) (And.intro (@conc172) (@zT173))))) (And.intro (And.intro (And.intro (@szT173) (And.intro (@arT173) (@conc173))) (And.intro (And.intro (@zT174) (@szT174)) (And.intro (@arT174) (@conc174)))) (And.intro (And.intro (And.intro (@zT175) (@szT175)) (And.intro (@arT175) (@conc175))) (And.intro (And.intro (@undS175) (@elT175)) (And.intro (@azT175) (@zeroT175))))))))))) := And.intro (And.intro (And.intro (And.intro (And.intro (And.intro (And.intro (And.intro (And.intro (@boolT4) (And.intro (@ifcT20) (@ifcT65))) (And.intro (And.intro (@ifcT66) (@ifcT144)) (And.intro (@ifcT145) (@meth154)))) (And.intro (And.intro (@meth182) (And.intro (@meth81o) (@meth81s))) (And.intro (And.intro (@meth126o) (@meth126s)) (And.intro (@mapZ136) (@zT1))))) (And.intro (And.intro (And.intro (@szT1) (And.intro (@arT1) (@conc1))) (And.intro (And.intro (@zT2) (@szT2)) (And.intro (@arT2) (@conc2)))) (And.intro (And.intro (And.intro (@undS2) (@intT2)) (And.intro (@elT2) (@azT2))) (And.intro (And.intro (@zeroT2) (@zT3)) (And.intro (@szT3) (@arT3)))))) (And.intro (And.intro (And.intro (And.intro (@conc3) (And.intro (@undS3) (@intT3))) (And.intro (And.intro (@elT3) (@azT3)) (And.intro (@zeroT3) (@zT4)))) (And.intro (And.intro (@szT4) (And.intro (@arT4) (@conc4))) (And.intro (And.intro (@undS4) (@elT4)) (And.intro (@azT4) (@zeroT4))))) (And.intro (And.intro (And.intro (@zT5) (And.intro (@szT5) (@arT5))) (And.intro (And.intro (@conc5) (@undS5)) (And.intro (@intT5) (@elT5)))) (And.intro (And.intro (And.intro (@azT5) (@zeroT5)) (And.intro (@zT12) (@szT12))) (And.intro (And.intro (@arT12) (@conc12)) (And.intro (@undS12) (@intT12))))))) (And.intro (And.intro (And.intro (And.intro (And.intro (@elT12) (And.intro (@azT12) (@zeroT12))) (And.intro (And.intro (@zT13) (@szT13)) (And.intro (@arT13) (@conc13)))) (And.intro (And.intro (@undS13) (And.intro (@elT13) (@azT13))) (And.intro (And.intro (@zeroT13) (@bT13)) (And.intro (@fldT13_0) (@fldT13_1))))) (And.intro (And.intro (And.intro (@zT20) (And.intro (@szT20) (@arT20))) (And.intro (And.intro (@zT21) (@szT21)) (And.intro (@arT21) (@conc21)))) (And.intro (And.intro (And.intro (@undS21) (@intT21)) (And.intro (@elT21) (@azT21))) (And.intro (And.intro (@zeroT21) (@zT22)) (And.intro (@szT22) (@arT22)))))) (And.intro (And.intro (And.intro (And.intro (@conc22) (And.intro (@undS22) (@elT22))) (And.intro (And.intro (@elB22) (@bsT22)) (And.intro (@mkT22) (@azT22)))) (And.intro (And.intro (And.intro (@zeroT22) (@zT23)) (And.intro (@szT23) (@arT23))) (And.intro (And.intro (@conc23) (@undS23)) (And.intro (@elT23) (@elB23))))) (And.intro (And.intro (And.intro (@bsT23) (And.intro (@mkT23) (@azT23))) (And.intro (And.intro (@zeroT23) (@zT24)) (And.intro (@szT24) (@arT24)))) (And.intro (And.intro (And.intro (@conc24) (@undS24)) (And.intro (@elT24) (@elB24))) (And.intro (And.intro (@bsT24) (@mkT24)) (And.intro (@azT24) (@zeroT24)))))))) (And.intro (And.intro (And.intro (And.intro (And.intro (And.intro (@zT25) (And.intro (@szT25) (@arT25))) (And.intro (And.intro (@conc25) (@undS25)) (And.intro (@elT25) (@elB25)))) (And.intro (And.intro (@bsT25) (And.intro (@mkT25) (@azT25))) (And.intro (And.intro (@zeroT25) (@zT26)) (And.intro (@szT26) (@arT26))))) (And.intro (And.intro (And.intro (@conc26) (And.intro (@undS26) (@elT26))) (And.intro (And.intro (@azT26) (@zeroT26)) (And.intro (@bT26) (@fldT26_0)))) (And.intro (And.intro (And.intro (@fldT26_1) (@zT27)) (And.intro (@szT27) (@arT27))) (And.intro (And.intro (@conc27) (@undS27)) (And.intro (@elT27) (@azT27)))))) (And.intro (And.intro (And.intro (And.intro (@zeroT27) (And.intro (@bT27) (@fldT27_0))) (And.intro (And.intro (@fldT27_1) (@zT28)) (And.intro (@szT28) (@arT28)))) (And.intro (And.intro (And.intro (@conc28) (@undS28)) (And.intro (@elT28) (@azT28))) (And.intro (And.intro (@zeroT28) (@bT28)) (And.intro (@fldT28_0) (@fldT28_1))))) (And.intro (And.intro (And.intro (@fldT28_2) (And.intro (@fldT28_3) (@zT29))) (And.intro (And.intro (@szT29) (@arT29)) (And.intro (@conc29) (@undS29)))) (And.intro (And.intro (And.intro (@elT29) (@azT29)) (And.intro (@zeroT29) (@bT29))) (And.intro (And.intro (@fldT29_0) (@fldT29_1)) (And.intro (@fldT29_2) (@fldT29_3))))))) (And.intro (And.intro (And.intro (And.intro (And.intro (@zT30) (And.intro (@szT30) (@arT30))) (And.intro (And.intro (@conc30) (@zT31)) (And.intro (@szT31) (@arT31)))) (And.intro (And.intro (@conc31) (And.intro (@zT32) (@szT32))) (And.intro (And.intro (@arT32) (@conc32)) (And.intro (@zT33) (@szT33))))) (And.intro (And.intro (And.intro (@arT33) (And.intro (@conc33) (@undS33))) (And.intro (And.intro (@intT33) (@elT33)) (And.intro (@azT33) (@zeroT33)))) (And.intro (And.intro (And.intro (@zT35) (@szT35)) (And.intro (@arT35) (@conc35))) (And.intro (And.intro (@zT37) (@szT37)) (And.intro (@arT37) (@conc37)))))) (And.intro (And.intro (And.intro (And.intro (@zT38) (And.intro (@szT38) (@arT38))) (And.intro (And.intro (@conc38) (@zT39)) (And.intro (@szT39) (@arT39)))) (And.intro (And.intro (And.intro (@conc39) (@zT40)) (And.intro (@szT40) (@arT40))) (And.intro (And.intro (@conc40) (@zT41)) (And.intro (@szT41) (@arT41))))) (And.intro (And.intro (And.intro (@conc41) (And.intro (@zT42) (@szT42))) (And.intro (And.intro (@arT42) (@conc42)) (And.intro (@undS42) (@elT42)))) (And.intro (And.intro (And.intro (@azT42) (@zeroT42)) (And.intro (@bT42) (@fldT42_0))) (And.intro (And.intro (@fldT42_1) (@zT43)) (And.intro (@szT43) (@arT43))))))))) (And.intro (And.intro (And.intro (And.intro (And.intro (And.intro (And.intro (@conc43) (And.intro (@undS43) (@elT43))) (And.intro (And.intro (@azT43) (@zeroT43)) (And.intro (@bT43) (@fldT43_0)))) (And.intro (And.intro (@fldT43_1) (And.intro (@zT44) (@szT44))) (And.intro (And.intro (@arT44) (@conc44)) (And.intro (@undS44) (@elT44))))) (And.intro (And.intro (And.intro (@azT44) (And.intro (@zeroT44) (@bT44))) (And.intro (And.intro (@fldT44_0) (@fldT44_1)) (And.intro (@fldT44_2) (@zT45)))) (And.intro (And.intro (And.intro (@szT45) (@arT45)) (And.intro (@conc45) (@undS45))) (And.intro (And.intro (@elT45) (@azT45)) (And.intro (@zeroT45) (@bT45)))))) (And.intro (And.intro (And.intro (And.intro (@fldT45_0) (And.intro (@fldT45_1) (@fldT45_2))) (And.intro (And.intro (@zT46) (@szT46)) (And.intro (@arT46) (@conc46)))) (And.intro (And.intro (And.intro (@zT48) (@szT48)) (And.intro (@arT48) (@conc48))) (And.intro (And.intro (@zT50) (@szT50)) (And.intro (@arT50) (@conc50))))) (And.intro (And.intro (And.intro (@zT51) (And.intro (@szT51) (@arT51))) (And.intro (And.intro (@conc51) (@zT52)) (And.intro (@szT52) (@arT52)))) (And.intro (And.intro (And.intro (@conc52) (@zT53)) (And.intro (@szT53) (@arT53))) (And.intro (And.intro (@conc53) (@zT54)) (And.intro (@szT54) (@arT54))))))) (And.intro (And.intro (And.intro (And.intro (And.intro (@conc54) (And.intro (@zT55) (@szT55))) (And.intro (And.intro (@zeroT55) (@arT55)) (And.intro (@conc55) (@zT56)))) (And.intro (And.intro (@szT56) (And.intro (@zeroT56) (@arT56))) (And.intro (And.intro (@conc56) (@zT57)) (And.intro (@szT57) (@arT57))))) (And.intro (And.intro (And.intro (@conc57) (And.intro (@zT58) (@szT58))) (And.intro (And.intro (@arT58) (@conc58)) (And.intro (@zT59) (@szT59)))) (And.intro (And.intro (And.intro (@arT59) (@conc59)) (And.intro (@zT60) (@szT60))) (And.intro (And.intro (@arT60) (@conc60)) (And.intro (@undS60) (@elT60)))))) (And.intro (And.intro (And.intro (And.intro (@azT60) (And.intro (@zeroT60) (@bT60))) (And.intro (And.intro (@fldT60_0) (@fldT60_1)) (And.intro (@zT61) (@szT61)))) (And.intro (And.intro (And.intro (@arT61) (@conc61)) (And.intro (@undS61) (@elT61))) (And.intro (And.intro (@azT61) (@zeroT61)) (And.intro (@bT61) (@fldT61_0))))) (And.intro (And.intro (And.intro (@fldT61_1) (And.intro (@zT62) (@szT62))) (And.intro (And.intro (@arT62) (@conc62)) (And.intro (@zT63) (@szT63)))) (And.intro (And.intro (And.intro (@arT63) (@conc63)) (And.intro (@zT64) (@szT64))) (And.intro (And.intro (@arT64) (@conc64)) (And.intro (@zT65) (@szT65)))))))) (And.intro (And.intro (And.intro (And.intro (And.intro (And.intro (@arT65) (And.intro (@zT66) (@szT66))) (And.intro (And.intro (@arT66) (@zT67)) (And.intro (@szT67) (@arT67)))) (And.intro (And.intro (@conc67) (And.intro (@undS67) (@elT67))) (And.intro (And.intro (@azT67) (@zeroT67)) (And.intro (@bT67) (@fldT67_0))))) (And.intro (And.intro (And.intro (@fldT67_1) (And.intro (@fldT67_2) (@fldT67_3))) (And.intro (And.intro (@zT68) (@szT68)) (And.intro (@arT68) (@conc68)))) (And.intro (And.intro (And.intro (@undS68) (@elT68)) (And.intro (@azT68) (@zeroT68))) (And.intro (And.intro (@bT68) (@fldT68_0)) (And.intro (@fldT68_1) (@fldT68_2)))))) (And.intro (And.intro (And.intro (And.intro (@fldT68_3) (And.intro (@zT69) (@szT69))) (And.intro (And.intro (@arT69) (@conc69)) (And.intro (@undS69) (@intT69)))) (And.intro (And.intro (And.intro (@elT69) (@azT69)) (And.intro (@zeroT69) (@zT70))) (And.intro (And.intro (@szT70) (@arT70)) (And.intro (@conc70) (@zT71))))) (And.intro (And.intro (And.intro (@szT71) (And.intro (@arT71) (@conc71))) (And.intro (And.intro (@undS71) (@elT71)) (And.intro (@azT71) (@zeroT71)))) (And.intro (And.intro (And.intro (@bT71) (@fldT71_0)) (And.intro (@fldT71_1) (@zT72))) (And.intro (And.intro (@szT72) (@arT72)) (And.intro (@conc72) (@undS72))))))) (And.intro (And.intro (And.intro (And.intro (And.intro (@elT72) (And.intro (@azT72) (@zeroT72))) (And.intro (And.intro (@bT72) (@fldT72_0)) (And.intro (@fldT72_1) (@zT73)))) (And.intro (And.intro (@szT73) (And.intro (@conc73) (@undS73))) (And.intro (And.intro (@elT73) (@arT73)) (And.intro (@azT73) (@zeroT73))))) (And.intro (And.intro (And.intro (@zT74) (And.intro (@szT74) (@arT74))) (And.intro (And.intro (@conc74) (@undS74)) (And.intro (@elT74) (@azT74)))) (And.intro (And.intro (And.intro (@zeroT74) (@bT74)) (And.intro (@fldT74_0) (@fldT74_1))) (And.intro (And.intro (@fldT74_2) (@zT75)) (And.intro (@szT75) (@arT75)))))) (And.intro (And.intro (And.intro (And.intro (@conc75) (And.intro (@undS75) (@elT75))) (And.intro (And.intro (@azT75) (@zeroT75)) (And.intro (@bT75) (@fldT75_0)))) (And.intro (And.intro (And.intro (@fldT75_1) (@fldT75_2)) (And.intro (@zT76) (@szT76))) (And.intro (And.intro (@arT76) (@conc76)) (And.intro (@zT78) (@szT78))))) (And.intro (And.intro (And.intro (@arT78) (And.intro (@conc78) (@zT79))) (And.intro (And.intro (@szT79) (@conc79)) (And.intro (@undS79) (@elT79)))) (And.intro (And.intro (And.intro (@arT79) (@azT79)) (And.intro (@zeroT79) (@zT80))) (And.intro (And.intro (@szT80) (@arT80)) (And.intro (@conc80) (@zT81)))))))))) (And.intro (And.intro (And.intro (And.intro (And.intro (And.intro (And.intro (And.intro (@szT81) (And.intro (@arT81) (@conc81))) (And.intro (And.intro (@zT82) (@szT82)) (And.intro (@arT82) (@conc82)))) (And.intro (And.intro (@zT83) (And.intro (@szT83) (@arT83))) (And.intro (And.intro (@conc83) (@undS83)) (And.intro (@elT83) (@elB83))))) (And.intro (And.intro (And.intro (@bsT83) (And.intro (@mkT83) (@azT83))) (And.intro (And.intro (@zeroT83) (@zT84)) (And.intro (@szT84) (@arT84)))) (And.intro (And.intro (And.intro (@conc84) (@zT85)) (And.intro (@szT85) (@arT85))) (And.intro (And.intro (@conc85) (@zT86)) (And.intro (@szT86) (@arT86)))))) (And.intro (And.intro (And.intro (And.intro (@conc86) (And.intro (@zT87) (@szT87))) (And.intro (And.intro (@arT87) (@conc87)) (And.intro (@zT88) (@szT88)))) (And.intro (And.intro (@arT88) (And.intro (@conc88) (@zT89))) (And.intro (And.intro (@szT89) (@arT89)) (And.intro (@conc89) (@zT90))))) (And.intro (And.intro (And.intro (@szT90) (And.intro (@arT90) (@conc90))) (And.intro (And.intro (@undS90) (@elT90)) (And.intro (@azT90) (@zeroT90)))) (And.intro (And.intro (And.intro (@bT90) (@fldT90_0)) (And.intro (@fldT90_1) (@fldT90_2))) (And.intro (And.intro (@zT91) (@szT91)) (And.intro (@arT91) (@conc91))))))) (And.intro (And.intro (And.intro (And.intro (And.intro (@undS91) (And.intro (@elT91) (@azT91))) (And.intro (And.intro (@zeroT91) (@bT91)) (And.intro (@fldT91_0) (@fldT91_1)))) (And.intro (And.intro (@fldT91_2) (And.intro (@zT92) (@szT92))) (And.intro (And.intro (@arT92) (@conc92)) (And.intro (@zT93) (@szT93))))) (And.intro (And.intro (And.intro (@arT93) (And.intro (@conc93) (@zT94))) (And.intro (And.intro (@szT94) (@arT94)) (And.intro (@conc94) (@zT95)))) (And.intro (And.intro (And.intro (@szT95) (@arT95)) (And.intro (@conc95) (@zT96))) (And.intro (And.intro (@szT96) (@arT96)) (And.intro (@conc96) (@zT97)))))) (And.intro (And.intro (And.intro (And.intro (@szT97) (And.intro (@arT97) (@conc97))) (And.intro (And.intro (@undS97) (@elT97)) (And.intro (@azT97) (@zeroT97)))) (And.intro (And.intro (And.intro (@bT97) (@zT98)) (And.intro (@szT98) (@arT98))) (And.intro (And.intro (@conc98) (@undS98)) (And.intro (@elT98) (@azT98))))) (And.intro (And.intro (And.intro (@zeroT98) (And.intro (@bT98) (@zT99))) (And.intro (And.intro (@szT99) (@arT99)) (And.intro (@conc99) (@zT100)))) (And.intro (And.intro (And.intro (@szT100) (@arT100)) (And.intro (@conc100) (@zT101))) (And.intro (And.intro (@szT101) (@arT101)) (And.intro (@conc101) (@undS101)))))))) (And.intro (And.intro (And.intro (And.intro (And.intro (And.intro (@intT101) (And.intro (@elT101) (@azT101))) (And.intro (And.intro (@zeroT101) (@zT103)) (And.intro (@szT103) (@arT103)))) (And.intro (And.intro (@conc103) (And.intro (@zT104) (@szT104))) (And.intro (And.intro (@arT104) (@conc104)) (And.intro (@undS104) (@elT104))))) (And.intro (And.intro (And.intro (@azT104) (And.intro (@zeroT104) (@bT104))) (And.intro (And.intro (@zT105) (@szT105)) (And.intro (@arT105) (@conc105)))) (And.intro (And.intro (And.intro (@zT106) (@szT106)) (And.intro (@arT106) (@conc106))) (And.intro (And.intro (@undS106) (@elT106)) (And.intro (@azT106) (@zeroT106)))))) (And.intro (And.intro (And.intro (And.intro (@bT106) (And.intro (@fldT106_0) (@fldT106_1))) (And.intro (And.intro (@zT107) (@szT107)) (And.intro (@arT107) (@conc107)))) (And.intro (And.intro (And.intro (@undS107) (@elT107)) (And.intro (@azT107) (@zeroT107))) (And.intro (And.intro (@bT107) (@fldT107_0)) (And.intro (@fldT107_1) (@zT109))))) (And.intro (And.intro (And.intro (@szT109) (And.intro (@arT109) (@conc109))) (And.intro (And.intro (@zT110) (@szT110)) (And.intro (@arT110) (@conc110)))) (And.intro (And.intro (And.intro (@zT111) (@szT111)) (And.intro (@arT111) (@conc111))) (And.intro (And.intro (@zT112) (@szT112)) (And.intro (@arT112) (@conc112))))))) (And.intro (And.intro (And.intro (And.intro (And.intro (@zT113) (And.intro (@szT113) (@arT113))) (And.intro (And.intro (@conc113) (@zT114)) (And.intro (@szT114) (@arT114)))) (And.intro (And.intro (@conc114) (And.intro (@undS114) (@intT114))) (And.intro (And.intro (@elT114) (@azT114)) (And.intro (@zeroT114) (@zT115))))) (And.intro (And.intro (And.intro (@szT115) (And.intro (@arT115) (@conc115))) (And.intro (And.intro (@zT116) (@szT116)) (And.intro (@arT116) (@conc116)))) (And.intro (And.intro (And.intro (@undS116) (@intT116)) (And.intro (@elT116) (@azT116))) (And.intro (And.intro (@zeroT116) (@zT117)) (And.intro (@szT117) (@arT117)))))) (And.intro (And.intro (And.intro (And.intro (@conc117) (And.intro (@zT118) (@szT118))) (And.intro (And.intro (@arT118) (@conc118)) (And.intro (@zT119) (@szT119)))) (And.intro (And.intro (And.intro (@arT119) (@conc119)) (And.intro (@zT120) (@szT120))) (And.intro (And.intro (@conc120) (@undS120)) (And.intro (@elT120) (@arT120))))) (And.intro (And.intro (And.intro (@azT120) (And.intro (@zT121) (@szT121))) (And.intro (And.intro (@conc121) (@undS121)) (And.intro (@elT121) (@arT121)))) (And.intro (And.intro (And.intro (@azT121) (@zT122)) (And.intro (@szT122) (@zeroT122))) (And.intro (And.intro (@arT122) (@conc122)) (And.intro (@zT123) (@szT123))))))))) (And.intro (And.intro (And.intro (And.intro (And.intro (And.intro (And.intro (@arT123) (And.intro (@conc123) (@zT124))) (And.intro (And.intro (@szT124) (@arT124)) (And.intro (@conc124) (@zT125)))) (And.intro (And.intro (@szT125) (And.intro (@arT125) (@conc125))) (And.intro (And.intro (@zT126) (@szT126)) (And.intro (@arT126) (@conc126))))) (And.intro (And.intro (And.intro (@zT127) (And.intro (@szT127) (@arT127))) (And.intro (And.intro (@conc127) (@zT128)) (And.intro (@szT128) (@arT128)))) (And.intro (And.intro (And.intro (@conc128) (@zT129)) (And.intro (@szT129) (@arT129))) (And.intro (And.intro (@conc129) (@undS129)) (And.intro (@intT129) (@elT129)))))) (And.intro (And.intro (And.intro (And.intro (@azT129) (And.intro (@zeroT129) (@zT131))) (And.intro (And.intro (@szT131) (@arT131)) (And.intro (@conc131) (@zT132)))) (And.intro (And.intro (And.intro (@szT132) (@arT132)) (And.intro (@conc132) (@undS132))) (And.intro (And.intro (@elT132) (@azT132)) (And.intro (@zeroT132) (@bT132))))) (And.intro (And.intro (And.intro (@fldT132_0) (And.intro (@fldT132_1) (@zT133))) (And.intro (And.intro (@szT133) (@arT133)) (And.intro (@conc133) (@undS133)))) (And.intro (And.intro (And.intro (@elT133) (@azT133)) (And.intro (@zeroT133) (@bT133))) (And.intro (And.intro (@fldT133_0) (@fldT133_1)) (And.intro (@zT134) (@szT134))))))) (And.intro (And.intro (And.intro (And.intro (And.intro (@arT134) (And.intro (@conc134) (@zT135))) (And.intro (And.intro (@szT135) (@arT135)) (And.intro (@conc135) (@zT136)))) (And.intro (And.intro (@szT136) (And.intro (@arT136) (@conc136))) (And.intro (And.intro (@zT137) (@szT137)) (And.intro (@arT137) (@conc137))))) (And.intro (And.intro (And.intro (@zT138) (And.intro (@szT138) (@arT138))) (And.intro (And.intro (@conc138) (@zT139)) (And.intro (@szT139) (@arT139)))) (And.intro (And.intro (And.intro (@conc139) (@zT140)) (And.intro (@szT140) (@arT140))) (And.intro (And.intro (@conc140) (@undS140)) (And.intro (@elT140) (@azT140)))))) (And.intro (And.intro (And.intro (And.intro (@zeroT140) (And.intro (@bT140) (@fldT140_0))) (And.intro (And.intro (@zT141) (@szT141)) (And.intro (@arT141) (@conc141)))) (And.intro (And.intro (And.intro (@undS141) (@elT141)) (And.intro (@azT141) (@zeroT141))) (And.intro (And.intro (@bT141) (@fldT141_0)) (And.intro (@zT142) (@szT142))))) (And.intro (And.intro (And.intro (@arT142) (And.intro (@conc142) (@zT143))) (And.intro (And.intro (@szT143) (@arT143)) (And.intro (@conc143) (@zT144)))) (And.intro (And.intro (And.intro (@szT144) (@arT144)) (And.intro (@zT145) (@szT145))) (And.intro (And.intro (@arT145) (@zT146)) (And.intro (@szT146) (@arT146)))))))) (And.intro (And.intro (And.intro (And.intro (And.intro (And.intro (@conc146) (And.intro (@zT147) (@szT147))) (And.intro (And.intro (@arT147) (@conc147)) (And.intro (@zT148) (@szT148)))) (And.intro (And.intro (@arT148) (And.intro (@conc148) (@zT149))) (And.intro (And.intro (@szT149) (@arT149)) (And.intro (@conc149) (@zT155))))) (And.intro (And.intro (And.intro (@szT155) (And.intro (@arT155) (@conc155))) (And.intro (And.intro (@zT158) (@szT158)) (And.intro (@arT158) (@conc158)))) (And.intro (And.intro (And.intro (@zT159) (@szT159)) (And.intro (@zeroT159) (@arT159))) (And.intro (And.intro (@conc159) (@zT164)) (And.intro (@szT164) (@arT164)))))) (And.intro (And.intro (And.intro (And.intro (@conc164) (And.intro (@undS164) (@elT164))) (And.intro (And.intro (@azT164) (@zeroT164)) (And.intro (@bT164) (@fldT164_0)))) (And.intro (And.intro (And.intro (@zT165) (@szT165)) (And.intro (@arT165) (@conc165))) (And.intro (And.intro (@undS165) (@elT165)) (And.intro (@azT165) (@zeroT165))))) (And.intro (And.intro (And.intro (@bT165) (And.intro (@fldT165_0) (@zT166))) (And.intro (And.intro (@szT166) (@arT166)) (And.intro (@conc166) (@undS166)))) (And.intro (And.intro (And.intro (@elT166) (@azT166)) (And.intro (@zeroT166) (@bT166))) (And.intro (And.intro (@fldT166_0) (@fldT166_1)) (And.intro (@zT167) (@szT167))))))) (And.intro (And.intro (And.intro (And.intro (And.intro (@arT167) (And.intro (@conc167) (@undS167))) (And.intro (And.intro (@elT167) (@azT167)) (And.intro (@zeroT167) (@bT167)))) (And.intro (And.intro (@fldT167_0) (And.intro (@fldT167_1) (@zT168))) (And.intro (And.intro (@szT168) (@arT168)) (And.intro (@conc168) (@undS168))))) (And.intro (And.intro (And.intro (@elT168) (And.intro (@azT168) (@zeroT168))) (And.intro (And.intro (@bT168) (@fldT168_0)) (And.intro (@fldT168_1) (@zT169)))) (And.intro (And.intro (And.intro (@szT169) (@arT169)) (And.intro (@conc169) (@undS169))) (And.intro (And.intro (@elT169) (@azT169)) (And.intro (@zeroT169) (@bT169)))))) (And.intro (And.intro (And.intro (And.intro (@fldT169_0) (And.intro (@fldT169_1) (@zT170))) (And.intro (And.intro (@szT170) (@arT170)) (And.intro (@conc170) (@zT171)))) (And.intro (And.intro (And.intro (@szT171) (@arT171)) (And.intro (@conc171) (@zT172))) (And.intro (And.intro (@szT172) (@arT172)) (And.intro (@conc172) (@zT173))))) (And.intro (And.intro (And.intro (@szT173) (And.intro (@arT173) (@conc173))) (And.intro (And.intro (@zT174) (@szT174)) (And.intro (@arT174) (@conc174)))) (And.intro (And.intro (And.intro (@zT175) (@szT175)) (And.intro (@arT175) (@conc175))) (And.intro (And.intro (@undS175) (@elT175)) (And.intro (@azT175) (@zeroT175))))))))))

end Go.Proofs.YtkcgocmjaggdiaaGreat
end
section
set_option linter.unusedVariables false
set_option linter.unusedSimpArgs false
namespace Go.V
set_option linter.unusedSectionVars false
variable [Inhabited GivT]
theorem mapM_move {α β : Type} {f g : α → Option β} {Q : β → Prop} : ∀ (l : List α) (ys : List β), (∀ x ∈ l, ∀ y, f x = some y → Q y → g x = some y) → l.mapM f = some ys → (∀ y ∈ ys, Q y) → l.mapM g = some ys
 | [], ys, _, h, _ => by simpa using h
 | x :: l, ys, hfg, h, hq => by
   rw [List.mapM_cons] at h ⊢
   simp only [Option.bind_eq_bind, Option.bind_eq_some_iff, Option.pure_def, Option.some.injEq] at h ⊢
   obtain ⟨y, hy, zs, hz, rfl⟩ := h
   exact ⟨y, hfg x (by simp) y hy (hq y (by simp)), zs, mapM_move l zs (fun a ha => hfg a (by simp [ha])) hz (fun a ha => hq a (by simp [ha])), rfl⟩

theorem mapM_get {α β : Type} {f : α → Option β} : ∀ (l : List α) (ys : List β), l.mapM f = some ys → ys.length = l.length ∧ ∀ (i : Nat) (x : α), l[i]? = some x → ∃ y, ys[i]? = some y ∧ f x = some y
 | [], ys, h => by
   simp at h; subst h; simp
 | x :: l, ys, h => by
   rw [List.mapM_cons] at h
   simp only [Option.bind_eq_bind, Option.bind_eq_some_iff, Option.pure_def, Option.some.injEq] at h
   obtain ⟨y, hy, zs, hz, rfl⟩ := h
   obtain ⟨h1, h2⟩ := mapM_get l zs hz
   refine ⟨by simp [h1], fun i a ha => ?_⟩
   cases i with
   | zero => simp at ha; subst ha; exact ⟨y, by simp, hy⟩
   | succ i => simpa using h2 i a (by simpa using ha)

/-- Types of numbers, truths, structs and slices of such. -/
def goodT (P : Program) : Nat → TypeId → Bool
 | 0, _ => false
 | d + 1, t => match P.underlying t with
   | some .bool => true
   | some (.int _) => true
   | some (.struct fs) => fs.toList.all fun f => goodT P d f.type
   | some (.slice e) => decide (0 < P.cellsOf e) && goodT P d e
   | _ => false

theorem cell_move {W W' : World} (hh : ∀ b, b < W.heap.size → W'.heap[b]? = W.heap[b]?) {a : Addr} {v : Value} (h : W.cell? a = some v) : W'.cell? a = some v := by
 unfold World.cell? at h ⊢
 split at h
 ·rename_i c e fz hb
  rw [hh _ (Array.getElem?_eq_some_iff.1 hb).1, hb]
  exact h
 ·cases h

theorem cells_move {W W' : World} (hh : ∀ b, b < W.heap.size → W'.heap[b]? = W.heap[b]?) {base : Nat} {a : Addr} {n : Nat} {vs : List Value} (h : W.cells? base a n = some vs) : W'.cells? base a n = some vs := by
 unfold World.cells? at h ⊢
 split at h
 ·rename_i hb
  rw [if_pos hb]
  exact mapM_move (Q := fun _ => True) _ _ (fun i _ y hy _ => cell_move hh hy) h (fun _ _ => trivial)
 ·cases h

theorem trod_move {H : Type} {enc : TypeId × Value → H} {P : Program} {W W' : World} {held : Bool} (hh : ∀ b, b < W.heap.size → W'.heap[b]? = W.heap[b]?) {sp : Nat → Bool} :
 ∀ (d fuel : Nat) (t : TypeId) (cs : List Value) (x : DataW H × List MemPlace), goodT P d t = true → DataW.trod enc P W 0 (fun _ => true) held fuel t cs = some x → (∀ p ∈ x.2, sp p.block = true) →
   DataW.trod enc P W' 0 sp held fuel t cs = some x := by
 intro d
 induction d with
 | zero => intro fuel t cs x hg; cases hg
 | succ d ih =>
   intro fuel t cs x hg h hs
   cases fuel with
   | zero => cases h
   | succ fuel =>
     unfold goodT at hg
     unfold DataW.trod at h ⊢
     cases hu : P.underlying t with
     | none => rw [hu] at hg; cases hg
     | some td =>
       rw [hu] at hg h
       cases td <;> simp only at hg <;> try (exact absurd hg Bool.false_ne_true)
       case bool =>
        split at h <;> simp_all
       case int k =>
        split at h <;> simp_all
       case struct fs =>
        split at h <;> try (simp_all; done)
        case _ fs' heq =>
         simp only [Option.some.injEq, TypeDesc.struct.injEq] at heq
         subst heq
         split at h
         case isTrue hl =>
          rw [if_pos hl]
          rw [Option.map_eq_some_iff] at h ⊢
          obtain ⟨ys, hy, rfl⟩ := h
          refine ⟨ys, ?_, rfl⟩
          refine mapM_move (Q := fun y => ∀ p ∈ y.2, sp p.block = true) _ _ (fun f hf y hy hq => ?_) hy (fun y hy p hp => hs p (List.mem_flatMap.2 ⟨y, hy, hp⟩))
          exact ih fuel f.type _ y (List.all_eq_true.1 hg f hf) hy hq
         case isFalse hl => cases h
       case slice e =>
        simp only [Bool.and_eq_true, decide_eq_true_eq] at hg
        obtain ⟨hpos, hg⟩ := hg
        split at h <;> try (simp_all; done)
        case _ e' a len cap heq =>
         simp only [Option.some.injEq, TypeDesc.slice.injEq] at heq
         subst heq
         have hel : ∀ i y, (W.cells? 0 (a.add (i * P.cellsOf e)) (P.cellsOf e)).bind (DataW.trod enc P W 0 (fun _ => true) held fuel e) = some y → (∀ p ∈ y.2, sp p.block = true) →
          (W'.cells? 0 (a.add (i * P.cellsOf e)) (P.cellsOf e)).bind (DataW.trod enc P W' 0 sp held fuel e) = some y := by
          intro i y hy hq
          rw [Option.bind_eq_some_iff] at hy ⊢
          obtain ⟨c, h1, h2⟩ := hy
          exact ⟨c, cells_move hh h1, ih fuel e c y hg h2 hq⟩
         simp only at h ⊢
         split at h
         case isFalse hl => cases h
         case isTrue hl =>
          rw [if_pos hl]
          rw [Option.bind_eq_some_iff] at h ⊢
          obtain ⟨es, he, h⟩ := h
          rw [if_pos trivial, Option.map_eq_some_iff] at h
          obtain ⟨rs, hr, rfl⟩ := h
          have hs2 : ∀ y ∈ es ++ rs, ∀ p ∈ y.2, sp p.block = true := fun y hy p hp => hs p (List.mem_append.2 (.inr (List.mem_flatMap.2 ⟨y, hy, hp⟩)))
          refine ⟨es, mapM_move (Q := fun y => ∀ p ∈ y.2, sp p.block = true) _ _ (fun i _ y hy hq => hel i y hy hq) he (fun y hy => hs2 y (by simp [hy])), ?_⟩
          rw [Option.map_eq_some_iff]
          refine ⟨rs, ?_, rfl⟩
          have hrl := (mapM_get _ _ hr).1
          by_cases hz : es.length + rs.length = 0
          ·have : rs = [] := List.eq_nil_of_length_eq_zero (by omega)
           subst this
           have hc : cap - len = 0 := by simpa using hrl.symm
           split
           ·rw [hc]; rfl
           ·rfl
          ·have hsp : sp a.block = true := by
            refine hs (.cell a.block (a.off + 0)) (List.mem_append.2 (.inl ?_))
            unfold MemPlace.row
            refine List.mem_map.2 ⟨0, List.mem_range.2 ?_, rfl⟩
            exact Nat.mul_pos (by omega) hpos
           rw [if_pos hsp]
           exact mapM_move (Q := fun y => ∀ p ∈ y.2, sp p.block = true) _ _ (fun j _ y hy hq => hel _ y hy hq) hr (fun y hy => hs2 y (by simp [hy]))

theorem trodAll_move {H : Type} {enc : TypeId × Value → H} {P : Program} {W W' : World} {held : Bool} (hh : ∀ b, b < W.heap.size → W'.heap[b]? = W.heap[b]?) {sp : Nat → Bool} (d : Nat) :
 ∀ (ts : List TypeId) (vs : List Value) (ds : List (DataW H)) (ps : List MemPlace), (∀ t ∈ ts, goodT P d t = true) → DataW.TrodAll enc P W 0 (fun _ => true) held ts vs ds ps → (∀ p ∈ ps, sp p.block = true) →
   DataW.TrodAll enc P W' 0 sp held ts vs ds ps
 | [], [], [], ps, _, h, _ => h
 | t :: ts, v :: vs, x :: ds, ps, hg, h, hs => by
   obtain ⟨p, q, ⟨fuel, h1⟩, h2, rfl⟩ := h
   exact ⟨p, q, ⟨fuel, trod_move hh d fuel t _ (x, p) (hg t (by simp)) h1 (fun z hz => hs z (by simp [hz]))⟩, trodAll_move hh d ts vs ds q (fun u hu => hg u (by simp [hu])) h2 (fun z hz => hs z (by simp [hz])), rfl⟩
 | [], _ :: _, _, _, _, h, _ => h.elim
 | [], [], _ :: _, _, _, h, _ => h.elim
 | _ :: _, [], _, _, _, h, _ => h.elim
 | _ :: _, _ :: _, [], _, _, h, _ => h.elim

/-- The state in which a call begins: all memory that is there is never written. -/
def st0 (W : World) : St := { w := W, imm := fun b => b < W.heap.size, loc := fun _ _ => .unk, next := 0 }
def H0 : Hp := fun _ => none
theorem st0_rel (W : World) (hg : ∀ p ∈ (default : GivT).l, VRel (st0 W) p.1 p.2) : HRel (st0 W) H0 := ⟨fun i _ => ⟨rfl, fun _ => rfl⟩, fun b h => h, fun i o h => (by cases h), fun i j o o' b h => (by cases h), hg⟩

inductive LitK where
 | int (k : IntKind)
 | bool
 deriving DecidableEq

def LitK.ok : LitK → Value → Prop
 | .int k, v => ∃ n, v = .int k n ∧ (Lit.int k n).wf = true
 | .bool, v => ∃ b, v = .bool b

/-- A type whose values are so many numbers and truths. -/
def litsT (P : Program) : Nat → TypeId → Option (List LitK)
 | 0, _ => none
 | d + 1, t => match P.underlying t with
   | some .bool => some [.bool]
   | some (.int k) => some [.int k]
   | some (.struct fs) => match fs.toList.foldl (fun acc f => match acc with
    | some ks => match litsT P d f.type with
      | some l => if f.offset = ks.length ∧ P.cellsOf f.type = l.length then some (ks ++ l) else none
      | none => none
    | none => none) (some []) with
     | some ks => if P.cellsOf t = ks.length then some ks else none
     | none => none
   | _ => none

def LitsOk (ks : List LitK) (cs : List Value) : Prop := cs.length = ks.length ∧ ∀ (i : Nat) (k : LitK) (v : Value), ks[i]? = some k → cs[i]? = some v → k.ok v

theorem LitsOk.append {ks ls : List LitK} {cs ds : List Value} (h : LitsOk ks cs) (h' : LitsOk ls ds) : LitsOk (ks ++ ls) (cs ++ ds) := by
 refine ⟨by simp [h.1, h'.1], fun i k v hk hv => ?_⟩
 by_cases hi : i < ks.length
 ·rw [List.getElem?_append_left hi] at hk
  rw [List.getElem?_append_left (by rw [h.1]; exact hi)] at hv
  exact h.2 i k v hk hv
 ·rw [List.getElem?_append_right (by omega)] at hk
  rw [List.getElem?_append_right (by rw [h.1]; omega), h.1] at hv
  exact h'.2 _ k v hk hv

end Go.V
end
section
set_option linter.unusedVariables false
set_option linter.unusedSimpArgs false
namespace Go.V
set_option linter.unusedSectionVars false
variable [Inhabited GivT]
open Go.ChangeShapes Go.WideShapes
theorem law_post {H : Type} {enc : TypeId × Value → H} {P : Program} {f : Func} {s : ChangeSpec} {apart fresh handsOn again : Bool} {W W' : World} {args : Array Value} {ds gs : List (DataW H)} {before : List MemPlace} {tb : TypeId} {d : Nat}
 (hv0 : s.vars = []) (hrt : f.resultTypes = #[tb]) (hb : P.underlying tb = some .bool) (hgood : ∀ t ∈ f.params.toList, goodT P d t = true)
 (hW : DataW.Whole enc P f.params.toList s.vars apart W args.toList ds gs before)
 (hfn : s.fn H (ds ++ gs) = { results := [.lit (.bool true)], args := ds })
 (hh : ∀ b, b < W.heap.size → W'.heap[b]? = W.heap[b]?) (hos : W'.os = W.os) (hout : W'.output = W.output) : s.post enc P f apart fresh handsOn again W args (.bool true) W' := by
 have hW' := hW
 obtain ⟨p, q, hA, hV, rfl, hz, hn⟩ := hW
 rw [hv0] at hV
 have hgq : gs = [] ∧ q = [] := by
  cases gs with
  | nil => exact ⟨rfl, hV⟩
  | cons _ _ => exact hV.elim
 obtain ⟨rfl, rfl⟩ := hgq
 have hlt : ∀ z ∈ p ++ [], z.block < W.heap.size := fun z hz => hW'.lt z hz
 have hold : ∀ z ∈ p, (fun b => decide (b < W.heap.size)) z.block = true := fun z hz => by simpa using hlt z (by simpa using hz)
 have hres : ∀ (b : Nat) (sp : Nat → Bool) (hd : Bool), DataW.TrodAll enc P W' b sp hd f.resultTypes.toList ((Value.bool true).resultList f.resultTypes.size) (s.fn H (ds ++ [])).results [] := by
  intro b sp hd
  rw [hfn, hrt]
  exact ⟨[], [], ⟨1, by simp [DataW.trod, hb, Value.cells]⟩, rfl, rfl⟩
 have hargs : ∀ sp : Nat → Bool, (∀ z ∈ p, sp z.block = true) → DataW.TrodAll enc P W' 0 sp true f.params.toList args.toList (s.fn H (ds ++ [])).args p := by
  intro sp hs
  rw [hfn]
  exact trodAll_move hh d _ _ _ _ hgood hA hs
 refine ⟨ds, [], p ++ [], [], p, [], hW', hres _ _ _, hargs _ hold, ?_, ⟨hos, hout, fun i hi => ?_⟩, fun _ => ?_⟩
 ·rw [hv0, hfn]; exact rfl
 ·rw [hh i hi]
  cases W.heap[i]? with
  | none => rfl
  | some o => cases o <;> first | exact ⟨rfl, rfl, rfl, fun _ _ => rfl⟩ | exact .inr ⟨rfl, rfl⟩ | rfl
 ·refine ⟨fun j t r h1 h2 => ?_, _, [], ([] ++ p) ++ [], ⟨[] ++ p, [], trodAll_append (hargs _ (fun _ _ => rfl)) (hres _ _ _), ?_, rfl, ?_, ?_⟩, ?_⟩
  ·rw [hrt] at h1 h2
   have hj : j = 0 := by
    have := (Array.getElem?_eq_some_iff.1 h1).1
    simp at this; omega
   subst hj
   simp [Value.resultList] at h1 h2
   subst h1 h2
   simp [Value.okWide, hb, Cell.okWide, Cell.ok]
  ·rw [hv0]; exact rfl
  ·intro b off hm
   have hm' : MemPlace.cell b off ∈ p ++ [] := by simpa using hm
   have := hz b off hm'
   have hb' : b < W.heap.size := hlt _ hm'
   unfold World.frozen? at this ⊢
   simp only [hh b hb']
   exact this
  ·intro ha
   have := hn ha
   simpa using this
  ·intro z hz _
   simpa using hz

end Go.V
end
section
set_option linter.unusedVariables false
set_option linter.unusedSimpArgs false
namespace Go.V
set_option linter.unusedSectionVars false
variable [Inhabited GivT]
theorem law_calls {P : Program} {f : FuncId} {fn : Func} {c : Code} {W : World} {args : Array Value} {avs : List AV} (hf : P.funcs[f]? = some fn) (hname : (fn.name == "runtime.NumGoroutine") = false) (hb : fn.body = some c)
 (hT : Tri P (.func (.func f) [] []) avs H0 fun r _ => r = .ret (.lit (.bool true))) (hg : ∀ p ∈ (default : GivT).l, VRel (st0 W) p.1 p.2) (ha : VRels (st0 W) avs args.toList) :
 Calls P f args W fun e W' => e = .returned (.bool true) ∧ (∀ b, b < W.heap.size → W'.heap[b]? = W.heap[b]?) ∧ W'.os = W.os ∧ W'.output = W.output := by
 obtain ⟨nx, h1, h2⟩ := hT (st0 W) (.func (.func f) #[] #[]) args.toList (st0_rel W hg) (.func rfl rfl (fun k hk => absurd hk (by simp)) (fun k hk => absurd hk (by simp))) ha
 have hcf : (callFunc f args).run P W = .ok (.enter f args) W := by
  simp only [callFunc, Sem.run_bind, run_program, Result.andThen_ok, hf, hname, hb]
  simp
 simp only [Deferred.ofValue, Sem.run_bind, Sem.run_pure, Result.andThen_ok, invoke] at h1
 have e : (#[] : Array Value) ++ args.toList.toArray ++ #[] = args := by simp
 rw [e] at h1
 have h1' : (callFunc f args).run P W = .ok nx W := h1
 rw [hcf] at h1'
 injection h1' with h1' _
 subst h1'
 refine Calls.mono h2 ?_
 rintro e w ⟨S', r, H', rfl, hle, hH', hrr, hr⟩
 subst hr
 refine ⟨?_, fun b hb => hle.keep b hb, hle.os, hle.output⟩
 cases e with
 | returned v => rw [VRel.lit_inv hrr]
 | panicked ch => exact hrr.elim
 | outgrown => exact hrr.elim

end Go.V
end
section
set_option linter.unusedVariables false
set_option linter.unusedSimpArgs false
namespace Go.V
set_option linter.unusedSectionVars false
variable [Inhabited GivT]
open Go.ChangeShapes
def st2 (P : Program) (t a oa b ob : Nat) : Bool := match P.underlying t with
 | some (.struct fs) => (match fs.toList with
   | [f0, f1] => f0.type == a && f0.offset == oa && f1.type == b && f1.offset == ob
   | _ => false)
 | _ => false
end Go.V
end
section
set_option linter.unusedVariables false
namespace Go.V
set_option linter.unusedSectionVars false
variable [Inhabited GivT]
theorem frz_step {S : St} {H : Hp} {id st n : Nat} {f : Nat → List AV} (hH : HRel S H) (ho : H id = some (.row st n f)) :
 ∃ S2, S2.w = S.w ∧ Le S S2 ∧ HRel S2 (H.del id) ∧ ∀ v, VRel S (.sl id st n) v → VRel S2 (.rsl n st f) v := by
 obtain ⟨hg, hcase⟩ := hH.obj id _ ho
 rcases hcase with ⟨rfl, hnil⟩ | ⟨b, c, e, hl, hb, hni, hc⟩
 ·refine ⟨S, rfl, Le.refl S, hH.sub ?_, ?_⟩
  ·intro j o' hj
   by_cases ej : j = id
   ·simp [Hp.del, ej] at hj
   ·exact ⟨o', by rw [Hp.del_ne _ ej] at hj; exact hj, .refl _⟩
  ·intro v this
   cases this with
   | sl hl => rw [hnil] at hl; cases hl
   | slnil _ => exact .rsl0
 ·have hle := S.frz_le b
  refine ⟨S.frz b, rfl, hle, ?_, ?_⟩
  ·refine ⟨fun i hi => ⟨?_, (hH.fresh i hi).2⟩, ?_, ?_, ?_, fun p hp => (hH.giv p hp).mono hle⟩
   ·simp only [Hp.del]; split
    ·rfl
    ·exact (hH.fresh i hi).1
   ·rintro x (hx | rfl)
    ·exact hH.immlt x hx
    ·exact (Array.getElem?_eq_some_iff.1 hb).1
   ·intro i o hi
    have ne : i ≠ id := by intro e; simp [Hp.del, e] at hi
    rw [Hp.del_ne _ ne] at hi
    have old := hH.obj i o hi
    have hne : ∀ x, S.loc i o.gen = .blk x → x ≠ b := fun x hx e => ne (hH.inj i id o _ x hi ho hx (by subst e; exact hl))
    cases o with
    | box st' n' f' =>
      obtain ⟨b', c', e', h1, h2, h3, h4⟩ := old
      exact ⟨b', c', e', h1, h2, fun hx => hx.elim h3 (hne b' h1), h4.1, h4.2.1, fun i j hi hj => (h4.2.2 i j hi hj).mono hle⟩
    | row st' n' f' =>
      obtain ⟨g1, old⟩ := old
      refine ⟨g1, old.imp (fun x => x) ?_⟩
      rintro ⟨b', c', e', h1, h2, h3, h4⟩
      exact ⟨b', c', e', h1, h2, fun hx => hx.elim h3 (hne b' h1), h4.1, h4.2.1, fun i j hi hj => (h4.2.2 i j hi hj).mono hle⟩
    | memo F =>
      obtain ⟨b', es, k, h1, h2, h3, h4⟩ := old
      exact ⟨b', es, k, h1, h2, fun hx => hx.elim h3 (hne b' h1), h4⟩
    | raw o =>
      obtain ⟨b', h1, h2, h3, h4⟩ := old
      exact ⟨b', h1, h2, h3, fun hx => hx.elim h4 (hne b' h1)⟩
    | loop l n s ps assign body st pend did =>
      obtain ⟨h1, h2, fn, tmps, D, h3, h4, h5, h6⟩ := old
      exact ⟨h1, fun hx => hx.elim h2 (hne l h1), fn, tmps, D, h3, h4, h5.mono hle, h6⟩
   ·intro i j o o' x hi hj
    have ne : i ≠ id := by intro e; simp [Hp.del, e] at hi
    have ne' : j ≠ id := by intro e; simp [Hp.del, e] at hj
    rw [Hp.del_ne _ ne] at hi
    rw [Hp.del_ne _ ne'] at hj
    exact hH.inj i j o o' x hi hj
  ·intro v this
   cases this with
   | sl hl' hb' _ hlen' =>
     rw [hl] at hl'; cases hl'
     exact .rsl (off := 0) (.inr rfl) hb (by rw [Nat.zero_add]; exact hc.1) hc.2.1 (fun i j hi hj => by rw [Nat.zero_add]; exact (hc.2.2 i j hi hj).mono hle) hlen'
   | slnil hl' => rw [hl] at hl'; cases hl'

/-- What is frozen: the row's slices become its data. -/
def Frz (id st n : Nat) (f : Nat → List AV) (x y : AV) : Prop := y = x ∨ (x = .sl id st n ∧ y = .rsl n st f)
theorem Frz.rfl {id st n : Nat} {f : Nat → List AV} {x : AV} : Frz id st n f x x := .inl (Eq.refl x)
theorem Frz.hit {id st n : Nat} {f : Nat → List AV} : Frz id st n f (.sl id st n) (.rsl n st f) := .inr ⟨Eq.refl _, Eq.refl _⟩

end Go.V
end
section
set_option linter.unusedVariables false
namespace Go.V
set_option linter.unusedSectionVars false
variable [Inhabited GivT]
theorem HRel.boxUpd {S : St} {H : Hp} {j st n : Nat} {g g' : Nat → List AV} (hH : HRel S H) (hj : H j = some (.box st n g)) (hl : ∀ k, k < n → (g' k).length = st)
 (hg : ∀ k d v, k < n → d < st → VRel S ((g k).getD d .any) v → VRel S ((g' k).getD d .any) v) : HRel S (H.set j (.box st n g')) := by
 obtain ⟨b, c, e, q1, q2, q3, q4⟩ := hH.obj j _ hj
 refine ⟨fun i hi => ⟨?_, (hH.fresh i hi).2⟩, hH.immlt, ?_, ?_, hH.giv⟩
 ·have hi' := (hH.fresh i hi).1
  by_cases ei : i = j
  ·subst ei; rw [hj] at hi'; cases hi'
  ·rw [Hp.set_ne _ _ ei]; exact hi'
 ·intro i o hi
  by_cases ei : i = j
  ·subst ei
   rw [Hp.set_same] at hi
   cases hi
   exact ⟨b, c, e, q1, q2, q3, q4.1, hl, fun k d hk hd => hg k d _ hk hd (q4.2.2 k d hk hd)⟩
  ·rw [Hp.set_ne _ _ ei] at hi
   exact hH.obj i o hi
 ·intro i i' o o' x hi hi' hx hx'
  have back : ∀ k o, (H.set j (.box st n g')) k = some o → ∃ p, H k = some p ∧ p.gen = o.gen := fun k o hk => by
   by_cases ek : k = j
   ·subst ek
    rw [Hp.set_same] at hk
    cases hk
    exact ⟨_, hj, Eq.refl _⟩
   ·rw [Hp.set_ne _ _ ek] at hk
    exact ⟨o, hk, Eq.refl _⟩
  obtain ⟨p, p1, p2⟩ := back i o hi
  obtain ⟨p', p1', p2'⟩ := back i' o' hi'
  exact hH.inj i i' p p' x p1 p1' (by rw [p2]; exact hx) (by rw [p2']; exact hx')

/-- Nil becomes a row of none. -/
def Nld (id st : Nat) (x y : AV) : Prop := y = x ∨ (x = .lit (.slice none 0 0) ∧ y = .sl id st 0)
theorem Nld.rfl {id st : Nat} {x : AV} : Nld id st x x := .inl (Eq.refl x)
theorem Nld.hit {id st : Nat} : Nld id st (.lit (.slice none 0 0)) (.sl id st 0) := .inr ⟨Eq.refl _, Eq.refl _⟩

theorem Ent.nilBox {s : Fr} {ds : List AD} {H : Hp} {K : Fr → List AD → Hp → Prop} {j st' n' : Nat} {g : Nat → List AV} (st : Nat) (f : Nat → List AV) (g' : Nat → Nat → List AV) (hj : H j = some (.box st' n' g))
 (hl : ∀ id k, k < n' → (g' id k).length = st') (hg : ∀ id k c, k < n' → c < st' → Nld id st ((g k).getD c .any) ((g' id k).getD c .any))
 (h : ∀ id, H id = none → K s ds ((H.set id (.row st 0 f)).set j (.box st' n' (g' id)))) : Ent s ds H K := by
 intro S a hH hF hD
 have hnone := St.next_none hH
 have hle := S.layNil_le hH
 have hne : j ≠ S.next := fun e => by rw [← e, hj] at hnone; cases hnone
 have h2 := hH.layNil st f
 have hj2 : (H.set S.next (.row st 0 f)) j = some (.box st' n' g) := by rw [Hp.set_ne _ _ hne]; exact hj
 refine ⟨S.layNil, s, ds, _, rfl, hle, h2.boxUpd hj2 (hl S.next) (fun k d v hk hd hv => ?_), fun t => (hF t).mono hle, hD.mono hle, h S.next hnone⟩
 rcases hg S.next k d hk hd with e | ⟨e1, e2⟩
 ·rw [e]; exact hv
 ·rw [e2]
  rw [e1] at hv
  have := hv.lit_inv
  subst this
  exact .slnil (by simp [St.layNil])

end Go.V
end
section
set_option linter.unusedVariables false
namespace Go.V
set_option linter.unusedSectionVars false
variable [Inhabited GivT]
/-- A value in which a row is now data. -/
inductive FrzD (id st n : Nat) (f : Nat → List AV) : AV → AV → Prop
 | same (x : AV) : FrzD id st n f x x
 | hit {g : Nat → List AV} (h : ∀ i, i < n → f i = g i) : FrzD id st n f (.sl id st n) (.rsl n st g)
 | agg {cs cs' : List AV} (hl : cs'.length = cs.length) (h : ∀ k, k < cs.length → FrzD id st n f (cs.getD k .any) (cs'.getD k .any)) : FrzD id st n f (.agg cs) (.agg cs')
 | tuple {cs cs' : List AV} (hl : cs'.length = cs.length) (h : ∀ k, k < cs.length → FrzD id st n f (cs.getD k .any) (cs'.getD k .any)) : FrzD id st n f (.tuple cs) (.tuple cs')

theorem FrzD.conv {S S2 : St} {id st n : Nat} {f : Nat → List AV} (hle : Le S S2) (hc : ∀ v, VRel S (.sl id st n) v → VRel S2 (.rsl n st f) v) {x y : AV} (hxy : FrzD id st n f x y) : ∀ v, VRel S x v → VRel S2 y v := by
 induction hxy with
 | same x => intro v hv; exact hv.mono hle
 | hit h => intro v hv; exact AV.Le.rsl h _ _ (hc v hv)
 | agg hl h ih =>
   intro v hv
   cases hv with
   | agg hn hv => exact .agg (hn.trans hl.symm) fun k hk => ih k (by omega) _ (hv k (by omega))
 | tuple hl h ih =>
   intro v hv
   cases hv with
   | tuple hn hv => exact .tuple (hn.trans hl.symm) fun k hk => ih k (by omega) _ (hv k (by omega))

/-- A row that is handed back inside a value, to be written no more. -/
theorem Tri.thawD {P : Program} {fv : AV} {args : List AV} {H : Hp} {R1 R : Res → Hp → Prop} (h : Tri P fv args H R1)
 (hR : ∀ r H', R1 r H' → R r H' ∨ ∃ v v' id st n f, r = .ret v ∧ H' id = some (.row st n f) ∧ FrzD id st n f v v' ∧ R (.ret v') (H'.del id)) : Tri P fv args H R := by
 intro S vf vs hH hvf ha
 obtain ⟨nx, h1, h2⟩ := h S vf vs hH hvf ha
 have ho : ∀ e w, Out S R1 e w → Out S R e w := by
  rintro e w ⟨S', r, H', hw, hle, hH', hres, hr⟩
  rcases hR r H' hr with hr | ⟨v, v', id, st, n, f, rfl, hob, hf, hr⟩
  ·exact ⟨S', r, H', hw, hle, hH', hres, hr⟩
  ·cases e with
   | returned cv =>
     obtain ⟨S2, hw2, hle2, hH2, hc⟩ := frz_step hH' hob
     exact ⟨S2, .ret v', _, hw2.trans hw, hle.trans hle2, hH2, hf.conv hle2 hc cv hres, hr⟩
   | _ => exact hres.elim
 refine ⟨nx, h1, ?_⟩
 cases nx <;> simp only [NextOk] at h2 ⊢
 ·exact Calls.mono h2 ho
 ·exact h2.mono ho

theorem tri_freezeD {P : Program} {fv : AV} {args args' : List AV} {H : Hp} {R : Res → Hp → Prop} {id st n : Nat} {f : Nat → List AV} (ho : H id = some (.row st n f)) (hl : args'.length = args.length)
 (hs : ∀ k, k < args.length → FrzD id st n f (args.getD k .any) (args'.getD k .any)) (h : Tri P fv args' (H.del id) R) : Tri P fv args H R := by
 intro S vf vs hH hvf ha
 obtain ⟨S2, hw, hle, h2, hc⟩ := frz_step hH ho
 have conv : ∀ x y, FrzD id st n f x y → ∀ v, VRel S x v → VRel S2 y v := fun x y hxy => hxy.conv hle hc
 obtain ⟨nx, h1, h3⟩ := h S2 vf vs h2 (hvf.mono hle) ⟨by rw [hl]; exact ha.1, fun k hk => conv _ _ (hs k (by omega)) _ (ha.2 k (by omega))⟩
 rw [hw] at h1
 have hout : ∀ e w, Out S2 R e w → Out S R e w := fun e w ⟨S3, r, H2, a, b, c, d, e'⟩ => ⟨S3, r, H2, a, hle.trans b, c, d, e'⟩
 refine ⟨nx, h1, ?_⟩
 cases nx <;> simp only [NextOk] at h3 ⊢
 ·rw [hw] at h3; exact Calls.mono h3 hout
 ·rw [hw] at h3; exact h3.mono hout

end Go.V
end
section
set_option linter.unusedVariables false
namespace Go.V
set_option linter.unusedSectionVars false
variable [Inhabited GivT]
section
variable {r : Option Nat} {P : Program} {m : Option Tmp → Bool} {n : Nat} {k : List It} {s : Fr} {ds : List AD} {H : Hp} {Q : Post}
end
theorem Hp.del_get (H : Hp) (i j : Nat) : (H.del i) j = if j = i then none else H j := rfl
end Go.V
end
section
set_option linter.unusedVariables false
set_option linter.unusedSimpArgs false
namespace Go.V
set_option linter.unusedSectionVars false
variable [Inhabited GivT]
abbrev i64 (n : Int) : AV := .lit (.int .i64 n)
abbrev u64 (n : Int) : AV := .lit (.int .u64 n)
abbrev u8 (n : Int) : AV := .lit (.int .u8 n)
abbrev u16 (n : Int) : AV := .lit (.int .u16 n)
abbrev boo (b : Bool) : AV := .lit (.bool b)
abbrev bx (n : Int) : AV := .rptr 1 1 (fun _ => [i64 n]) 0 0

theorem getD_snoc {α : Type} (l : List α) (x d : α) (k : Nat) : (l ++ [x]).getD k d = if k = l.length then x else l.getD k d := by
 by_cases h : k = l.length
 ·subst h; simp
 ·rw [if_neg h]
  by_cases h2 : k < l.length
  ·rw [List.getD_eq_getElem?_getD, List.getD_eq_getElem?_getD, List.getElem?_append_left h2]
  ·rw [List.getD_eq_getElem?_getD, List.getD_eq_getElem?_getD, List.getElem?_eq_none (by simp; omega), List.getElem?_eq_none (by omega)]
theorem take_snoc {α : Type} (l : List α) (i : Nat) (d : α) (h : i < l.length) : l.take (i + 1) = l.take i ++ [l.getD i d] := by
 rw [List.take_add_one, List.getD_eq_getElem?_getD, List.getElem?_eq_getElem h]; rfl
theorem mem_getD {α : Type} (l : List α) (i : Nat) (d : α) (h : i < l.length) : l.getD i d ∈ l := by
 rw [List.getD_eq_getElem?_getD, List.getElem?_eq_getElem h]; exact List.getElem_mem h
theorem getD_mem {α : Type} {l : List α} {x : α} (d : α) (h : x ∈ l) : ∃ i, i < l.length ∧ l.getD i d = x := by
 obtain ⟨i, hi, e⟩ := List.getElem_of_mem h
 exact ⟨i, hi, by rw [List.getD_eq_getElem?_getD, List.getElem?_eq_getElem hi]; exact e⟩
/-- A list, each thing of which is so many cells. -/
def lF {α : Type} (en : α → List AV) (d : α) (l : List α) : Nat → List AV := fun i => en (l.getD i d)
theorem app_lF {α : Type} (en : α → List AV) (d : α) (l : List α) (x : α) (g : Nat → List AV) (hg : g 0 = en x) : appF l.length 1 (lF en d l) g = lF en d (l ++ [x]) := by
 funext k
 simp only [appF, lF, hg, getD_snoc]
 split <;> rfl
abbrev enI (z : Int) : List AV := [i64 z]
abbrev enN (z : Nat) : List AV := [i64 (z : Int)]
abbrev enU (z : Nat) : List AV := [u64 (z : Int)]
def intF (l : List Int) : Nat → List AV := fun i => [i64 (l.getD i 0)]
abbrev intsAV (l : List Int) : AV := .rsl l.length 1 (intF l)
theorem intF_at (l : List Int) (i : Nat) : intF l i = [i64 (l.getD i 0)] := rfl
theorem app_ints (l : List Int) (w : Int) (g : Nat → List AV) (hg : g 0 = [i64 w]) : appF l.length 1 (intF l) g = intF (l ++ [w]) := app_lF enI 0 l w g hg
def llF (l : List (List Int)) : Nat → List AV := fun i => [intsAV (l.getD i [])]
abbrev llAV (l : List (List Int)) : AV := .rsl l.length 1 (llF l)
theorem llF_at (l : List (List Int)) (i : Nat) : llF l i = [intsAV (l.getD i [])] := rfl
theorem app_ll (l : List (List Int)) (w : List Int) (g : Nat → List AV) (hg : g 0 = [intsAV w]) : appF l.length 1 (llF l) g = llF (l ++ [w]) := app_lF (fun x => [intsAV x]) [] l w g hg
theorem bit_eq (S i : Nat) : decide ((((S : Int) / 2 ^ i).toNat &&& Int.toNat 1 : Nat) = (1 : Int)) = S.testBit i := by
 have e : ((S : Int) / 2 ^ i).toNat = S / 2 ^ i := by
  have : (S : Int) / 2 ^ i = ((S / 2 ^ i : Nat) : Int) := by simp
  rw [this]; rfl
 rw [e, Nat.testBit_eq_decide_div_mod_eq]
 show decide (((S / 2 ^ i &&& 1 : Nat) : Int) = 1) = _
 rw [Nat.and_one_is_mod]
 congr 1
 apply propext
 omega
/-- How many bits there are. -/
def popN : Nat → Nat → Nat
 | 0, _ => 0
 | f + 1, s => s % 2 + popN f (s / 2)
def pop (s : Nat) : Nat := popN 64 s
end Go.V
end
section
set_option linter.unusedVariables false
namespace Go.V
set_option linter.unusedSectionVars false
variable [Inhabited GivT]
theorem AV.Le.nil (st : Nat) (f : Nat → List AV) : AV.Le (.lit (.slice none 0 0)) (.rsl 0 st f) := by
 intro S v hv
 have := hv.lit_inv
 subst this
 exact .rsl0
theorem tri_nil {P : Program} {fv : AV} {args : List AV} {args' : Nat → List AV} {H : Hp} {R : Res → Hp → Prop} (st : Nat) (f : Nat → List AV) (hl : ∀ id, (args' id).length = args.length)
 (hs : ∀ id k, k < args.length → AV.Le (args.getD k .any) ((args' id).getD k .any) ∨ (args.getD k .any = .lit (.slice none 0 0) ∧ (args' id).getD k .any = .sl id st 0))
 (h : ∀ id, H id = none → Tri P fv (args' id) (H.set id (.row st 0 f)) R) : Tri P fv args H R := by
 intro S vf vs hH hvf ha
 have hnone := St.next_none hH
 have hle := S.layNil_le hH
 obtain ⟨nx, h1, h3⟩ := h S.next hnone S.layNil vf vs (hH.layNil st f) (hvf.mono hle) ⟨by rw [hl]; exact ha.1, fun k hk => by
  have hk' : k < args.length := by rw [hl] at hk; exact hk
  rcases hs S.next k hk' with e | ⟨e1, e2⟩
  ·exact e _ _ ((ha.2 k hk').mono hle)
  ·rw [e2]
   have := ha.2 k hk'
   rw [e1] at this
   have := this.lit_inv
   rw [this]
   exact .slnil (by simp [St.layNil])⟩
 have hout : ∀ e w, Out S.layNil R e w → Out S R e w := fun e w ⟨S3, r, H2, a, b, c, d, e'⟩ => ⟨S3, r, H2, a, hle.trans b, c, d, e'⟩
 refine ⟨nx, h1, ?_⟩
 cases nx <;> simp only [NextOk] at h3 ⊢
 ·exact Calls.mono h3 hout
 ·exact h3.mono hout

end Go.V
end
section
set_option linter.unusedVariables false
set_option linter.unusedSimpArgs false
namespace Go.V
set_option linter.unusedSectionVars false
variable [Inhabited GivT]
theorem tri_inv {P : Program} {T : TypeId} {nm : String} {f : FuncId} {recv : AV} {args : List AV} {H : Hp} {R : Res → Hp → Prop} (hm : methT P T nm f) (h : Tri P (fnA f) (recv :: args) H R) :
 Tri P (.func (.method nm) [] []) (.iface T recv :: args) H R := by
 intro S vf vs hH hvf ha
 cases hvf with
 | @func _ _ _ ws us hn hu h1 h2 =>
   have hws : ws = #[] := by simpa using hn
   subst hws
   have hus : us = #[] := by simpa using hu
   subst hus
   obtain ⟨hlen, hall⟩ := ha
   cases vs with
   | nil => simp at hlen
   | cons x vs =>
     have hx := hall 0 (by simp)
     simp only [List.getD_cons_zero] at hx
     cases hx with
     | @iface _ _ cv hcv =>
       obtain ⟨nx, e1, e2⟩ := h S (.func (.func f) #[] #[]) (cv :: vs) hH (.func rfl rfl (fun k hk => absurd hk (by simp)) (fun k hk => absurd hk (by simp)))
        ⟨by simpa using hlen, fun k hk => by
         cases k with
         | zero => exact hcv
         | succ k => simpa using hall (k+1) (by simpa using hk)⟩
       refine ⟨nx, ?_, e2⟩
       rw [← e1]
       simp only [Deferred.ofValue, Sem.run_bind, Sem.run_pure, Result.andThen_ok, invoke]
       have a1 : (#[] ++ (Value.iface T cv :: vs).toArray : Array Value)[0]? = some (.iface T cv) := by simp
       have a2 : (#[] ++ (Value.iface T cv :: vs).toArray : Array Value).extract 1 (#[] ++ (Value.iface T cv :: vs).toArray : Array Value).size = vs.toArray := by
        apply Array.toList_inj.1; simp
       simp only [a1, a2, hm cv vs.toArray S.w]
       congr 2
       simp
end Go.V
end
section
namespace Go.V
set_option linter.unusedSectionVars false
variable [Inhabited GivT]
variable {α : Type}
/-- What is told of two, where either may be missing. -/
def comb (join : α → α → α) : Option α → Option α → Option α
 | none, y => y
 | some a, none => some a
 | some a, some b => some (join a b)
/-- Of all of a list. -/
def foldJ (join : α → α → α) : List α → Option α
 | [] => none
 | a :: l => comb join (some a) (foldJ join l)
end Go.V
end
section
set_option linter.unusedVariables false
set_option linter.unusedSimpArgs false
namespace Go.V
set_option linter.unusedSectionVars false
/-- The first set of a size, from one on, that suits. -/
def inn (f : Nat → Bool) (z : Nat) : Nat → Nat → Option Nat
 | 0, _ => none
 | n + 1, j => if (decide (pop j = z) && f j) = true then some j else inn f z n (j + 1)
def outF (f : Nat → Bool) (m : Nat) : Nat → Nat → Option Nat
 | 0, _ => none
 | n + 1, z => match inn f z (2 ^ m) 0 with
   | some j => some j
   | none => outF f m n (z + 1)
def fewV (f : Nat → Bool) (m : Nat) : Option Nat := outF f m (m + 1) 0
/-- The last of all sets that are smaller than those before. -/
def bsN (f : Nat → Bool) (b : Nat) : Nat → Nat
 | 0 => b
 | j + 1 => if (decide (pop j < pop (bsN f b j)) && f j) = true then j else bsN f b j
def rset (f : Nat → Bool) (m : Nat) : Option Nat := if f (2 ^ m - 1) = true then some (bsN f (2 ^ m - 1) (2 ^ m)) else none
def setE (e : Int) (r : Option Nat) : Int := if e = 0 then (if r.isSome = true then 0 else 4) else e
def setV (e : Int) (r : Option Nat) : Nat := if setE e r = 0 then r.getD 0 else 0
/-- The least set that suits. -/
structure LeastSet (f : Nat → Bool) (m r : Nat) : Prop where
 lt : r < 2 ^ m
 is : f r = true
 le : ∀ i, i < 2 ^ m → f i = true → pop r < pop i ∨ pop r = pop i ∧ r ≤ i
theorem LeastSet.uniq {f : Nat → Bool} {m r r' : Nat} (h : LeastSet f m r) (h' : LeastSet f m r') : r = r' := by
 have h1 := h.le r' h'.lt h'.is
 have h2 := h'.le r h.lt h.is
 omega
section
variable [Inhabited GivT]
noncomputable def cdec (p : Prop) : Bool := @decide p (Classical.propDecidable p)
noncomputable def filP {α : Type} (p : α → Prop) (l : List α) : List α := l.filter fun a => cdec (p a)
/-- The least number with a property, if there is one. -/
structure MinS (o : Option Int) (S : Int → Prop) : Prop where
 le : ∀ x, S x → ∃ m, o = some m ∧ m ≤ x
 is : ∀ m, o = some m → S m
theorem MinS.uniq {o o' : Option Int} {S : Int → Prop} (h : MinS o S) (h' : MinS o' S) : o = o' := by
 cases ho : o with
 | none =>
   cases ho' : o' with
   | none => rfl
   | some m =>
     obtain ⟨q, hq, _⟩ := h.le m (h'.is m ho')
     rw [ho] at hq; cases hq
 | some m =>
   obtain ⟨q, hq, h1⟩ := h'.le m (h.is m ho)
   obtain ⟨q2, hq2, h2⟩ := h.le q (h'.is q hq)
   rw [ho] at hq2
   cases hq2
   rw [hq]
   congr 1
   omega
theorem MinS.congr {o : Option Int} {S S' : Int → Prop} (h : MinS o S) (e : ∀ x, S x ↔ S' x) : MinS o S' :=
 ⟨fun x hx => h.le x ((e x).2 hx), fun m hm => (e m).1 (h.is m hm)⟩
def mnG {α : Type} (f : α → Int) (L : List α) (d : α) : Nat → α
 | 0 => L.getD 0 d
 | i + 1 => if f (L.getD i d) < f (mnG f L d i) then L.getD i d else mnG f L d i
end
end Go.V
end
section
set_option linter.unusedVariables false
set_option linter.unusedSimpArgs false
namespace Go.V
set_option linter.unusedSectionVars false
variable [Inhabited GivT]
/-- What one cell holds. -/
inductive CK where
 | int (k : IntKind)
 | bool
 | sl (ks : List CK)

/-- The cells of a type. -/
def cellsT (P : Program) : Nat → TypeId → Option (List CK)
 | 0, _ => none
 | d + 1, t => match P.underlying t with
   | some .bool => some [.bool]
   | some (.int k) => some [.int k]
   | some (.slice e) => match cellsT P d e with
     | some ks => if P.cellsOf e = ks.length ∧ 0 < ks.length then some [.sl ks] else none
     | none => none
   | some (.array n e) => match cellsT P d e with
     | some ks => if P.cellsOf e = ks.length ∧ P.cellsOf t = n * ks.length then some ((List.replicate n ks).flatten) else none
     | none => none
   | some (.struct fs) => match fs.toList.foldl (fun acc f => match acc with
    | some ks => match cellsT P d f.type with
      | some l => if f.offset = ks.length ∧ P.cellsOf f.type = l.length then some (ks ++ l) else none
      | none => none
    | none => none) (some []) with
     | some ks => if P.cellsOf t = ks.length then some ks else none
     | none => none
   | _ => none

/-- Such an abstract value. -/
inductive CKA : CK → AV → Prop
 | int {k : IntKind} {z : Int} (h : (Lit.int k z).wf = true) : CKA (.int k) (.lit (.int k z))
 | bool {b : Bool} : CKA .bool (.lit (.bool b))
 | sl {ks : List CK} {n : Nat} {f : Nat → List AV} (hn : n ≤ maxLen) (hl : ∀ i, i < n → (f i).length = ks.length) (h : ∀ i j k, i < n → ks[j]? = some k → CKA k ((f i).getD j .any)) : CKA (.sl ks) (.rsl n ks.length f)

def CellIs (W : World) (k : CK) (v : Value) : Prop := ∃ av, CKA k av ∧ VRel (st0 W) av v
def CellsOk (W : World) (ks : List CK) (cs : List Value) : Prop := cs.length = ks.length ∧ ∀ (i : Nat) (k : CK) (v : Value), ks[i]? = some k → cs[i]? = some v → CellIs W k v

theorem CellsOk.append {W : World} {ks ls : List CK} {cs ds : List Value} (h : CellsOk W ks cs) (h' : CellsOk W ls ds) : CellsOk W (ks ++ ls) (cs ++ ds) := by
 refine ⟨by simp [h.1, h'.1], fun i k v hk hv => ?_⟩
 by_cases hi : i < ks.length
 ·rw [List.getElem?_append_left hi] at hk
  rw [List.getElem?_append_left (by rw [h.1]; exact hi)] at hv
  exact h.2 i k v hk hv
 ·rw [List.getElem?_append_right (by omega)] at hk
  rw [List.getElem?_append_right (by rw [h.1]; omega), h.1] at hv
  exact h'.2 _ k v hk hv

theorem trod_cells {H : Type} {enc : TypeId × Value → H} {P : Program} {W : World} {held : Bool} {sp : Nat → Bool} :
 ∀ (d fuel : Nat) (t : TypeId) (cs : List Value) (x : DataW H × List MemPlace) (ks : List CK), cellsT P d t = some ks → DataW.trod enc P W 0 sp held fuel t cs = some x → CellsOk W ks cs := by
 intro d
 induction d with
 | zero => intro fuel t cs x ks hg; cases hg
 | succ d ih =>
   intro fuel t cs x ks hg h
   cases fuel with
   | zero => cases h
   | succ fuel =>
     unfold cellsT at hg
     unfold DataW.trod at h
     cases hu : P.underlying t with
     | none => rw [hu] at hg; cases hg
     | some td =>
       rw [hu] at hg h
       cases td <;> simp only at hg <;> try (cases hg; done)
       case bool =>
        cases hg
        split at h <;> simp_all
        rename_i b
        exact ⟨rfl, fun i k v hk hv => by cases i <;> simp at hk hv; subst hk hv; exact ⟨_, .bool, .lit _⟩⟩
       case int k =>
        cases hg
        split at h <;> simp_all
        rename_i n hh
        exact ⟨rfl, fun i k v hk hv => by cases i <;> simp at hk hv; subst hk hv; exact ⟨_, .int h.1.2, .lit _⟩⟩
       case array n e =>
        cases hke : cellsT P d e with
        | none => rw [hke] at hg; cases hg
        | some lk =>
          rw [hke] at hg
          simp only at hg
          by_cases hc : P.cellsOf e = lk.length ∧ P.cellsOf t = n * lk.length
          case neg => rw [if_neg hc] at hg; cases hg
          rw [if_pos hc] at hg
          cases hg
          split at h <;> try (simp_all; done)
          case _ n' e' heq =>
           simp only [Option.some.injEq, TypeDesc.array.injEq] at heq
           obtain ⟨rfl, rfl⟩ := heq
           split at h
           case isFalse hl => cases h
           case isTrue hl =>
            rw [Option.map_eq_some_iff] at h
            obtain ⟨ys, hy, rfl⟩ := h
            have key : ∀ (c : List Value), (∀ i, i < n → ∃ y, DataW.trod enc P W 0 sp held fuel e ((c.drop (i * P.cellsOf e)).take (P.cellsOf e)) = some y) → ∀ m, m ≤ n → CellsOk W (List.replicate m lk).flatten (c.take (m * lk.length)) := by
             intro c hcy m
             induction m with
             | zero => intro _; exact ⟨by simp, fun i k v hk => by simp at hk⟩
             | succ m ihm =>
               intro hm
               have h0 := ihm (by omega)
               obtain ⟨y, h2⟩ := hcy m (by omega)
               have h3 := ih fuel e _ y lk hke h2
               rw [hc.1] at h3
               have := h0.append h3
               rw [List.replicate_succ', List.flatten_append, Nat.succ_mul, List.take_add]
               simpa using this
            have := key _ (fun i hi => by
             obtain ⟨y, _, h2⟩ := (mapM_get _ _ hy).2 i i (by simp [hi])
             exact ⟨y, h2⟩) n (Nat.le_refl _)
            rw [List.take_of_length_le (by rw [hl, hc.2]; exact Nat.le_refl _)] at this
            exact this
       case slice e =>
        cases hke : cellsT P d e with
        | none => rw [hke] at hg; cases hg
        | some lk =>
          rw [hke] at hg
          simp only at hg
          by_cases hc : P.cellsOf e = lk.length ∧ 0 < lk.length
          case neg => rw [if_neg hc] at hg; cases hg
          rw [if_pos hc] at hg
          cases hg
          obtain ⟨hsz, hpos⟩ := hc
          split at h <;> try (simp_all; done)
          ·rename_i heq
           refine ⟨rfl, fun i k v hk hv => ?_⟩
           cases i <;> simp at hk hv
           subst hk hv
           exact ⟨.rsl 0 lk.length fun _ => [], .sl (Nat.zero_le _) (fun i hi => by omega) (fun i j k hi => by omega), .rsl0⟩
          ·rename_i e' a len cap heq
           simp only [Option.some.injEq, TypeDesc.slice.injEq] at heq
           subst heq
           simp only at h
           split at h
           case isFalse hl => cases h
           case isTrue hl =>
            rw [Option.bind_eq_some_iff] at h
            obtain ⟨es, he, -⟩ := h
            let g : Nat → List Value := fun i => match W.cells? 0 (a.add (i * P.cellsOf e)) (P.cellsOf e) with
             | some c => c
             | none => []
            have hel : ∀ i, i < len → W.cells? 0 (a.add (i * P.cellsOf e)) (P.cellsOf e) = some (g i) ∧ CellsOk W lk (g i) := by
             intro i hi
             obtain ⟨y, _, hy⟩ := (mapM_get _ _ he).2 i i (by simp [hi])
             rw [Option.bind_eq_some_iff] at hy
             obtain ⟨c, h1, h2⟩ := hy
             have : g i = c := by simp only [g, h1]
             rw [this]
             exact ⟨h1, ih fuel e c y lk hke h2⟩
            -- the abstract cells
            have hch : ∀ i j, ∃ av, i < len → j < lk.length → ∃ k v, lk[j]? = some k ∧ (g i)[j]? = some v ∧ CKA k av ∧ VRel (st0 W) av v := by
             intro i j
             by_cases hi : i < len
             ·by_cases hj : j < lk.length
              ·obtain ⟨l1, l2⟩ := (hel i hi).2
               obtain ⟨av, c1, c2⟩ := l2 j lk[j] (g i)[j] (List.getElem?_eq_getElem hj) (List.getElem?_eq_getElem (by omega))
               exact ⟨av, fun _ _ => ⟨_, _, List.getElem?_eq_getElem hj, List.getElem?_eq_getElem (by omega), c1, c2⟩⟩
              ·exact ⟨.any, fun _ x => absurd x hj⟩
             ·exact ⟨.any, fun x => absurd x hi⟩
            have hf := fun i => Classical.axiomOfChoice (hch i)
            obtain ⟨F, hF⟩ := Classical.axiomOfChoice hf
            have hget : ∀ i j, j < lk.length → ((List.range lk.length).map (F i)).getD j .any = F i j := fun i j hj => by
             rw [List.getD_eq_getElem?_getD, List.getElem?_map, List.getElem?_range hj]; rfl
            refine ⟨rfl, fun i k v hk hv => ?_⟩
            cases i <;> simp at hk hv
            subst hk hv
            refine ⟨.rsl len lk.length fun i => (List.range lk.length).map (F i), .sl (Nat.le_trans hl.2.1 hl.2.2) (fun i hi => by simp) (fun i j k hi hk => ?_), ?_⟩
            ·have hj := (List.getElem?_eq_some_iff.1 hk).1
             rw [hget i j hj]
             obtain ⟨k', v, h1, h2, h3, h4⟩ := hF i j hi hj
             rw [hk] at h1; cases h1
             exact h3
            by_cases h0 : len = 0
            ·subst h0; exact .rsl0
            have hcell : ∀ i j, i < len → j < lk.length → ∃ u, (g i)[j]? = some u ∧ W.cell? ((a.add (i * P.cellsOf e)).add j) = some u := by
             intro i j hi hj
             have h1 := (hel i hi).1
             unfold World.cells? at h1
             rw [if_pos (Nat.zero_le _)] at h1
             exact (mapM_get _ _ h1).2 j j (by simp [hsz, hj])
            obtain ⟨b, off, spot⟩ := a
            obtain ⟨u0, _, hc0⟩ := hcell 0 0 (by omega) hpos
            rw [show ((⟨b, off, spot⟩ : Addr).add (0 * P.cellsOf e)).add 0 = ⟨b, off, spot⟩ from by simp [Addr.add]] at hc0
            unfold World.cell? at hc0
            split at hc0
            case h_2 => cases hc0
            case h_1 c ct fz hb =>
             have hspot : spot = none := by
              cases spot with
              | none => rfl
              | some s => simp at hc0
             subst hspot
             have hadd : ∀ i j, (((⟨b, off, none⟩ : Addr).add (i * P.cellsOf e)).add j) = ⟨b, off + i * P.cellsOf e + j, none⟩ := fun i j => by rw [addr_add, addr_add]
             have hall : ∀ i j, i < len → j < lk.length → ∃ u, (g i)[j]? = some u ∧ c[off + i * lk.length + j]? = some u := by
              intro i j hi hj
              obtain ⟨u, h1, h2⟩ := hcell i j hi hj
              rw [hadd] at h2
              unfold World.cell? at h2
              simp only at hb
              rw [show W.heap[(⟨b, off + i * P.cellsOf e + j, none⟩ : Addr).block]? = some (.cells c ct fz) from hb] at h2
              simp only [Option.isSome_none, Bool.false_eq_true, if_false, hsz] at h2
              exact ⟨u, h1, h2⟩
             refine .rsl (c := c) (e := ct) (fz := fz) ?_ hb ?_ (fun i hi => by simp) (fun i j hi hj => ?_) hl.2.1
             ·exact (Array.getElem?_eq_some_iff.1 hb).1
             ·obtain ⟨u, _, h2⟩ := hall (len - 1) (lk.length - 1) (by omega) (by omega)
              have := (Array.getElem?_eq_some_iff.1 h2).1
              have e1 : len * lk.length = (len - 1) * lk.length + lk.length := by
               obtain ⟨q, rfl⟩ : ∃ q, len = q + 1 := ⟨len - 1, by omega⟩
               rw [Nat.add_sub_cancel, Nat.succ_mul]
              omega
             ·obtain ⟨u, h1, h2⟩ := hall i j hi hj
              obtain ⟨k', v, q1, q2, q3, q4⟩ := hF i j hi hj
              rw [h1] at q2; cases q2
              rw [hget i j hj, Array.getD_eq_getD_getElem?, h2]
              exact q4
       case struct fs =>
        split at h <;> try (simp_all; done)
        case _ fs' heq =>
         simp only [Option.some.injEq, TypeDesc.struct.injEq] at heq
         subst heq
         split at h
         case isFalse hl => cases h
         case isTrue hl =>
          rw [Option.map_eq_some_iff] at h
          obtain ⟨ys, hy, rfl⟩ := h
          have key : ∀ (c : List Value) (l : List Field) (acc ks : List CK), (∀ f ∈ l, ∃ y, DataW.trod enc P W 0 sp held fuel f.type ((c.drop f.offset).take (P.cellsOf f.type)) = some y) → CellsOk W acc (c.take acc.length) →
           l.foldl (fun acc f => match acc with
            | some ks => match cellsT P d f.type with
              | some l => if f.offset = ks.length ∧ P.cellsOf f.type = l.length then some (ks ++ l) else none
              | none => none
            | none => none) (some acc) = some ks → CellsOk W ks (c.take ks.length) := by
           intro c l
           induction l with
           | nil => intro acc ks _ ha he; simp at he; subst he; exact ha
           | cons f l ih2 =>
             intro acc ks hf ha he
             simp only [List.foldl_cons] at he
             have hnone : ∀ l : List Field, l.foldl (fun acc f => match acc with
              | some ks => match cellsT P d f.type with
                | some l => if f.offset = ks.length ∧ P.cellsOf f.type = l.length then some (ks ++ l) else none
                | none => none
              | none => none) none = (none : Option (List CK)) := by
              intro l; induction l with
              | nil => rfl
              | cons a l ih => simpa using ih
             cases hl2 : cellsT P d f.type with
             | none => rw [hl2] at he; simp only at he; rw [hnone] at he; cases he
             | some lk =>
               rw [hl2] at he
               simp only at he
               by_cases hc : f.offset = acc.length ∧ P.cellsOf f.type = lk.length
               ·rw [if_pos hc] at he
                obtain ⟨y, hy⟩ := hf f (by simp)
                have := ih fuel f.type _ y lk hl2 hy
                rw [hc.1, hc.2] at this
                have hap := ha.append this
                refine ih2 (acc ++ lk) ks (fun g hg => hf g (by simp [hg])) ?_ he
                rw [List.length_append, List.take_add]
                exact hap
               ·rw [if_neg hc, hnone] at he; cases he
          split at hg
          case h_2 => cases hg
          case h_1 ks' he =>
           split at hg
           case isFalse => cases hg
           case isTrue hc =>
            cases hg
            have := key _ fs.toList [] ks (fun f hf => by
             obtain ⟨i, hi⟩ := List.getElem?_of_mem hf
             obtain ⟨y, _, h2⟩ := (mapM_get _ _ hy).2 i f hi
             exact ⟨y, h2⟩) ⟨by simp, fun i k v hk => by simp at hk⟩ he
            rw [List.take_of_length_le (by rw [hl, hc]; exact Nat.le_refl _)] at this
            exact this

end Go.V
end
section
set_option linter.unusedVariables false
set_option linter.unusedSimpArgs false
namespace Go.V
set_option linter.unusedSectionVars false
variable [Inhabited GivT]
open Go.ChangeShapes
theorem AV.Le.rslD {n st : Nat} {f g : Nat → List AV} (h : ∀ i, i < n → (g i).length = st ∧ ∀ j, j < st → AV.Le ((f i).getD j .any) ((g i).getD j .any)) : AV.Le (.rsl n st f) (.rsl n st g) := by
 intro S v hv
 cases hv with
 | rsl0 => exact .rsl0
 | rsl hi hb hsz hf hh hcap => exact .rsl hi hb hsz (fun i hi => (h i hi).1) (fun i j hi hj => (h i hi).2 j hj _ _ (hh i j hi hj)) hcap
theorem AV.Le.aggD {cs ds : List AV} (hl : ds.length = cs.length) (h : ∀ j, j < cs.length → AV.Le (cs.getD j .any) (ds.getD j .any)) : AV.Le (.agg cs) (.agg ds) := by
 intro S v hv
 cases hv with
 | agg hn hh => exact .agg (hn.trans hl.symm) fun k hk => h k (by omega) _ _ (hh k (by omega))

/-- Cells that are told. -/
def Told (ks : List CK) (cs : List AV) : Prop := cs.length = ks.length ∧ ∀ j k, ks[j]? = some k → CKA k (cs.getD j .any)

/-- A struct that is handed in. -/
theorem trod_agg {H : Type} {enc : TypeId × Value → H} {P : Program} {W : World} {held : Bool} {sp : Nat → Bool} {t dd : Nat} {v : Value} {d : DataW H} {ps : List MemPlace} {ks : List CK}
 (hk : cellsT P dd t = some ks) (hn : 2 ≤ ks.length) (h : DataW.Trod enc P W 0 sp held t v d ps) : ∃ cs : List AV, Told ks cs ∧ VRel (st0 W) (.agg cs) v := by
 obtain ⟨fuel, h⟩ := h
 obtain ⟨hl, hz⟩ := trod_cells dd fuel t _ _ ks hk h
 cases v with
 | agg vs =>
   simp only [Value.cells] at hl hz
   have hl2 : vs.size = ks.length := by simpa using hl
   have hch : ∀ j : Nat, ∃ av : AV, ∀ (k : CK) (u : Value), ks[j]? = some k → vs[j]? = some u → CKA k av ∧ VRel (st0 W) av u := fun j => by
    cases hkj : ks[j]? with
    | none => exact ⟨.any, fun k u h => by cases h⟩
    | some k =>
      cases hvj : vs[j]? with
      | none => exact ⟨.any, fun k u _ h => by cases h⟩
      | some u =>
        obtain ⟨av, h1, h2⟩ := hz j k u hkj (by simpa using hvj)
        exact ⟨av, fun k' u' e1 e2 => by cases e1; cases e2; exact ⟨h1, h2⟩⟩
   obtain ⟨F, hF⟩ := Classical.axiomOfChoice hch
   have hget : ∀ j, j < ks.length → ((List.range ks.length).map F).getD j .any = F j := fun j hj => by
    rw [List.getD_eq_getElem?_getD, List.getElem?_map, List.getElem?_range hj]; rfl
   refine ⟨(List.range ks.length).map F, ⟨by simp, fun j k hk => ?_⟩, .agg (by simpa using hl2) fun j hj => ?_⟩
   ·have hj := (List.getElem?_eq_some_iff.1 hk).1
    rw [hget j hj]
    exact (hF j k vs[j] hk (by simp [show j < vs.size by omega])).1
   ·have hj : j < ks.length := by simpa using hj
    rw [hget j hj, Array.getD_eq_getD_getElem?, Array.getElem?_eq_getElem (by omega)]
    exact (hF j ks[j] vs[j] (List.getElem?_eq_getElem hj) (by simp [show j < vs.size by omega])).2
 | _ => simp [Value.cells] at hl; omega
/-- A slice of what can be told. -/
theorem told_slice {α : Type} {ks : List CK} (en : α → List AV) (d0 : α) (hd : ∀ cs, Told ks cs → ∃ x : α, (en x).length = ks.length ∧ ∀ j, j < ks.length → AV.Le (cs.getD j .any) ((en x).getD j .any)) {av : AV} (h : CKA (.sl ks) av) :
 ∃ l : List α, l.length ≤ maxLen ∧ AV.Le av (.rsl l.length ks.length fun i => en (l.getD i d0)) := by
 cases h with
 | @sl _ n f hn hl hh =>
   have hch : ∀ i, ∃ x : α, i < n → (en x).length = ks.length ∧ ∀ j, j < ks.length → AV.Le ((f i).getD j .any) ((en x).getD j .any) := fun i => by
    by_cases hi : i < n
    ·obtain ⟨x, h1⟩ := hd (f i) ⟨hl i hi, fun j k hk => hh i j k hi hk⟩
     exact ⟨x, fun _ => h1⟩
    ·exact ⟨d0, fun x => absurd x hi⟩
   obtain ⟨F, hF⟩ := Classical.axiomOfChoice hch
   refine ⟨(List.range n).map F, by simpa using hn, ?_⟩
   rw [List.length_map, List.length_range]
   refine AV.Le.rslD fun i hi => ?_
   have e : ((List.range n).map F).getD i d0 = F i := by
    rw [List.getD_eq_getElem?_getD, List.getElem?_map, List.getElem?_range hi]; rfl
   rw [e]
   exact hF i hi
theorem told_int {cs : List AV} {k : IntKind} (j : Nat) {ks : List CK} (h : Told ks cs) (hk : ks[j]? = some (.int k)) : ∃ z : Int, cs.getD j .any = .lit (.int k z) ∧ (Lit.int k z).wf = true := by
 have := h.2 j _ hk
 generalize cs.getD j .any = x at *
 cases this with
 | int hw => exact ⟨_, rfl, hw⟩
end Go.V
end
section
set_option linter.unusedVariables false
set_option linter.unusedSimpArgs false
namespace Go.V
set_option linter.unusedSectionVars false
variable [Inhabited GivT]
theorem tri_bound {P : Program} {f : FuncId} {recv : AV} {args : List AV} {H : Hp} {R : Res → Hp → Prop} (h : Tri P (fnA f) (recv :: args) H R) :
 Tri P (.func (.func f) [recv] []) args H R := by
 intro S vf vs hH hvf ha
 cases hvf with
 | @func _ _ _ ws us hn hu h1 h2 =>
   have hw : ∃ x, ws = #[x] := by
    have : ws.size = 1 := by simpa using hn
    exact ⟨ws[0], Array.ext (by simp [this]) (fun i h1 h2 => by
     have : i = 0 := by simp at h2; omega
     subst this; rfl)⟩
   obtain ⟨x, rfl⟩ := hw
   have hus : us = #[] := by simpa using hu
   subst hus
   have hx := h1 0 (by simp)
   simp only [List.getD_cons_zero] at hx
   have hx' : VRel S recv x := by simpa [Array.getD_eq_getD_getElem?] using hx
   obtain ⟨nx, e1, e2⟩ := h S (.func (.func f) #[] #[]) (x :: vs) hH (.func rfl rfl (fun k hk => absurd hk (by simp)) (fun k hk => absurd hk (by simp)))
    ⟨by simp [ha.1], fun k hk => by
     cases k with
     | zero => exact hx'
     | succ k => simpa using ha.2 k (by simpa using hk)⟩
   refine ⟨nx, ?_, e2⟩
   rw [← e1]
   simp only [Deferred.ofValue, Sem.run_bind, Sem.run_pure, Result.andThen_ok, invoke]
   simp
end Go.V
end
section
set_option linter.unusedVariables false
set_option linter.unusedSimpArgs false
namespace Go.V
set_option linter.unusedSectionVars false
variable [Inhabited GivT]
theorem mapM_all {α β : Type} {f : α → Option β} {g : α → β} : ∀ {l : List α}, (∀ a ∈ l, f a = some (g a)) → l.mapM f = some (l.map g)
 | [], _ => rfl
 | a :: l, h => by
   rw [List.mapM_cons, h a (by simp), mapM_all (fun b hb => h b (by simp [hb]))]; rfl

def keyJ (P : Program) : Nat → TypeId → Option Nat
 | 0, _ => none
 | d + 1, T => match P.underlying T with
   | some (.int .i64) => if P.cellsOf T = 1 then some 1 else none
   | some (.array n e) => match d, P.underlying e with
     | _ + 1, some (.int .i64) => if P.cellsOf e = 1 ∧ P.cellsOf T = n then some n else none
     | _, _ => none
   | some (.struct fs) => match keyFs P (keyJ P d) fs.toList 0 with
     | some n => if P.cellsOf T = n then some n else none
     | none => none
   | _ => none

theorem keyJ_spec {P : Program} : ∀ (d : Nat) (T n : Nat), keyJ P d T = some n → P.cellsOf T = n ∧
 ∀ D, d ≤ D → ∀ l : List Int, l.length = n → (∀ x ∈ l, (Lit.int .i64 x).wf = true) → P.keyLits D T (l.map (Value.int .i64)) = some (l.map (Lit.int .i64))
 | 0, _, _, h => by simp [keyJ] at h
 | d + 1, T, n, h => by
   simp only [keyJ] at h
   split at h
   case h_4 => cases h
   case h_1 hu =>
    split at h
    case isFalse => cases h
    case isTrue hc =>
     cases h
     refine ⟨hc, fun D hD l hl hw => ?_⟩
     obtain ⟨D', rfl⟩ : ∃ D', D = D' + 1 := ⟨D - 1, by omega⟩
     match l, hl with
     | [a], _ =>
       have := hw a (by simp)
       simp [Program.keyLits, hu, this]
   case h_2 m e hu =>
    split at h
    case h_2 => cases h
    case h_1 hd he =>
     split at h
     case isFalse => cases h
     case isTrue hc =>
      cases h
      refine ⟨hc.2, fun D hD l hl hw => ?_⟩
      obtain ⟨D', rfl⟩ : ∃ D', D = D' + 2 := ⟨D - 2, by omega⟩
      subst hl
      have key : ∀ i ∈ List.range l.length, P.keyLits (D' + 1) e (((l.map (Value.int .i64)).drop (i * P.cellsOf e)).take (P.cellsOf e)) = some [Lit.int .i64 (l.getD i 0)] := fun i hi => by
       rw [List.mem_range] at hi
       have e1 : ((l.map (Value.int .i64)).drop (i * P.cellsOf e)).take (P.cellsOf e) = [Value.int .i64 (l.getD i 0)] := by
        rw [hc.1, Nat.mul_one, List.drop_eq_getElem_cons (by simpa using hi)]
        simp [List.getD, hi]
       have hm : l.getD i 0 ∈ l := by simp [List.getD, hi]
       rw [e1]
       have hw2 := hw _ hm
       unfold Program.keyLits
       simp only [he, hw2, and_self, if_true]
      rw [Program.keyLits]
      rotate_left 3
      ·exact hu
      simp only [List.length_map, hc.2, if_true]
      rw [mapM_all key, Option.map_some]
      congr 1
      have : ∀ l : List Int, ((List.range l.length).map fun i => [Lit.int .i64 (l.getD i 0)]).flatten = l.map (Lit.int .i64) := fun l => by
       rw [← List.flatMap_def]
       apply List.ext_getElem?
       intro j
       induction l generalizing j with
       | nil => simp
       | cons a l ih =>
         rw [List.length_cons, List.range_succ_eq_map, List.flatMap_cons, List.flatMap_map]
         cases j with
         | zero => simp
         | succ j => simpa using ih j
      exact this l
   case h_3 fs hu =>
    split at h
    case h_2 => cases h
    case h_1 n' hk =>
     split at h
     case isFalse => cases h
     case isTrue hc =>
      cases h
      refine ⟨hc, fun D hD l hl hw => ?_⟩
      obtain ⟨D', rfl⟩ : ∃ D', D = D' + 1 := ⟨D - 1, by omega⟩
      subst hl
      obtain ⟨hn, Ls, hm, hfl⟩ := keyFs_spec (P := P) (D := D') (g := keyJ P d) (l := l) (fun T n hT => by
       obtain ⟨g1, g2⟩ := keyJ_spec d T n hT
       refine ⟨g1, fun o ho => ?_⟩
       have := g2 D' (by omega) ((l.drop o).take n) (by simp; omega) (fun x hx => hw x (List.mem_of_mem_drop (List.mem_of_mem_take hx)))
       rw [← this, List.map_take, List.map_drop]) fs.toList 0 hk (by omega)
      have hall : fs.all (fun f => f.name != "_") = true := by
       rw [Array.all_eq_true_iff_forall_mem]
       intro f hf
       have := hn f (by simpa using hf)
       simpa using this
      simp only [Program.keyLits, hu, List.length_map, hc, hall, true_and, if_true, hm, Option.map_some, hfl, List.drop_zero]

end Go.V
end
section
set_option linter.unusedVariables false
set_option linter.unusedSimpArgs false
namespace Go.V
set_option linter.unusedSectionVars false
variable [Inhabited GivT]
/-- The same value, with some leaves told otherwise. -/
inductive FrzX (L : AV → AV → Prop) : AV → AV → Prop
 | same (x : AV) : FrzX L x x
 | leaf {x y : AV} (h : L x y) : FrzX L x y
 | agg {cs cs' : List AV} (hl : cs'.length = cs.length) (h : ∀ k, k < cs.length → FrzX L (cs.getD k .any) (cs'.getD k .any)) : FrzX L (.agg cs) (.agg cs')
 | tuple {cs cs' : List AV} (hl : cs'.length = cs.length) (h : ∀ k, k < cs.length → FrzX L (cs.getD k .any) (cs'.getD k .any)) : FrzX L (.tuple cs) (.tuple cs')
 | rptr {n st i j : Nat} {f g : Nat → List AV} (hl : ∀ k, k < n → (f k).length = st → (g k).length = st) (h : ∀ k l, k < n → l < st → FrzX L ((f k).getD l .any) ((g k).getD l .any)) : FrzX L (.rptr n st f i j) (.rptr n st g i j)
 | func {fn : Fn} {a b a' b' : List AV} (hl : a'.length = a.length) (hm : b'.length = b.length) (h : ∀ k, k < a.length → FrzX L (a.getD k .any) (a'.getD k .any)) (h' : ∀ k, k < b.length → FrzX L (b.getD k .any) (b'.getD k .any)) : FrzX L (.func fn a b) (.func fn a' b')

theorem FrzX.conv {L : AV → AV → Prop} {S S2 : St} (hle : Le S S2) (hc : ∀ x y, L x y → ∀ v, VRel S x v → VRel S2 y v) {x y : AV} (hxy : FrzX L x y) : ∀ v, VRel S x v → VRel S2 y v := by
 induction hxy with
 | same x => intro v hv; exact hv.mono hle
 | leaf h => intro v hv; exact hc _ _ h v hv
 | agg hl h ih =>
   intro v hv
   cases hv with
   | agg hn hv => exact .agg (hn.trans hl.symm) fun k hk => ih k (by omega) _ (hv k (by omega))
 | tuple hl h ih =>
   intro v hv
   cases hv with
   | tuple hn hv => exact .tuple (hn.trans hl.symm) fun k hk => ih k (by omega) _ (hv k (by omega))
 | @rptr n st i j f g hl h ih =>
   intro v hv
   cases hv with
   | rptr hi hb hsz hf hh =>
     exact .rptr (hle.imm _ hi) ((hle.keep _ hi).trans hb) hsz (fun k hk => hl k hk (hf k hk)) (fun k l hk hl2 => ih k l hk hl2 _ (hh k l hk hl2))
 | func hl hm h h' ih ih' =>
   intro v hv
   cases hv with
   | func hn hn' h1 h2 => exact .func (hn.trans hl.symm) (hn'.trans hm.symm) (fun k hk => ih k (by omega) _ (h1 k (by omega))) (fun k hk => ih' k (by omega) _ (h2 k (by omega)))

def Lb (id st n : Nat) (f : Nat → List AV) (x y : AV) : Prop := ∃ i j, x = .ref id 0 st i j ∧ y = .rptr n st f i j
def Lr (id st n : Nat) (f : Nat → List AV) (x y : AV) : Prop := x = .sl id st n ∧ ∃ g, (∀ i, i < n → f i = g i) ∧ y = .rsl n st g

end Go.V
end
section
set_option linter.unusedVariables false
set_option linter.unusedSimpArgs false
namespace Go.V
set_option linter.unusedSectionVars false
variable [Inhabited GivT]
theorem Ent.step {s : Fr} {ds : List AD} {H : Hp} {K : Fr → List AD → Hp → Prop} (h : Ent s ds H fun s ds H => Ent s ds H K) : Ent s ds H K := Ent.bind h fun _ _ _ h => h
end Go.V
end
section
set_option linter.unusedVariables false
namespace Go.V
set_option linter.unusedSectionVars false
variable [Inhabited GivT]
/-- l is an order of all operations that are not in 'done', each behind what B puts ahead of it. -/
structure TopoB (ops : Array Oper) (B : Nat → Nat → Bool) (done : Nat → Prop) (l : List Nat) : Prop where
 lt : ∀ i ∈ l, i < ops.size
 nodup : l.Nodup
 apart : ∀ i ∈ l, ¬ done i
 all : ∀ i, i < ops.size → done i ∨ i ∈ l
 edges : ∀ l1 i l2, l = l1 ++ i :: l2 → ∀ k, B i k = true → done k ∨ k ∈ l1
theorem TopoB.tail {ops : Array Oper} {B : Nat → Nat → Bool} {done : Nat → Prop} {i : Nat} {l : List Nat} (h : TopoB ops B done (i :: l)) : TopoB ops B (fun j => done j ∨ j = i) l where
 lt := fun j hj => h.lt j (by simp [hj])
 nodup := (List.nodup_cons.1 h.nodup).2
 apart := fun j hj hd => by
  rcases hd with hd | rfl
  ·exact h.apart j (by simp [hj]) hd
  ·exact (List.nodup_cons.1 h.nodup).1 hj
 all := fun j hj => by
  rcases h.all j hj with hd | hm
  ·exact .inl (.inl hd)
  ·rcases List.mem_cons.1 hm with rfl | hm
   ·exact .inl (.inr rfl)
   ·exact .inr hm
 edges := fun l1 j l2 hl k hb => by
  rcases h.edges (i :: l1) j l2 (by rw [hl]; rfl) k hb with hd | hm
  ·exact .inl (.inl hd)
  ·rcases List.mem_cons.1 hm with hm | hm
   ·exact .inl (.inr hm)
   ·exact .inr hm
theorem TopoB.head {ops : Array Oper} {B : Nat → Nat → Bool} {done : Nat → Prop} {i k : Nat} {l : List Nat} (h : TopoB ops B done (i :: l)) (hb : B i k = true) : done k := by
 rcases h.edges [] i l rfl k hb with hd | hm
 ·exact hd
 ·simp at hm

structure Plan3 (ops : Array Oper) (B : Nat → Nat → Bool) (sg : Nat → Nat) (stages : List Stg) (last : List Nat) : Prop where
 ssa : ∀ i k, i < ops.size → k < ops.size → ∀ d, (opAt ops.toList k).dst = some d → (d ∈ readsOf ops.toList (opAt ops.toList i) → B i k = true ∨ (B k i = true ∧ sg k % 2 = 1)) ∧ (k ≠ i → (opAt ops.toList i).dst ≠ some d)
 st : ∀ j st kp e, stages[j]? = some (st, kp, e) → st = (List.range ops.size).filter (fun i => sg i == 2 * j) ∧ e < ops.size ∧ (∀ i, i < ops.size → (sg i = 2 * j + 1 ↔ i = e)) ∧
  (∀ i, i < ops.size → 2 * j + 2 ≤ sg i → B i e = true) ∧
  (∀ i, i < ops.size → sg i % 2 = 0 → sg i ≤ 2 * j → B e i = true ∨ heapFree (opAt ops.toList i).op = true ∨ i ∈ kp)
 last : last = (List.range ops.size).filter (fun i => sg i == 2 * stages.length)
 le : ∀ i, i < ops.size → sg i ≤ 2 * stages.length
 ord : ∀ i k, i < ops.size → k < ops.size → B i k = true → sg k ≤ sg i
 lt : ∀ i k, i < ops.size → k < ops.size → B i k = true → sg i = sg k → sg i % 2 = 0 → k < i

def ordersOf (all : List Oper) : Nat → List Nat → List (List Nat)
 | 0, _ => [[]]
 | n + 1, rem => rem.flatMap fun e => if rem.any (fun k => bitM all e k) = true then [] else (ordersOf all n (rem.filter fun k => k != e)).map (e :: ·)
/-- What stands ahead of an operation, where the effects come in this order. -/
def bitE (all : List Oper) (E : List Nat) (i k : Nat) : Bool := bitM all i k || E.any fun eb => (i == eb || bitM all i eb) && (E.takeWhile fun x => x != eb).any fun ea => k == ea || bitM all ea k
theorem Topo.before {ops : Array Oper} {l : List Nat} (h : Topo ops (fun _ => False) l) {j i : Nat} (ha : Anc ops j i) : ∀ l1 l2, l = l1 ++ i :: l2 → j ∈ l1 := by
 induction ha with
 | edge ho he hb hj =>
   intro l1 l2 hl
   subst hj
   exact (h.edges l1 _ l2 hl _ ho _ he hb).resolve_left id
 | trans h1 h2 ih1 ih2 =>
   intro l1 l2 hl
   obtain ⟨a, b, rfl⟩ := List.append_of_mem (ih2 l1 l2 hl)
   have := ih1 a (b ++ _ :: l2) (by rw [hl, List.append_assoc]; rfl)
   exact List.mem_append_left _ this
abbrev Pln := List Nat × List Stg × List Nat
def plan3Ok (ops : Array Oper) (E : List Nat) (sg : List Nat) (stages : List Stg) (last : List Nat) : Bool :=
 decide (stages.map (fun x => x.2.2) = E) &&
 ((List.range ops.size).all fun i => (List.range ops.size).all fun k => match (opAt ops.toList k).dst with
   | some d => (!(readsOf ops.toList (opAt ops.toList i)).contains d || bitE ops.toList E i k || (bitE ops.toList E k i && sg.getD k 0 % 2 == 1)) && (decide (k = i) || decide ((opAt ops.toList i).dst ≠ some d))
   | none => true) &&
 ((List.range stages.length).all fun j => match stages[j]? with
   | some (st, kp, e) => decide (st = (List.range ops.size).filter fun i => sg.getD i 0 == 2 * j) && decide (e < ops.size) &&
    ((List.range ops.size).all fun i => decide (sg.getD i 0 = 2 * j + 1) == decide (i = e)) &&
    ((List.range ops.size).all fun i => decide (sg.getD i 0 < 2 * j + 2) || bitE ops.toList E i e) &&
    ((List.range ops.size).all fun i => sg.getD i 0 % 2 == 1 || decide (2 * j < sg.getD i 0) || bitE ops.toList E e i || heapFree (opAt ops.toList i).op || kp.contains i)
   | none => true) &&
 decide (last = (List.range ops.size).filter fun i => sg.getD i 0 == 2 * stages.length) &&
 ((List.range ops.size).all fun i => decide (sg.getD i 0 ≤ 2 * stages.length)) &&
 ((List.range ops.size).all fun i => (List.range ops.size).all fun k => !bitE ops.toList E i k || (decide (sg.getD k 0 ≤ sg.getD i 0) && (decide (sg.getD i 0 ≠ sg.getD k 0) || decide (sg.getD i 0 % 2 ≠ 0) || decide (k < i))))

/-- A region whose order is open: a plan for each order of its effects. -/
def draw3Ok (P : Program) (ops : Array Oper) (effs : List Nat) (plans : List Pln) : Bool :=
 (P.follows .mixedOrders || !Region.departs ops) &&
 ((List.range ops.size).all fun k => match ops[k]? with
   | some o => o.after.toList.all fun e => !Region.binds .any e || decide (e.on < k)
   | none => true) &&
 effs.all (fun e => decide (e < ops.size)) && decide effs.Nodup &&
 (ordersOf ops.toList effs.length effs).all fun E => plans.any fun p => plan3Ok ops E p.1 p.2.1 p.2.2

section
variable {r : Option Nat} {P : Program} {m : Option Tmp → Bool} {n : Nat} {k : List It} {s : Fr} {ds : List AD} {H : Hp} {Q : Post}
end
end Go.V
end
section
set_option linter.unusedVariables false
namespace Go.V
set_option linter.unusedSectionVars false
variable [Inhabited GivT]
def CutS {σ : Type} (inv : σ → Prop) (fr : σ → List (Nat × AV)) (hp : σ → Hp) (ds0 : List AD) : Post := fun e s ds H => match e with
 | .normal => Ent s ds H fun s2 ds2 H2 => ∃ x, inv x ∧ s2 = Fr.of (fr x) ∧ ds2 = ds0 ∧ H2 = hp x
 | _ => False
section
variable {P : Program} {m : Option Tmp → Bool} {n : Nat} {k : List It} {s : Fr} {ds : List AD} {H : Hp} {Q : Post}
end
end Go.V
end
section
set_option linter.unusedVariables false
namespace Go.V
set_option linter.unusedSectionVars false
variable [Inhabited GivT]
theorem Tri.args {P : Program} {fv : AV} {args args' : List AV} {H : Hp} {R : Res → Hp → Prop} (t : Tri P fv args' H R) (hl : args'.length = args.length) (h : ∀ k, k < args.length → AV.Le (args.getD k .any) (args'.getD k .any)) : Tri P fv args H R :=
 fun S vf vs hH hf ha => t S vf vs hH hf ⟨by rw [ha.1, hl], fun k hk => h k (by omega) S _ (ha.2 k (by omega))⟩
end Go.V
end
section
set_option linter.unusedVariables false
namespace Go.V
set_option linter.unusedSectionVars false
variable [Inhabited GivT]
def CutG {σ : Type} (inv : σ → Prop) (fr : σ → List (Nat × AV)) (hp : σ → Hp) (dsf : σ → List AD) (Q : Post) : Post := fun e s ds H => match e with
 | .normal => Ent s ds H fun s2 ds2 H2 => ∃ x, inv x ∧ s2 = Fr.of (fr x) ∧ ds2 = dsf x ∧ H2 = hp x
 | e => Q e s ds H
section
variable {r : Option Nat} {P : Program} {m : Option Tmp → Bool} {n : Nat} {s : Fr} {ds : List AD} {H : Hp} {Q : Post} {σ : Type} {inv : σ → Prop} {fr : σ → List (Nat × AV)} {hp : σ → Hp} {dsf : σ → List AD}
end
section
variable {r : Option Nat} {P : Program} {m : Option Tmp → Bool} {n : Nat} {s : Fr} {ds : List AD} {H : Hp} {Q : Post} {σ : Type} (inv : σ → Prop) (fr : σ → List (Nat × AV)) (hp : σ → Hp) (dsf : σ → List AD)
end
end Go.V
end
section
set_option linter.unusedVariables false
set_option linter.unusedSimpArgs false
namespace Go.V
set_option linter.unusedSectionVars false
variable [Inhabited GivT]
/-- The same value, with some leaves told otherwise, in rows too. -/
inductive FrzS (L : AV → AV → Prop) : AV → AV → Prop
 | same (x : AV) : FrzS L x x
 | leaf {x y : AV} (h : L x y) : FrzS L x y
 | agg {cs cs' : List AV} (hl : cs'.length = cs.length) (h : ∀ k, k < cs.length → FrzS L (cs.getD k .any) (cs'.getD k .any)) : FrzS L (.agg cs) (.agg cs')
 | rsl {n st : Nat} {f g : Nat → List AV} (hl : ∀ k, k < n → (f k).length = st → (g k).length = st) (h : ∀ k l, k < n → l < st → FrzS L ((f k).getD l .any) ((g k).getD l .any)) : FrzS L (.rsl n st f) (.rsl n st g)
theorem FrzS.conv {L : AV → AV → Prop} {S S2 : St} (hle : Le S S2) (hc : ∀ x y, L x y → ∀ v, VRel S x v → VRel S2 y v) {x y : AV} (hxy : FrzS L x y) : ∀ v, VRel S x v → VRel S2 y v := by
 induction hxy with
 | same x => intro v hv; exact hv.mono hle
 | leaf h => intro v hv; exact hc _ _ h v hv
 | agg hl h ih =>
   intro v hv
   cases hv with
   | agg hn hv => exact .agg (hn.trans hl.symm) fun k hk => ih k (by omega) _ (hv k (by omega))
 | @rsl n st f g hl h ih =>
   intro v hv
   cases hv with
   | rsl0 => exact .rsl0
   | rsl hi hb hsz hf hh hcap =>
     exact .rsl (hle.imm _ hi) ((hle.keep _ hi).trans hb) hsz (fun k hk => hl k hk (hf k hk)) (fun k l hk hl2 => ih k l hk hl2 _ (hh k l hk hl2)) hcap
/-- What slots hold, slot by slot. -/
inductive FrzL (L : AV → AV → Prop) : List (Nat × AV) → List (Nat × AV) → Prop
 | nil : FrzL L [] []
 | cons {t : Nat} {v v' : AV} {l l' : List (Nat × AV)} (h : FrzS L v v') (k : FrzL L l l') : FrzL L ((t, v) :: l) ((t, v') :: l')
theorem FrzL.refl {L : AV → AV → Prop} : ∀ l : List (Nat × AV), FrzL L l l
 | [] => .nil
 | (_, v) :: l => .cons (.same v) (FrzL.refl l)
theorem FrzL.fr {L : AV → AV → Prop} {l l' : List (Nat × AV)} (h : FrzL L l l') : ∀ t, FrzS L (Fr.of l t) (Fr.of l' t) := by
 intro t
 induction h with
 | nil => exact .same _
 | cons hv _ ih =>
   simp only [Fr.of]
   split
   ·exact hv
   ·exact ih
end Go.V
end
section
set_option linter.unusedVariables false
set_option linter.unusedSimpArgs false
namespace Go.V
set_option linter.unusedSectionVars false
variable [Inhabited GivT]
theorem kl_int {P : Program} {d : Nat} {T : TypeId} {q : IntKind} {n : Int} (hu : P.underlying T = some (.int q)) (hw : (Lit.int q n).wf = true) : P.keyLits (d + 1) T [.int q n] = some [.int q n] := by
 simp [Program.keyLits, hu, hw]
end Go.V
end
section
set_option linter.unusedVariables false
set_option linter.unusedSimpArgs false
namespace Go.V
set_option linter.unusedSectionVars false
variable [Inhabited GivT]
def slcT (P : Program) (T : TypeId) : Bool := match P.underlying T with
 | some (.slice _) => true
 | _ => false
section
variable {P : Program} {m : Option Tmp → Bool} {n id : Nat} {ops : Array Oper} {s : Fr} {ds : List AD} {H : Hp} {Q : Post}
end
end Go.V
end
section
set_option linter.unusedVariables false
namespace Go.Proofs.YtkcgocmjaggdiaaGreat.Wl
open Go.V
instance : Inhabited GivT := ⟨⟨[]⟩⟩

/-- A sounding. -/
structure Sd where
 w : Int
 a : Int
 b : Int
 c : Int
 d : Int

/-- A hold. -/
structure Hd where
 n : Nat
 fl : Nat → Int
 m : Nat
 sd : Nat → Sd

abbrev Sd.cs (s : Sd) : List AV := [i64 s.w, i64 s.a, i64 s.b, i64 s.c, i64 s.d]
abbrev flAV (n : Nat) (fl : Nat → Int) : AV := .rsl n 1 fun i => [i64 (fl i)]
abbrev sdAV (m : Nat) (sd : Nat → Sd) : AV := .rsl m 5 fun i => (sd i).cs
abbrev Hd.cs (h : Hd) : List AV := [flAV h.n h.fl, sdAV h.m h.sd]
abbrev Hd.av (h : Hd) : AV := .agg h.cs

def b64 (n : Int) : Prop := -9223372036854775808 ≤ n ∧ n ≤ 9223372036854775807

/-- The depth in a part, under a surface. -/
def uz (h : Hd) (s t p : Int) : Int := max 0 (s + t * (p - (h.n : Int) / 2) - h.fl p.toNat)
/-- The water under a surface, in the first parts. -/
def volN (h : Hd) (s t : Int) : Nat → Int
 | 0 => 0
 | k + 1 => volN h s t k + uz h s t k
def vol (h : Hd) (s t : Int) : Int := volN h s t h.n
/-- How high so much water stands. -/
def hzF (h : Hd) (w t : Int) : Nat → Int → Int
 | 0, s => s
 | k + 1, s => if vol h (s + 1) t ≤ w then hzF h w t k (s + 1) else s
def hz (h : Hd) (w t : Int) : Int := hzF h w t 140 (-20)
/-- The depth in a part, of so much water. -/
def dz (h : Hd) (w t p : Int) : Int := uz h (hz h w t) t p
/-- Can a sounding have been made with a list, of so much water? -/
def rightB (h : Hd) (s : Sd) (w t : Int) : Bool := decide (s.a ≤ t) && decide (t ≤ s.b) && (decide (s.c ≤ dz h w t s.w) && decide (dz h w t s.w ≤ s.d))
/-- One of the first k lists. -/
def anyN (h : Hd) (s : Sd) (w : Int) (k : Nat) : Bool := (List.range k).any fun j => rightB h s w ((j : Int) - 2)
def okc (h : Hd) (w : Int) (S i : Nat) : Bool := !S.testBit i || anyN h (h.sd i) w 5
def canB (h : Hd) (w : Int) (S : Nat) : Bool := decide (∀ i, i < h.m → okc h w S i = true)
def amtsN (h : Hd) (S n : Nat) : List Nat := (List.range n).filter fun w => canB h w S
def amts (h : Hd) (S : Nat) : List Nat := amtsN h S 101
theorem amtsN_succ (h : Hd) (S n : Nat) : amtsN h S (n + 1) = if canB h n S then amtsN h S n ++ [n] else amtsN h S n := by
 simp only [amtsN, List.range_succ, List.filter_append, List.filter_cons, List.filter_nil]
 cases canB h n S <;> simp
/-- A list of numbers. -/
def natF (l : List Nat) : Nat → List AV := fun i => [i64 ((l.getD i 0 : Nat) : Int)]
abbrev natsAV (l : List Nat) : AV := .rsl l.length 1 (natF l)
theorem natF_at (l : List Nat) (i : Nat) : natF l i = [i64 ((l.getD i 0 : Nat) : Int)] := rfl
def spanF (l : List (Int × Int)) : Nat → List AV := fun i => [i64 (l.getD i (0, 0)).1, i64 (l.getD i (0, 0)).2]
abbrev spansAV (l : List (Int × Int)) : AV := .rsl l.length 2 (spanF l)
theorem spanF_at (l : List (Int × Int)) (i : Nat) : spanF l i = [i64 (l.getD i (0, 0)).1, i64 (l.getD i (0, 0)).2] := rfl
theorem app_spans (l : List (Int × Int)) (a b : Int) (g : Nat → List AV) (hg : g 0 = [i64 a, i64 b]) : appF l.length 1 (spanF l) g = spanF (l ++ [(a, b)]) := by
 funext k
 simp only [appF, spanF, hg, getD_snoc]
 split <;> rfl
theorem app_nats (l : List Nat) (w : Nat) (g : Nat → List AV) (hg : g 0 = [i64 w]) : appF l.length 1 (natF l) g = natF (l ++ [w]) := by
 funext k
 simp only [appF, natF, hg]
 by_cases h : k = l.length
 ·subst h; simp
 ·rw [if_neg h]
  by_cases h2 : k < l.length
  ·rw [List.getD_eq_getElem?_getD, List.getD_eq_getElem?_getD, List.getElem?_append_left h2]
  ·rw [List.getD_eq_getElem?_getD, List.getD_eq_getElem?_getD, List.getElem?_eq_none (by omega), List.getElem?_eq_none (by simp; omega)]


/-- A valid hold's numbers. -/
structure HOk (h : Hd) : Prop where
 n : h.n = 3 ∨ h.n = 5 ∨ h.n = 7
 m : h.m ≤ 6
 f : ∀ p : Nat, p < h.n → 0 ≤ h.fl p ∧ h.fl p ≤ 9
 w : ∀ i : Nat, i < h.m → 0 ≤ (h.sd i).w ∧ (h.sd i).w < h.n
 l : ∀ i : Nat, i < h.m → -2 ≤ (h.sd i).a ∧ (h.sd i).a ≤ (h.sd i).b ∧ (h.sd i).b ≤ 2
 r : ∀ i : Nat, i < h.m → 0 ≤ (h.sd i).c ∧ (h.sd i).c ≤ (h.sd i).d ∧ (h.sd i).d ≤ 40

theorem HOk.fi {h : Hd} (k : HOk h) (p : Int) (hp : 0 ≤ p ∧ p < h.n) : 0 ≤ h.fl p.toNat ∧ h.fl p.toNat ≤ 9 := k.f _ (by omega)

/-- No far too many parts or soundings. -/
structure Near (h : Hd) : Prop where
 n : h.n ≤ 40
 m : h.m ≤ 40
theorem HOk.near {h : Hd} (k : HOk h) : Near h := ⟨by have := k.n; omega, by have := k.m; omega⟩

instance decHOk (h : Hd) : Decidable (HOk h) :=
 decidable_of_iff ((h.n = 3 ∨ h.n = 5 ∨ h.n = 7) ∧ h.m ≤ 6 ∧ (∀ p, p < h.n → 0 ≤ h.fl p ∧ h.fl p ≤ 9) ∧ (∀ i, i < h.m → 0 ≤ (h.sd i).w ∧ (h.sd i).w < h.n) ∧
  (∀ i, i < h.m → -2 ≤ (h.sd i).a ∧ (h.sd i).a ≤ (h.sd i).b ∧ (h.sd i).b ≤ 2) ∧ (∀ i, i < h.m → 0 ≤ (h.sd i).c ∧ (h.sd i).c ≤ (h.sd i).d ∧ (h.sd i).d ≤ 40))
  ⟨fun ⟨a, b, c, d, e, f⟩ => ⟨a, b, c, d, e, f⟩, fun ⟨a, b, c, d, e, f⟩ => ⟨a, b, c, d, e, f⟩⟩
def allA (h : Hd) : List Nat := amts h (2 ^ h.m - 1)
def errE (h : Hd) (valid truth : Bool) : Int := if HOk h then if valid = true then if truth = true ∧ (allA h).length = 0 then 10 else 0 else 2 else 1
def amtB (w : Int) : Bool := decide (0 ≤ w) && decide (w ≤ 100)
def tiltB (t : Int) : Bool := decide (-2 ≤ t) && decide (t ≤ 2)
def partB (h : Hd) (p : Int) : Bool := decide (0 ≤ p) && decide (p ≤ (h.n : Int) - 1)
def sdnB (h : Hd) (p : Int) : Bool := decide (0 ≤ p) && decide (p ≤ (h.m : Int) - 1)
theorem tiltB_iff (w : Int) : tiltB w = true ↔ -2 ≤ w ∧ w ≤ 2 := by simp [tiltB]
theorem partB_iff (h : Hd) (p : Int) : partB h p = true ↔ 0 ≤ p ∧ p < h.n := by simp [partB]; omega
theorem errE_zero {h : Hd} {v t : Bool} (e : errE h v t = 0) : HOk h ∧ v = true ∧ (t = true → 0 < (allA h).length) := by
 unfold errE at e
 split at e
 ·split at e
  ·split at e
   ·omega
   ·rename_i h1 h2 h3
    exact ⟨h1, h2, fun ht => by apply Classical.byContradiction; intro hc; exact h3 ⟨ht, by omega⟩⟩
  ·omega
 ·omega

/-- One amount more: it lengthens the last span, or begins one. -/
def addS (acc : List (Int × Int)) (a : Int) : List (Int × Int) := match acc.getLast? with
 | some p => if p.2 = a - 1 then acc.dropLast ++ [(p.1, a)] else acc ++ [(a, a)]
 | none => acc ++ [(a, a)]
def spansL (l : List Nat) : List (Int × Int) := l.foldl (fun acc (a : Nat) => addS acc a) []
theorem spansL_snoc (l : List Nat) (a : Nat) : spansL (l ++ [a]) = addS (spansL l) a := by simp only [spansL, List.foldl_append, List.foldl_cons, List.foldl_nil]
theorem addS_len (acc : List (Int × Int)) (a : Int) : (addS acc a).length ≤ acc.length + 1 := by
 unfold addS
 split
 ·split
  ·simp
  ·simp
 ·simp
theorem spansL_len (l : List Nat) : (spansL l).length ≤ l.length := by
 suffices h : ∀ (l : List Nat) (acc : List (Int × Int)), (l.foldl (fun acc (a : Nat) => addS acc a) acc).length ≤ acc.length + l.length by
  have := h l []; simpa [spansL] using this
 intro l
 induction l with
 | nil => intro acc; simp
 | cons a l ih =>
   intro acc
   simp only [List.foldl_cons, List.length_cons]
   have := ih (addS acc a)
   have := addS_len acc a
   omega
theorem amts_le {h : Hd} {S w : Nat} (hw : w ∈ amts h S) : w ≤ 100 := by
 simp only [amts, amtsN, List.mem_filter, List.mem_range] at hw; omega
theorem amts_len (h : Hd) (S : Nat) : (amts h S).length ≤ 101 := by
 have := List.length_filter_le (fun w : Nat => canB h w S) (List.range 101)
 rw [List.length_range] at this
 exact this

end Go.Proofs.YtkcgocmjaggdiaaGreat.Wl
end
section
set_option linter.unusedVariables false
set_option linter.unusedSimpArgs false
set_option maxHeartbeats 4000000
set_option maxRecDepth 100000
namespace Go.Proofs.YtkcgocmjaggdiaaGreat.Wl
open Go.V
theorem in_tri (n low high : Int) (H : Hp) : PTri Tryz.prog (fnA 43) [i64 n, i64 low, i64 high] H (boo (decide (low ≤ n) && decide (n ≤ high))) := by
 refine tri_v0 (fun _ => false) Tryz.func43 (by kernel_rfl) rfl (by simp only [List.length_append, List.length_cons, List.length_nil, Tryz.ntmps43]; decide) ?_
 simp only [vsAll, binA, binLitA, intA, pickA, opA, guardV, dstOk, nilSliceOp, resA, argFr, retA.eq_1, Nat.reduceLT, Nat.reduceEqDiff, ↓reduceIte, reduceCtorEq, implies_true, eq_self, Tryz.ntmps43, Tryz.results43]

theorem span_tri (a b low high : Int) (H : Hp) : PTri Tryz.prog (fnA 44) [.agg [i64 a, i64 b], i64 low, i64 high] H (boo (decide (low ≤ a) && decide (a ≤ b) && decide (b ≤ high))) := by
 refine tri_v0 (fun _ => false) Tryz.func44 (by kernel_rfl) rfl (by simp only [List.length_append, List.length_cons, List.length_nil, Tryz.ntmps44]; decide) ?_
 simp only [vsAll, binA, binLitA, intA, loadA, loadRow, partA, partOk, fieldAddrA, boxA, boxZ, pickA, opA, guardV, dstOk, nilSliceOp, resA, argFr, retA.eq_1, Nat.reduceAdd, Nat.reduceLT, Nat.reduceEqDiff, ↓reduceIte, implies_true, eq_self, wtAll, Tryz.ntmps44, Tryz.results44]

theorem mul_small (t k : Int) (ht : -2 ≤ t ∧ t ≤ 2) (hk : -7 ≤ k ∧ k ≤ 7) : -14 ≤ t * k ∧ t * k ≤ 14 := by
 have : t = -2 ∨ t = -1 ∨ t = 0 ∨ t = 1 ∨ t = 2 := by omega
 rcases this with rfl | rfl | rfl | rfl | rfl <;> omega

theorem under_tri (h : Hd) (s t p : Int) (H : Hp) (k : HOk h) (hp : 0 ≤ p ∧ p < h.n) (hs : -1000 ≤ s ∧ s ≤ 1000) (ht : -2 ≤ t ∧ t ≤ 2) :
 PTri Tryz.prog (fnA 91) [h.av, i64 s, i64 t, i64 p] H (i64 (uz h s t p)) := by
 refine tri_v0 (fun _ => false) Tryz.func91 (by kernel_rfl) rfl (by simp only [List.length_append, List.length_cons, List.length_nil, Tryz.ntmps91]; decide) ?_
 simp only [vsAll, boxA, boxZ, opA, dstOk, nilSliceOp, argFr, Nat.reduceAdd, Nat.reduceLT, eq_self, wtAll, Tryz.ntmps91]
 refine vs_draw 18 (by decide +kernel) ?_
 simp only [vsAll, binA, binLitA, intA, loadA, loadRow, partA, partOk, fieldAddrA, indexAddrA, lenA, mmA, okAll, stAll, opsA, opA, dstOk, resA, argFr, retA.eq_1, Nat.reduceLT, Nat.reduceEqDiff, Int.reduceEq, ↓reduceIte, eq_self, ne_eq, wtAll, Tryz.results91]
 have hf := k.fi p hp
 have hn := k.n
 have e : (h.n : Int).tdiv 2 = (h.n : Int) / 2 := Int.tdiv_eq_ediv_of_nonneg (by omega)
 have hm := mul_small t (p - (h.n : Int) / 2) ht (by omega)
 simp only [e, InR_i64, uz, and_true]
 omega

theorem uz_bound (h : Hd) (s t p : Int) (k : HOk h) (hp : 0 ≤ p ∧ p < h.n) (ht : -2 ≤ t ∧ t ≤ 2) : 0 ≤ uz h s t p ∧ uz h s t p ≤ max 0 (s + 14) := by
 have hf := k.fi p hp
 have hn := k.n
 have hm := mul_small t (p - (h.n : Int) / 2) ht (by omega)
 simp only [uz]
 omega

theorem volN_bound (h : Hd) (s t : Int) (k : HOk h) (hs : -1000 ≤ s ∧ s ≤ 1000) (ht : -2 ≤ t ∧ t ≤ 2) (i : Nat) (hi : i ≤ h.n) : 0 ≤ volN h s t i ∧ volN h s t i ≤ 1014 * i := by
 induction i with
 | zero => simp [volN]
 | succ i ih =>
   have := ih (by omega)
   have h2 := uz_bound h s t i k (by omega) ht
   simp only [volN, Int.natCast_add, Int.natCast_one]
   omega

theorem volume_tri (h : Hd) (s t : Int) (H : Hp) (k : HOk h) (hs : -1000 ≤ s ∧ s ≤ 1000) (ht : -2 ≤ t ∧ t ≤ 2) :
 PTri Tryz.prog (fnA 93) [h.av, i64 s, i64 t] H (i64 (vol h s t)) := by
 refine tri_v0 (fun _ => false) Tryz.func93 (by kernel_rfl) rfl (by simp only [List.length_append, List.length_cons, List.length_nil, Tryz.ntmps93]; decide) ?_
 simp only [vsAll, boxA, boxZ, opA, dstOk, nilSliceOp, argFr, Nat.reduceAdd, Nat.reduceLT, eq_self, wtAll, Tryz.ntmps93]
 have hn := k.n
 refine vs_loop (σ := Nat) (fun i => i ≤ h.n) (fun i => [(1, i64 s), (2, i64 t), (3, .rptr 1 2 (fun _ => h.cs) 0 0), (7, i64 (volN h s t i)), (8, i64 i)]) (fun _ => H) (fun i => h.n - i) 0 (Nat.zero_le _) ?_ ?_ fun i hi => ?_
 ·simp only [vsAll, argFr, Nat.reduceEqDiff, ↓reduceIte, eq_self, volN, Int.natCast_zero]
 ·simp only [HSub_refl]
 ·simp only [vsAll, binA, binLitA, intA, loadA, loadRow, partA, partOk, fieldAddrA, lenA, opA, dstOk, Nat.reduceLT, Nat.reduceEqDiff, ↓reduceIte, eq_self, wtAll]
  refine condD (fun hb => ?_) (fun hb => ?_)
  ·simp only [vsAll, loadA, loadRow, partA, partOk, okAll, stAll, opsA, opA, dstOk, Nat.reduceLT, Nat.reduceEqDiff, ↓reduceIte, eq_self, wtAll]
   refine callK_pure (under_tri h s t i H k (by omega) hs ht) ?_
   simp only [vsAll, binA, binLitA, intA, opA, dstOk, nilSliceOp, Nat.reduceLT, Nat.reduceEqDiff, ↓reduceIte, eq_self]
   have hv := volN_bound h s t k hs ht i hi
   have hv2 := volN_bound h s t k hs ht (i+1) (by omega)
   simp only [volN, InR_i64] at hv2 ⊢
   refine ⟨by omega, by omega, loop_next (i + 1) (by omega) (by omega) ?_ ?_⟩
   ·simp only [vsAll, Nat.reduceEqDiff, ↓reduceIte, eq_self, volN, Int.natCast_add, Int.natCast_one]
   ·simp only [HSub_refl]
  ·have e : i = h.n := by omega
   simp only [vsAll, opA, dstOk, nilSliceOp, resA, retA.eq_1, Nat.reduceLT, Nat.reduceEqDiff, ↓reduceIte, eq_self, Tryz.results93, e, vol]

end Go.Proofs.YtkcgocmjaggdiaaGreat.Wl
end
section
set_option linter.unusedVariables false
set_option linter.unusedSimpArgs false
set_option maxHeartbeats 4000000
set_option maxRecDepth 100000
namespace Go.Proofs.YtkcgocmjaggdiaaGreat.Wl
open Go.V
theorem uz_mono (h : Hd) (s s' t p : Int) (hs : s ≤ s') : uz h s t p ≤ uz h s' t p := by
 simp only [uz]; omega
theorem volN_mono (h : Hd) (s s' t : Int) (hs : s ≤ s') (i : Nat) : volN h s t i ≤ volN h s' t i := by
 induction i with
 | zero => simp [volN]
 | succ i ih => have := uz_mono h s s' t i hs; simp only [volN]; omega
theorem vol_mono (h : Hd) (s s' t : Int) (hs : s ≤ s') : vol h s t ≤ vol h s' t := volN_mono h s s' t hs _
theorem volN_part (h : Hd) (s t : Int) (k : HOk h) (ht : -2 ≤ t ∧ t ≤ 2) (p i : Nat) (hp : p < i) (hi : i ≤ h.n) : uz h s t p ≤ volN h s t i := by
 induction i with
 | zero => omega
 | succ i ih =>
   have h0 : ∀ j : Nat, j ≤ h.n → 0 ≤ volN h s t j := fun j hj => by
    clear ih
    induction j with
    | zero => simp [volN]
    | succ j ih2 => have := ih2 (by omega); have := uz_bound h s t j k (by omega) ht; simp only [volN]; omega
   have h1 := uz_bound h s t i k (by omega) ht
   simp only [volN]
   by_cases e : p = i
   ·subst e; have := h0 p (by omega); omega
   ·have := ih (by omega) (by omega); omega
theorem vol_big (h : Hd) (s t : Int) (k : HOk h) (ht : -2 ≤ t ∧ t ≤ 2) (hs : 110 ≤ s) : 100 < vol h s t := by
 have hn := k.n
 have h1 := volN_part h s t k ht (h.n / 2) h.n (by omega) (Nat.le_refl _)
 have h2 := k.f (h.n / 2) (by omega)
 have e : ((h.n / 2 : Nat) : Int) - (h.n : Int) / 2 = 0 := by omega
 simp only [uz, e, Int.mul_zero, Int.toNat_natCast] at h1
 simp only [vol]
 omega
theorem vol_low (h : Hd) (s t : Int) (k : HOk h) (ht : -2 ≤ t ∧ t ≤ 2) (hs : s ≤ -14) : vol h s t = 0 := by
 have : ∀ i : Nat, i ≤ h.n → volN h s t i = 0 := fun i hi => by
  induction i with
  | zero => rfl
  | succ i ih => have := uz_bound h s t i k (by omega) ht; simp only [volN, ih (by omega)]; omega
 exact this _ (Nat.le_refl _)
theorem hzF_spec (h : Hd) (w t : Int) (k : HOk h) (ht : -2 ≤ t ∧ t ≤ 2) (hw : 0 ≤ w ∧ w ≤ 100) (f : Nat) (s : Int) (hs : vol h s t ≤ w) (hl : -20 ≤ s) (hf : 110 ≤ s + f) :
 -20 ≤ hzF h w t f s ∧ hzF h w t f s ≤ 110 ∧ vol h (hzF h w t f s) t ≤ w ∧ w < vol h (hzF h w t f s + 1) t := by
 induction f generalizing s with
 | zero => have := vol_big h s t k ht (by omega); omega
 | succ f ih =>
   simp only [hzF]
   split
   ·rename_i h1; exact ih (s + 1) h1 (by omega) (by omega)
   ·rename_i h1
    refine ⟨hl, ?_, hs, by omega⟩
    apply Classical.byContradiction; intro h2
    have := vol_big h s t k ht (by omega); omega
theorem hz_spec (h : Hd) (w t : Int) (k : HOk h) (ht : -2 ≤ t ∧ t ≤ 2) (hw : 0 ≤ w ∧ w ≤ 100) :
 -20 ≤ hz h w t ∧ hz h w t ≤ 110 ∧ vol h (hz h w t) t ≤ w ∧ w < vol h (hz h w t + 1) t := by
 have h1 := vol_low h (-20) t k ht (by omega)
 exact hzF_spec h w t k ht hw 140 (-20) (by omega) (by omega) (by omega)
theorem hz_unique (h : Hd) (w t s : Int) (k : HOk h) (ht : -2 ≤ t ∧ t ≤ 2) (hw : 0 ≤ w ∧ w ≤ 100) (h1 : vol h s t ≤ w) (h2 : w < vol h (s + 1) t) : s = hz h w t := by
 obtain ⟨_, _, h3, h4⟩ := hz_spec h w t k ht hw
 apply Classical.byContradiction; intro hne
 by_cases hlt : s < hz h w t
 ·have := vol_mono h (s + 1) (hz h w t) t (by omega); omega
 ·have := vol_mono h (hz h w t + 1) s t (by omega); omega

theorem high_tri (h : Hd) (w t : Int) (H : Hp) (k : HOk h) (hw : 0 ≤ w ∧ w ≤ 100) (ht : -2 ≤ t ∧ t ≤ 2) :
 PTri Tryz.prog (fnA 92) [h.av, i64 w, i64 t] H (i64 (hz h w t)) := by
 refine tri_v0 (fun _ => false) Tryz.func92 (by kernel_rfl) rfl (by simp only [List.length_append, List.length_cons, List.length_nil, Tryz.ntmps92]; decide) ?_
 simp only [vsAll, boxA, boxZ, opA, dstOk, nilSliceOp, argFr, Nat.reduceAdd, Nat.reduceLT, Int.reduceNeg, eq_self, wtAll, Tryz.ntmps92]
 refine vs_loop (σ := Int) (fun s => -20 ≤ s ∧ s ≤ 110 ∧ vol h s t ≤ w) (fun s => [(1, i64 w), (2, i64 t), (3, .rptr 1 2 (fun _ => h.cs) 0 0), (7, i64 s)]) (fun _ => H) (fun s => (200 - s).toNat) (-20) ?_ ?_ ?_ fun s hs => ?_
 ·have := vol_low h (-20) t k ht (by omega); omega
 ·simp only [vsAll, argFr, Nat.reduceEqDiff, Int.reduceNeg, ↓reduceIte, eq_self]
 ·simp only [HSub_refl]
 ·obtain ⟨h1, h2, h3⟩ := hs
  simp only [vsAll, binA, binLitA, intA, loadA, loadRow, partA, partOk, okAll, stAll, opsA, opA, dstOk, Nat.reduceLT, Nat.reduceEqDiff, Int.reduceNeg, ↓reduceIte, eq_self, wtAll]
  refine ⟨by simp only [InR_i64]; omega, callK_pure (volume_tri h (s + 1) t H k (by omega) ht) ?_⟩
  simp only [vsAll, binA, binLitA, intA, opA, dstOk, Nat.reduceLT, Nat.reduceEqDiff, Int.reduceNeg, ↓reduceIte, eq_self]
  refine condD (fun hb => ?_) (fun hb => ?_)
  ·have hlt : s + 1 ≤ 110 := by
    apply Classical.byContradiction; intro h2
    have := vol_big h (s + 1) t k ht (by omega); omega
   simp only [vsAll, binA, binLitA, intA, opA, dstOk, nilSliceOp, Nat.reduceLT, Nat.reduceEqDiff, Int.reduceNeg, ↓reduceIte, eq_self]
   refine ⟨by simp only [InR_i64]; omega, loop_next (s + 1) ⟨by omega, by omega, hb⟩ (by omega) ?_ ?_⟩
   ·simp only [vsAll, Nat.reduceEqDiff, ↓reduceIte, eq_self]
   ·simp only [HSub_refl]
  ·have e := hz_unique h w t s k ht hw h3 (by omega)
   subst e
   simp only [vsAll, opA, dstOk, nilSliceOp, resA, retA.eq_1, Nat.reduceLT, Nat.reduceEqDiff, Int.reduceNeg, ↓reduceIte, eq_self, Tryz.results92]

theorem deep_tri (h : Hd) (w t p : Int) (H : Hp) (k : HOk h) (hw : 0 ≤ w ∧ w ≤ 100) (ht : -2 ≤ t ∧ t ≤ 2) (hp : 0 ≤ p ∧ p < h.n) :
 PTri Tryz.prog (fnA 90) [h.av, i64 w, i64 t, i64 p] H (i64 (dz h w t p)) := by
 have hz1 := hz_spec h w t k ht hw
 refine tri_v0 (fun _ => false) Tryz.func90 (by kernel_rfl) rfl (by simp only [List.length_append, List.length_cons, List.length_nil, Tryz.ntmps90]; decide) ?_
 simp only [vsAll, boxA, boxZ, opA, dstOk, nilSliceOp, argFr, Nat.reduceAdd, Nat.reduceLT, eq_self, wtAll, Tryz.ntmps90]
 refine vs_draw 9 (by decide +kernel) ?_
 simp only [vsAll, loadA, loadRow, partA, partOk, opA, dstOk, argFr, Nat.reduceLT, Nat.reduceEqDiff, ↓reduceIte, eq_self, wtAll]
 refine qcall _ ⟨trivial, by simp only [vsAll, okAll, opsA, opA, Nat.reduceEqDiff, ↓reduceIte, eq_self], high_tri h w t H k hw ht⟩ ?_
 simp only [vsAll, opA, dstOk, argFr, Nat.reduceLT, Nat.reduceEqDiff, ↓reduceIte, eq_self]
 refine qcall _ ⟨trivial, by simp only [vsAll, okAll, opsA, opA, Nat.reduceEqDiff, ↓reduceIte, eq_self], under_tri h _ t p H k hp (by omega) ht⟩ ?_
 simp only [vsAll, opA, dstOk, resA, retA.eq_1, Nat.reduceLT, ↓reduceIte, eq_self, Tryz.results90, dz]

theorem right_tri (h : Hd) (s : Sd) (w t : Int) (H : Hp) (k : HOk h) (hw : 0 ≤ w ∧ w ≤ 100) (ht : -2 ≤ t ∧ t ≤ 2) (hp : 0 ≤ s.w ∧ s.w < h.n) :
 PTri Tryz.prog (fnA 88) [h.av, .agg s.cs, i64 w, i64 t] H (boo (rightB h s w t)) := by
 refine tri_v0 (fun _ => false) Tryz.func88 (by kernel_rfl) rfl (by simp only [List.length_append, List.length_cons, List.length_nil, Tryz.ntmps88]; decide) ?_
 simp only [vsAll, loadA, loadRow, partA, partOk, fieldAddrA, boxA, boxZ, okAll, stAll, opsA, opA, dstOk, nilSliceOp, argFr, Nat.reduceAdd, Nat.reduceLT, Nat.reduceEqDiff, ↓reduceIte, eq_self, wtAll, Tryz.ntmps88]
 refine callK_pure (deep_tri h w t s.w H k hw ht hp) ?_
 simp only [vsAll, loadA, loadRow, partA, partOk, fieldAddrA, okAll, stAll, opsA, opA, dstOk, nilSliceOp, argFr, Nat.reduceAdd, Nat.reduceLT, Nat.reduceEqDiff, ↓reduceIte, eq_self, wtAll]
 refine callK_pure (in_tri t s.a s.b H) ?_
 simp only [vsAll, loadA, loadRow, partA, partOk, fieldAddrA, opA, guardV, dstOk, Nat.reduceAdd, Nat.reduceLT, Nat.reduceEqDiff, ↓reduceIte, implies_true, eq_self, wtAll]
 refine gcall _ (fun hg => ⟨trivial, by simp only [vsAll, okAll, opsA, opA, Nat.reduceEqDiff, ↓reduceIte, eq_self, hg], in_tri (dz h w t s.w) s.c s.d H⟩) ?_
 simp only [vsAll, pickA, opA, dstOk, nilSliceOp, resA, retA.eq_1, Nat.reduceLT, Nat.reduceEqDiff, ↓reduceIte, implies_true, eq_self, Tryz.results88, rightB]

theorem power_tri (n : Nat) (H : Hp) (hn : n ≤ 60) : PTri Tryz.prog (fnA 73) [i64 n] H (i64 ((2 ^ n : Nat) : Int)) := by
 refine tri_v0 (fun _ => false) Tryz.func73 (by kernel_rfl) rfl (by simp only [List.length_append, List.length_cons, List.length_nil, Tryz.ntmps73]; decide) ?_
 simp only [vsAll, opA, dstOk, nilSliceOp, Nat.reduceLT, eq_self, Tryz.ntmps73]
 refine vs_loop (σ := Nat) (fun i => i ≤ n) (fun i => [(0, i64 n), (3, i64 ((2 ^ i : Nat) : Int)), (4, i64 i)]) (fun _ => H) (fun i => n - i) 0 (Nat.zero_le _) ?_ ?_ fun i hi => ?_
 ·simp only [vsAll, argFr, Nat.reduceEqDiff, ↓reduceIte, reduceCtorEq, eq_self, Int.natCast_zero, Nat.pow_zero, Int.natCast_one]
 ·simp only [HSub_refl]
 ·simp only [vsAll, binA, binLitA, intA, opA, dstOk, Nat.reduceLT, Nat.reduceEqDiff, ↓reduceIte, reduceCtorEq, eq_self]
  refine condD (fun hb => ?_) (fun hb => ?_)
  ·have h1 : 2 ^ (i + 1) ≤ 2 ^ 60 := Nat.pow_le_pow_right (by omega) (by omega)
   rw [Nat.pow_succ] at h1
   simp only [vsAll, binA, binLitA, intA, opA, dstOk, nilSliceOp, Nat.reduceLT, Nat.reduceEqDiff, ↓reduceIte, reduceCtorEq, eq_self]
   simp only [InR_i64]
   refine ⟨by omega, by omega, loop_next (i + 1) (by omega) (by omega) ?_ ?_⟩
   ·have e : 2 * ((2 ^ i : Nat) : Int) = ((2 ^ (i + 1) : Nat) : Int) := by rw [Nat.pow_succ]; omega
    simp only [vsAll, Nat.reduceEqDiff, ↓reduceIte, reduceCtorEq, eq_self, e, Int.natCast_add, Int.natCast_one]
   ·simp only [HSub_refl]
  ·have e : i = n := by omega
   subst e
   simp only [vsAll, opA, dstOk, nilSliceOp, resA, retA.eq_1, Nat.reduceLT, Nat.reduceEqDiff, ↓reduceIte, reduceCtorEq, eq_self, Tryz.results73]

theorem has_eq (S n : Nat) : decide ((((S : Int).tdiv ((2 ^ n : Nat) : Int)).tmod 2) = 1) = S.testBit n := by
 rw [Nat.testBit_eq_decide_div_mod_eq]
 have e : (S : Int).tdiv ((2 ^ n : Nat) : Int) = ((S / 2 ^ n : Nat) : Int) := by rw [Int.tdiv_eq_ediv_of_nonneg (by omega)]; rfl
 rw [e]
 generalize S / 2 ^ n = q
 congr 1
 rw [Int.tmod_eq_emod_of_nonneg (by omega)]
 exact propext ⟨fun h => by omega, fun h => by omega⟩

theorem has_tri (S n : Nat) (H : Hp) (hn : n ≤ 60) (hS : S < 2 ^ 60) : PTri Tryz.prog (fnA 87) [i64 S, i64 n] H (boo (S.testBit n)) := by
 refine tri_v0 (fun _ => false) Tryz.func87 (by kernel_rfl) rfl (by simp only [List.length_append, List.length_cons, List.length_nil, Tryz.ntmps87]; decide) ?_
 simp only [vsAll, okAll, stAll, opsA, opA, dstOk, nilSliceOp, argFr, Nat.reduceLT, Nat.reduceEqDiff, ↓reduceIte, reduceCtorEq, eq_self, Tryz.ntmps87]
 refine callK_pure (power_tri n H hn) ?_
 simp only [vsAll, binA, binLitA, intA, opA, dstOk, nilSliceOp, resA, retA.eq_1, Nat.reduceLT, Nat.reduceEqDiff, Int.reduceEq, ↓reduceIte, eq_self, ne_eq, Tryz.results87]
 have h0 : 0 < 2 ^ n := Nat.pos_of_ne_zero (by simp)
 have h1 : (S : Int).tdiv ((2 ^ n : Nat) : Int) = ((S / 2 ^ n : Nat) : Int) := by rw [Int.tdiv_eq_ediv_of_nonneg (by omega)]; rfl
 have h2 : S / 2 ^ n ≤ S := Nat.div_le_self _ _
 refine ⟨⟨by omega, ?_⟩, by rw [has_eq]⟩
 rw [h1, InR_i64]
 generalize S / 2 ^ n = q at *
 omega

theorem anyN_succ (h : Hd) (s : Sd) (w : Int) (k : Nat) : anyN h s w (k + 1) = (anyN h s w k || rightB h s w ((k : Int) - 2)) := by
 simp only [anyN, List.range_succ, List.any_append, List.any_cons, List.any_nil, Bool.or_false]
theorem anyN_le (h : Hd) (s : Sd) (w : Int) (k k' : Nat) (hk : k ≤ k') (ha : anyN h s w k = true) : anyN h s w k' = true := by
 induction k' with
 | zero => have : k = 0 := by omega
           subst this; exact ha
 | succ k' ih =>
   by_cases e : k = k' + 1
   ·subst e; exact ha
   ·rw [anyN_succ, ih (by omega), Bool.true_or]

theorem can_tri (h : Hd) (w : Int) (S : Nat) (H : Hp) (k : HOk h) (hw : 0 ≤ w ∧ w ≤ 100) (hS : S < 2 ^ 60) :
 PTri Tryz.prog (fnA 83) [h.av, i64 w, i64 S] H (boo (canB h w S)) := by
 have hm := k.m
 refine tri_v0 (fun _ => false) Tryz.func83 (by kernel_rfl) rfl (by simp only [List.length_append, List.length_cons, List.length_nil, Tryz.ntmps83]; decide) ?_
 simp only [vsAll, boxA, boxZ, opA, dstOk, nilSliceOp, argFr, Nat.reduceAdd, Nat.reduceLT, Int.reduceNeg, eq_self, wtAll, Tryz.ntmps83]
 refine vs_loop (σ := Nat) (fun i => i ≤ h.m ∧ ∀ j, j < i → okc h w S j = true) (fun i => [(1, i64 w), (2, i64 S), (3, .rptr 1 2 (fun _ => h.cs) 0 0), (7, i64 i)]) (fun _ => H) (fun i => h.m - i) 0 ⟨Nat.zero_le _, fun j hj => absurd hj (by omega)⟩ ?_ ?_ fun i hi => ?_
 ·simp only [vsAll, argFr, Nat.reduceEqDiff, ↓reduceIte, eq_self, Int.natCast_zero]
 ·simp only [HSub_refl]
 ·obtain ⟨hi, hall⟩ := hi
  simp only [vsAll, binA, binLitA, intA, loadA, loadRow, partA, partOk, fieldAddrA, lenA, opA, dstOk, Nat.reduceLT, Nat.reduceEqDiff, Int.reduceNeg, ↓reduceIte, eq_self, wtAll]
  refine condD (fun hb => ?_) (fun hb => ?_)
  ·simp only [vsAll, okAll, stAll, opsA, opA, dstOk, Nat.reduceLT, Nat.reduceEqDiff, Int.reduceNeg, ↓reduceIte, eq_self]
   refine callK_pure (has_tri S i H (by omega) hS) ?_
   simp only [vsAll, unA, opA, dstOk, nilSliceOp, Nat.reduceLT, Int.reduceNeg, ↓reduceIte, eq_self]
   refine vs_loop (σ := Nat) (fun j => j ≤ 5) (fun j => [(1, i64 w), (2, i64 S), (3, .rptr 1 2 (fun _ => h.cs) 0 0), (7, i64 i), (8, boo (!S.testBit i || anyN h (h.sd i) w j)), (9, i64 ((j : Int) - 2))]) (fun _ => H) (fun j => 5 - j) 0 (by omega) ?_ ?_ fun j hj => ?_
   ·simp only [vsAll, Nat.reduceEqDiff, Int.reduceSub, Int.reduceNeg, ↓reduceIte, eq_self, Int.natCast_zero, anyN, List.range_zero, List.any_nil]
   ·simp only [HSub_refl]
   ·simp only [vsAll, binA, binLitA, intA, unA, pickA, opA, guardV, dstOk, Nat.reduceLT, Nat.reduceEqDiff, ↓reduceIte, implies_true, eq_self]
    refine condV (fun hb => ?_) (fun hb => ?_)
    ·simp only [Bool.and_eq_true, decide_eq_true_eq, Bool.not_eq_true', Bool.or_eq_false_iff] at hb
     obtain ⟨hj2, hs1, hs2⟩ := hb
     simp only [vsAll]
     refine vs_draw 10 (by decide +kernel) ?_
     simp only [vsAll, loadA, loadRow, partA, partOk, fieldAddrA, indexAddrA, opA, dstOk, Nat.reduceLT, Nat.reduceEqDiff, ↓reduceIte, eq_self, wtAll]
     refine ⟨by omega, by omega, qcall _ ⟨trivial, by simp only [vsAll, okAll, opsA, opA, Nat.reduceEqDiff, ↓reduceIte, eq_self], right_tri h (h.sd i) w ((j : Int) - 2) H k hw (by omega) (k.w i (by omega))⟩ ?_⟩
     simp only [vsAll, binA, binLitA, intA, opA, dstOk, nilSliceOp, Nat.reduceLT, Nat.reduceEqDiff, ↓reduceIte, eq_self]
     refine ⟨by simp only [InR_i64]; omega, loop_next (j + 1) (by omega) (by omega) ?_ ?_⟩
     ·have e : ((j : Int) - 2 + 1) = ((j + 1 : Nat) : Int) - 2 := by omega
      have e2 : rightB h (h.sd i) w ((j : Int) - 2) = (!S.testBit i || anyN h (h.sd i) w (j + 1)) := by rw [anyN_succ, hs1, hs2]; rfl
      simp only [vsAll, Nat.reduceEqDiff, ↓reduceIte, eq_self, e, e2]
     ·simp only [HSub_refl]
    ·have e : (!S.testBit i || anyN h (h.sd i) w j) = okc h w S i := by
      simp only [okc]
      by_cases h5 : j = 5
      ·rw [h5]
      ·have h6 : decide ((j : Int) - 2 ≤ 2) = true := decide_eq_true (by omega)
       rw [h6, Bool.true_and] at hb
       simp only [Bool.not_eq_false'] at hb
       rw [hb]
       cases hS2 : S.testBit i
       ·rfl
       ·rw [hS2, Bool.not_true, Bool.false_or] at hb
        rw [Bool.not_true, Bool.false_or, anyN_le h _ w j 5 hj hb]
     rw [e]
     simp only [vsAll, unA, opA, dstOk, Nat.reduceLT, Nat.reduceEqDiff, ↓reduceIte, eq_self]
     refine condV (fun hc => ?_) (fun hc => ?_)
     ·simp only [vsAll, opA, dstOk, nilSliceOp, resA, retA.eq_1, Nat.reduceLT, ↓reduceIte, eq_self, Tryz.results83]
      have : canB h w S = false := by
       simp only [canB, decide_eq_false_iff_not]
       intro hh
       rw [hh i (by omega)] at hc
       cases hc
      simp only [eq_self, this]
     ·simp only [Bool.not_eq_false'] at hc
      simp only [vsAll, binA, binLitA, intA, opA, dstOk, nilSliceOp, Nat.reduceLT, Nat.reduceEqDiff, ↓reduceIte, eq_self]
      refine ⟨by simp only [InR_i64]; omega, loop_next (i + 1) ⟨by omega, fun j hj => ?_⟩ (by omega) ?_ ?_⟩
      ·by_cases e : j = i
       ·subst e; exact hc
       ·exact hall j (by omega)
      ·simp only [vsAll, Nat.reduceEqDiff, ↓reduceIte, eq_self, Int.natCast_add, Int.natCast_one]
      ·simp only [HSub_refl]
  ·have : canB h w S = true := by
    simp only [canB, decide_eq_true_eq]
    exact fun j hj => hall j (by omega)
   simp only [vsAll, opA, dstOk, nilSliceOp, resA, retA.eq_1, Nat.reduceLT, Int.reduceNeg, ↓reduceIte, eq_self, Tryz.results83, this]

theorem amounts_tri (h : Hd) (S : Nat) (H : Hp) (k : HOk h) (hS : S < 2 ^ 60) :
 PTri Tryz.prog (fnA 72) [h.av, i64 S] H (natsAV (amts h S)) := by
 refine tri_v (mset [5]) Tryz.func72 (by kernel_rfl) rfl (by simp only [List.length_append, List.length_cons, List.length_nil, Tryz.ntmps72]; decide) ?_
 simp only [vsAll, boxA, boxZ, opA, dstOk, nilA, nilSliceOp, argFr, Nat.reduceAdd, Nat.reduceLT, Nat.reduceBEq, eq_self, wtAll, Tryz.ntmps72]
 intro id hid
 refine vs_loop (σ := Nat) (fun w => w ≤ 101) (fun w => [(1, i64 S), (2, .rptr 1 2 (fun _ => h.cs) 0 0), (5, .sl id 1 (amtsN h S w).length), (6, i64 w)])
  (fun w => H.set id (.row 1 (amtsN h S w).length (natF (amtsN h S w)))) (fun w => 101 - w) 0 (by omega) ?_ ?_ fun w hw => ?_
 ·simp only [vsAll, argFr, Nat.reduceEqDiff, ↓reduceIte, eq_self, Int.natCast_zero, amtsN, List.range_zero, List.filter_nil]
 ·exact HSub_set (row0_le _ _ _)
 ·simp only [vsAll, binA, binLitA, intA, opA, dstOk, Nat.reduceLT, Nat.reduceEqDiff, ↓reduceIte, eq_self]
  refine condD (fun hb => ?_) (fun hb => ?_)
  ·have hlen : (amtsN h S w).length ≤ w := by
    have := List.length_filter_le (fun w : Nat => canB h w S) (List.range w)
    rw [List.length_range] at this
    exact this
   simp only [vsAll, loadA, loadRow, partA, partOk, okAll, stAll, opsA, opA, dstOk, Nat.reduceLT, Nat.reduceEqDiff, ↓reduceIte, eq_self, wtAll]
   refine callK_pure (can_tri h w S _ k (by omega) hS) ?_
   simp only [vsAll, opA, ↓reduceIte, eq_self]
   refine condV (fun hc => ?_) (fun hc => ?_)
   ·simp only [vsAll, binA, binLitA, intA, cellA, cellsA, okParts, buildSliceA, partIdx, elemsA, lensA, partsA, partsOk, opA, appendA, dstOk, nilSliceOp, Nat.reduceMul, Nat.reduceLT, Nat.reduceLeDiff, Nat.reduceEqDiff, Nat.reduceBEq, ↓reduceIte, eq_self, wtAll]
    rw [app_nats _ w _ rfl]
    refine ⟨fun i hi => ?_, by omega, by omega, by simp only [InR_i64]; omega, loop_next (w + 1) (by omega) (by omega) ?_ ?_⟩
    ·have : i = 0 := by omega
     subst this
     simp only [vsAll, cellA, okCells, eq_self]
    ·simp only [vsAll, Nat.reduceEqDiff, ↓reduceIte, eq_self, amtsN_succ, hc, List.length_append, Int.natCast_add, Int.natCast_one]
    ·simp only [vsAll, ↓reduceIte, eq_self, amtsN_succ, hc, List.length_append, Hp.set_set]
   ·simp only [vsAll, binA, binLitA, intA, opA, dstOk, nilSliceOp, Nat.reduceLT, Nat.reduceEqDiff, Nat.reduceBEq, ↓reduceIte, eq_self]
    refine ⟨by simp only [InR_i64]; omega, loop_next (w + 1) (by omega) (by omega) ?_ ?_⟩
    ·simp only [vsAll, Nat.reduceEqDiff, ↓reduceIte, eq_self, amtsN_succ, hc, Int.natCast_add, Int.natCast_one]
    ·simp only [vsAll, ↓reduceIte, amtsN_succ, hc]
  ·have e : w = 101 := by omega
   subst e
   simp only [vsAll, opA, dstOk, nilSliceOp, Nat.reduceLT, Nat.reduceEqDiff, Nat.reduceBEq, ↓reduceIte, eq_self]
   exact ret_freeze (by rw [Tryz.results72]) (by simp only [vsAll, ↓reduceIte, eq_self]) (Hp.set_same _ _ _) ⟨rfl, set_del hid⟩

end Go.Proofs.YtkcgocmjaggdiaaGreat.Wl
end
section
set_option linter.unusedVariables false
set_option linter.unusedSimpArgs false
set_option maxHeartbeats 4000000
set_option maxRecDepth 100000
namespace Go.Proofs.YtkcgocmjaggdiaaGreat.Wl
open Go.V
theorem all_tri (h : Hd) (H : Hp) (k : HOk h) : PTri Tryz.prog (fnA 60) [h.av] H (natsAV (allA h)) := by
 have hm := k.m
 refine tri_v0 (fun _ => false) Tryz.func60 (by kernel_rfl) rfl (by simp only [List.length_append, List.length_cons, List.length_nil, Tryz.ntmps60]; decide) ?_
 simp only [vsAll, boxA, boxZ, opA, dstOk, nilSliceOp, argFr, Nat.reduceAdd, Nat.reduceLT, eq_self, wtAll, Tryz.ntmps60]
 refine vs_draw 8 (by decide +kernel) ?_
 simp only [vsAll, loadA, loadRow, partA, partOk, fieldAddrA, lenA, opA, dstOk, Nat.reduceLT, Nat.reduceEqDiff, ↓reduceIte, eq_self, wtAll]
 refine qcall _ ⟨trivial, by simp only [vsAll, okAll, opsA, opA, ↓reduceIte, eq_self], power_tri h.m H (by omega)⟩ ?_
 have h1 : 2 ^ h.m ≤ 2 ^ 6 := Nat.pow_le_pow_right (by omega) hm
 have h0 : 0 < 2 ^ h.m := Nat.pos_of_ne_zero (by simp)
 simp only [vsAll, binA, binLitA, intA, opA, dstOk, Nat.reduceLT, ↓reduceIte, eq_self]
 refine ⟨by simp only [InR_i64]; omega, ?_⟩
 have e : ((2 ^ h.m : Nat) : Int) - 1 = ((2 ^ h.m - 1 : Nat) : Int) := by omega
 rw [e]
 refine qcall _ ⟨trivial, by simp only [vsAll, okAll, opsA, opA, Nat.reduceEqDiff, ↓reduceIte, eq_self], amounts_tri h (2 ^ h.m - 1) H k (by omega)⟩ ?_
 simp only [vsAll, opA, dstOk, resA, retA.eq_1, Nat.reduceLT, ↓reduceIte, eq_self, Tryz.results60, allA]

theorem hold_tri (h : Hd) (H : Hp) (k : Near h) : PTri Tryz.prog (fnA 14) [h.av] H (boo (decide (HOk h))) := by
 have hn := k.n
 have hm := k.m
 refine tri_v (mset [6]) Tryz.func14 (by kernel_rfl) rfl (by simp only [List.length_append, List.length_cons, List.length_nil, Tryz.ntmps14]; decide) ?_
 simp only [vsAll, binA, binLitA, intA, loadA, loadRow, partA, partOk, fieldAddrA, lenA, boxA, boxZ, pickA, opA, guardV, dstOk, nilSliceOp, argFr, Nat.reduceAdd, Nat.reduceLT, Nat.reduceEqDiff, Nat.reduceBEq, Int.reduceNeg, ↓reduceIte, implies_true, eq_self, wtAll, Tryz.ntmps14]
 refine condV (fun hc => ?_) (fun hc => ?_)
 ·have : decide (HOk h) = false := decide_eq_false fun q => by
   have := q.n; have := q.m
   simp only [Bool.or_eq_true, Bool.and_eq_true, Bool.not_eq_true', decide_eq_false_iff_not, decide_eq_true_eq] at hc
   omega
  simp only [vsAll, opA, dstOk, nilSliceOp, Nat.reduceLT, Nat.reduceBEq, Int.reduceNeg, eq_self]
  refine ret0 ?_
  simp only [vsAll, resA, retA.eq_1, ↓reduceIte, eq_self, Tryz.results14, this]
 ·simp only [Bool.or_eq_false_iff, Bool.and_eq_false_iff, Bool.not_eq_false', decide_eq_true_eq, decide_eq_false_iff_not] at hc
  have hn2 : h.n = 3 ∨ h.n = 5 ∨ h.n = 7 := by omega
  have hm2 : h.m ≤ 6 := by omega
  simp only [vsAll, opA, dstOk, nilSliceOp, Nat.reduceLT, Nat.reduceBEq, Int.reduceNeg, eq_self]
  refine vs_loop (σ := Nat) (fun i => i ≤ h.n ∧ ∀ j, j < i → 0 ≤ h.fl j ∧ h.fl j ≤ 9) (fun i => [(1, .rptr 1 2 (fun _ => h.cs) 0 0), (3, i64 h.n), (4, i64 i)]) (fun _ => H) (fun i => h.n - i) 0 ⟨Nat.zero_le _, fun j hj => absurd hj (by omega)⟩ ?_ ?_ fun i hi => ?_
  ·simp only [vsAll, Nat.reduceEqDiff, ↓reduceIte, eq_self, Int.natCast_zero]
  ·simp only [HSub_refl]
  ·obtain ⟨hi, hall⟩ := hi
   simp only [vsAll, binA, binLitA, intA, opA, dstOk, Nat.reduceLT, Nat.reduceEqDiff, Int.reduceNeg, ↓reduceIte, eq_self]
   refine condD (fun hb => ?_) (fun hb => ?_)
   ·simp only [vsAll, loadA, loadRow, partA, partOk, fieldAddrA, indexAddrA, okAll, stAll, opsA, opA, dstOk, Nat.reduceLT, Nat.reduceEqDiff, Int.reduceNeg, ↓reduceIte, eq_self, wtAll]
    refine ⟨by omega, by omega, callK_pure (in_tri (h.fl i) 0 9 H) ?_⟩
    simp only [vsAll, unA, opA, dstOk, Nat.reduceLT, Int.reduceNeg, ↓reduceIte, eq_self]
    refine condV (fun hd => ?_) (fun hd => ?_)
    ·have : decide (HOk h) = false := decide_eq_false fun q => by
      have := q.f i (by omega)
      simp only [Bool.not_eq_true', Bool.and_eq_false_iff, decide_eq_false_iff_not] at hd
      omega
     simp only [vsAll, opA, dstOk, nilSliceOp, Nat.reduceLT, Nat.reduceBEq, Int.reduceNeg, eq_self]
     refine ret0 ?_
     simp only [vsAll, resA, retA.eq_1, ↓reduceIte, eq_self, Tryz.results14, this]
    ·simp only [Bool.not_eq_false', Bool.and_eq_true, decide_eq_true_eq] at hd
     simp only [vsAll, binA, binLitA, intA, opA, dstOk, nilSliceOp, Nat.reduceLT, Nat.reduceEqDiff, Nat.reduceBEq, Int.reduceNeg, ↓reduceIte, eq_self]
     refine ⟨by simp only [InR_i64]; omega, loop_next (i + 1) ⟨by omega, fun j hj => ?_⟩ (by omega) ?_ ?_⟩
     ·by_cases e : j = i
      ·subst e; exact hd
      ·exact hall j (by omega)
     ·simp only [vsAll, Nat.reduceEqDiff, ↓reduceIte, eq_self, Int.natCast_add, Int.natCast_one]
     ·simp only [HSub_refl]
   ·have ei : i = h.n := by omega
    subst ei
    simp only [vsAll, opA, dstOk, nilSliceOp, Nat.reduceLT, Nat.reduceBEq, Int.reduceNeg, ↓reduceIte, eq_self]
    refine vs_loop (σ := Nat) (fun i => i ≤ h.m ∧ ∀ j, j < i → (0 ≤ (h.sd j).w ∧ (h.sd j).w < h.n) ∧ (-2 ≤ (h.sd j).a ∧ (h.sd j).a ≤ (h.sd j).b ∧ (h.sd j).b ≤ 2) ∧ (0 ≤ (h.sd j).c ∧ (h.sd j).c ≤ (h.sd j).d ∧ (h.sd j).d ≤ 40))
     (fun i => [(1, .rptr 1 2 (fun _ => h.cs) 0 0), (3, i64 h.n), (5, i64 i)]) (fun _ => H) (fun i => h.m - i) 0 ⟨Nat.zero_le _, fun j hj => absurd hj (by omega)⟩ ?_ ?_ fun i hi => ?_
    ·simp only [vsAll, Nat.reduceEqDiff, ↓reduceIte, eq_self, Int.natCast_zero]
    ·simp only [HSub_refl]
    ·obtain ⟨hi, hall2⟩ := hi
     simp only [vsAll, binA, binLitA, intA, loadA, loadRow, partA, partOk, fieldAddrA, lenA, opA, dstOk, Nat.reduceLT, Nat.reduceEqDiff, Int.reduceNeg, ↓reduceIte, eq_self, wtAll]
     refine condD (fun hb => ?_) (fun hb => ?_)
     ·simp only [vsAll, binA, binLitA, intA, loadA, loadRow, partA, partOk, fieldAddrA, indexAddrA, cellA, okAll, stAll, opsA, opA, allocA, newCells, okCells, storeObj, dstOk, Nat.reduceAdd, Nat.reduceLT, Nat.reduceEqDiff, Int.reduceNeg, ↓reduceIte, eq_self, wtAll]
      refine ⟨by omega, by omega, fun id hid => ?_⟩
      simp only [Hp.set_set]
      refine ⟨by simp only [InR_i64]; omega, callK_pure (in_tri (h.sd i).w 0 ((h.n : Int) - 1) _) ?_⟩
      simp only [vsAll, unA, loadA, loadRow, partA, partOk, fieldAddrA, opA, guardV, dstOk, Nat.reduceAdd, Nat.reduceLT, Nat.reduceLeDiff, Nat.reduceEqDiff, Int.reduceNeg, ↓reduceIte, implies_true, eq_self, wtAll]
      apply gcall
      ·exact fun hg => ⟨trivial, by simp only [vsAll, okAll, opsA, opA, Int.reduceNeg, ↓reduceIte, eq_self, hg], span_tri (h.sd i).a (h.sd i).b (-2) 2 _⟩
      simp only [vsAll, unA, loadA, loadRow, partA, partOk, fieldAddrA, pickA, opA, guardV, dstOk, Nat.reduceAdd, Nat.reduceLT, Nat.reduceEqDiff, Int.reduceNeg, ↓reduceIte, implies_true, eq_self, wtAll]
      apply gcall
      ·exact fun hg => ⟨trivial, by simp only [vsAll, okAll, opsA, opA, Int.reduceNeg, ↓reduceIte, eq_self, hg], span_tri (h.sd i).c (h.sd i).d 0 40 _⟩
      simp only [vsAll, unA, pickA, opA, guardV, dstOk, Nat.reduceLT, Nat.reduceEqDiff, Int.reduceNeg, ↓reduceIte, implies_true, eq_self]
      refine condV (fun hd => ?_) (fun hd => ?_)
      ·have : decide (HOk h) = false := decide_eq_false fun q => by
        have q1 := q.w i (by omega)
        have q2 := q.l i (by omega)
        have q3 := q.r i (by omega)
        simp only [Bool.or_eq_true, Bool.not_eq_true', Bool.and_eq_false_iff, decide_eq_false_iff_not] at hd
        omega
       simp only [vsAll, opA, dstOk, nilSliceOp, Nat.reduceLT, Nat.reduceBEq, Int.reduceNeg, eq_self]
       refine ret_of [(2, boo false)] H ?_ (HSub_drop hid) ?_
       ·simp only [vsAll, Int.reduceNeg, ↓reduceIte, eq_self]
       ·simp only [vsAll, resA, retA.eq_1, ↓reduceIte, eq_self, Tryz.results14, this]
      ·simp only [Bool.or_eq_false_iff, Bool.not_eq_false', Bool.and_eq_true, decide_eq_true_eq] at hd
       simp only [vsAll, binA, binLitA, intA, opA, dstOk, nilSliceOp, Nat.reduceLT, Nat.reduceEqDiff, Nat.reduceBEq, Int.reduceNeg, ↓reduceIte, eq_self]
       refine ⟨by simp only [InR_i64]; omega, loop_next (i + 1) ⟨by omega, fun j hj => ?_⟩ (by omega) ?_ ?_⟩
       ·by_cases e : j = i
        ·subst e; omega
        ·exact hall2 j (by omega)
       ·simp only [vsAll, Nat.reduceEqDiff, Int.reduceNeg, ↓reduceIte, eq_self, Int.natCast_add, Int.natCast_one]
       ·exact HSub_drop hid
     ·have ei : i = h.m := by omega
      subst ei
      have : decide (HOk h) = true := decide_eq_true ⟨hn2, hm2, hall, fun i hi => (hall2 i hi).1, fun i hi => (hall2 i hi).2.1, fun i hi => (hall2 i hi).2.2⟩
      simp only [vsAll, opA, dstOk, nilSliceOp, Nat.reduceLT, Nat.reduceBEq, Int.reduceNeg, ↓reduceIte, eq_self]
      refine ret0 ?_
      simp only [vsAll, resA, retA.eq_1, ↓reduceIte, eq_self, Tryz.results14, this]

def standE (h : Hd) (w t : Int) : Int := errE h (amtB w && tiltB t) false
def standV (h : Hd) (w t : Int) : Int := if standE h w t = 0 then hz h w t else 0
def depthE (h : Hd) (w t p : Int) : Int := errE h (amtB w && tiltB t && partB h p) false
def depthV (h : Hd) (w t p : Int) : Int := if depthE h w t p = 0 then dz h w t p else 0
end Go.Proofs.YtkcgocmjaggdiaaGreat.Wl
end
section
set_option linter.unusedVariables false
set_option linter.unusedSimpArgs false
set_option maxHeartbeats 4000000
set_option maxRecDepth 100000
namespace Go.Proofs.YtkcgocmjaggdiaaGreat.Wl
open Go.V
theorem ints_tri (a b : List Int) (H : Hp) (ha : a.length < 2 ^ 60) (hb : b.length < 2 ^ 60) : PTri Tryz.prog (fnA 42) [intsAV a, intsAV b] H (boo (decide (a = b))) := by
 refine tri_v0 (fun _ => false) Tryz.func42 (by kernel_rfl) rfl (by simp only [List.length_append, List.length_cons, List.length_nil, Tryz.ntmps42]; decide) ?_
 simp only [vsAll, binA, binLitA, intA, lenA, opA, dstOk, nilSliceOp, argFr, Nat.reduceLT, Nat.reduceEqDiff, ↓reduceIte, reduceCtorEq, eq_self, wtAll, Tryz.ntmps42]
 refine condV (fun hc => ?_) (fun hc => ?_)
 ·have : decide (a = b) = false := decide_eq_false fun e => by subst e; simp at hc
  simp only [vsAll, opA, dstOk, nilSliceOp, resA, retA.eq_1, Nat.reduceLT, ↓reduceIte, eq_self, Tryz.results42, this]
 ·simp only [Bool.not_eq_false', decide_eq_true_eq] at hc
  simp only [vsAll, opA, dstOk, nilSliceOp, Nat.reduceLT, eq_self]
  refine vs_loop (σ := Nat) (fun i => i ≤ a.length ∧ ∀ j, j < i → a.getD j 0 = b.getD j 0) (fun i => [(0, intsAV a), (1, intsAV b), (5, i64 i)]) (fun _ => H) (fun i => a.length - i) 0 ⟨Nat.zero_le _, fun j hj => absurd hj (by omega)⟩ ?_ ?_ fun i hi => ?_
  ·simp only [vsAll, argFr, Nat.reduceEqDiff, ↓reduceIte, reduceCtorEq, eq_self, Int.natCast_zero]
  ·simp only [HSub_refl]
  ·obtain ⟨hi, hall⟩ := hi
   simp only [vsAll, binA, binLitA, intA, lenA, opA, dstOk, Nat.reduceLT, Nat.reduceEqDiff, ↓reduceIte, reduceCtorEq, eq_self, wtAll]
   refine condD (fun hd => ?_) (fun hd => ?_)
   ·simp only [vsAll]
    refine vs_draw 9 (by decide +kernel) ?_
    simp only [vsAll, binA, binLitA, intA, loadA, loadRow, partA, partOk, indexAddrA, opA, dstOk, Nat.reduceLT, Nat.reduceEqDiff, ↓reduceIte, reduceCtorEq, eq_self, wtAll, intF_at]
    refine ⟨by omega, by omega, by omega, by omega, condV (fun hf => ?_) (fun hf => ?_)⟩
    ·have : decide (a = b) = false := decide_eq_false fun e => by subst e; simp at hf
     simp only [vsAll, opA, dstOk, nilSliceOp, resA, retA.eq_1, Nat.reduceLT, ↓reduceIte, eq_self, Tryz.results42, this]
    ·simp only [Bool.not_eq_false', decide_eq_true_eq] at hf
     simp only [vsAll, binA, binLitA, intA, opA, dstOk, nilSliceOp, Nat.reduceLT, Nat.reduceEqDiff, ↓reduceIte, reduceCtorEq, eq_self]
     refine ⟨by simp only [InR_i64]; omega, loop_next (i + 1) ⟨by omega, fun j hj => ?_⟩ (by omega) ?_ ?_⟩
     ·by_cases e : j = i
      ·subst e; exact hf
      ·exact hall j (by omega)
     ·simp only [vsAll, Nat.reduceEqDiff, ↓reduceIte, reduceCtorEq, eq_self, Int.natCast_add, Int.natCast_one]
     ·simp only [HSub_refl]
   ·have ei : i = a.length := by omega
    subst ei
    have : decide (a = b) = true := decide_eq_true (by
     apply List.ext_getElem (by omega)
     intro j h1 h2
     have := hall j h1
     rw [List.getD_eq_getElem?_getD, List.getD_eq_getElem?_getD, List.getElem?_eq_getElem h1, List.getElem?_eq_getElem h2] at this
     exact this)
    simp only [vsAll, opA, dstOk, nilSliceOp, resA, retA.eq_1, Nat.reduceLT, ↓reduceIte, eq_self, Tryz.results42, this]

theorem eq36 : eqT Tryz.prog 43 2 := eqT_of (by kernel_rfl) (by kernel_rfl) (by kernel_rfl) (by kernel_rfl) (by kernel_rfl)
theorem spans_tri (a b : List (Int × Int)) (H : Hp) (ha : a.length < 2 ^ 60) (hb : b.length < 2 ^ 60) : PTri Tryz.prog (fnA 52) [spansAV a, spansAV b] H (boo (decide (a = b))) := by
 refine tri_v0 (fun _ => false) Tryz.func52 (by kernel_rfl) rfl (by simp only [List.length_append, List.length_cons, List.length_nil, Tryz.ntmps52]; decide) ?_
 simp only [vsAll, binA, binLitA, intA, lenA, opA, dstOk, nilSliceOp, argFr, Nat.reduceLT, Nat.reduceEqDiff, ↓reduceIte, reduceCtorEq, eq_self, wtAll, Tryz.ntmps52]
 refine condV (fun hc => ?_) (fun hc => ?_)
 ·have : decide (a = b) = false := decide_eq_false fun e => by subst e; simp at hc
  simp only [vsAll, opA, dstOk, nilSliceOp, resA, retA.eq_1, Nat.reduceLT, ↓reduceIte, eq_self, Tryz.results52, this]
 ·simp only [Bool.not_eq_false', decide_eq_true_eq] at hc
  simp only [vsAll, opA, dstOk, nilSliceOp, Nat.reduceLT, eq_self]
  refine vs_loop (σ := Nat) (fun i => i ≤ a.length ∧ ∀ j, j < i → a.getD j (0, 0) = b.getD j (0, 0)) (fun i => [(0, spansAV a), (1, spansAV b), (5, i64 i)]) (fun _ => H) (fun i => a.length - i) 0 ⟨Nat.zero_le _, fun j hj => absurd hj (by omega)⟩ ?_ ?_ fun i hi => ?_
  ·simp only [vsAll, argFr, Nat.reduceEqDiff, ↓reduceIte, reduceCtorEq, eq_self, Int.natCast_zero]
  ·simp only [HSub_refl]
  ·obtain ⟨hi, hall⟩ := hi
   simp only [vsAll, binA, binLitA, intA, lenA, opA, dstOk, Nat.reduceLT, Nat.reduceEqDiff, ↓reduceIte, reduceCtorEq, eq_self, wtAll]
   refine condD (fun hd => ?_) (fun hd => ?_)
   ·simp only [vsAll]
    refine vs_draw 9 (by decide +kernel) ?_
    simp only [vsAll, binA, aggA, loadA, loadRow, partA, partOk, indexAddrA, opA, dstOk, Nat.reduceAdd, Nat.reduceLT, Nat.reduceEqDiff, ↓reduceIte, reduceCtorEq, eq_self, wtAll, spanF_at]
    have ep : ∀ x y : Int × Int, ([x.1, x.2] = [y.1, y.2]) = (x = y) := fun x y => by
     rcases x with ⟨x1, x2⟩; rcases y with ⟨y1, y2⟩; simp
    refine ⟨by omega, by omega, by omega, by omega, eq36, condV (fun hf => ?_) (fun hf => ?_)⟩
    ·have : decide (a = b) = false := decide_eq_false fun e => by subst e; simp at hf
     simp only [vsAll, opA, dstOk, nilSliceOp, resA, retA.eq_1, Nat.reduceLT, ↓reduceIte, eq_self, Tryz.results52, this]
    ·simp only [Bool.not_eq_false', decide_eq_true_eq, ep] at hf
     simp only [vsAll, binA, binLitA, intA, opA, dstOk, nilSliceOp, Nat.reduceLT, Nat.reduceEqDiff, ↓reduceIte, reduceCtorEq, eq_self]
     refine ⟨by simp only [InR_i64]; omega, loop_next (i + 1) ⟨by omega, fun j hj => ?_⟩ (by omega) ?_ ?_⟩
     ·by_cases e : j = i
      ·subst e; exact hf
      ·exact hall j (by omega)
     ·simp only [vsAll, Nat.reduceEqDiff, ↓reduceIte, reduceCtorEq, eq_self, Int.natCast_add, Int.natCast_one]
     ·simp only [HSub_refl]
   ·have ei : i = a.length := by omega
    subst ei
    have : decide (a = b) = true := decide_eq_true (by
     apply List.ext_getElem (by omega)
     intro j h1 h2
     have := hall j h1
     rw [List.getD_eq_getElem?_getD, List.getD_eq_getElem?_getD, List.getElem?_eq_getElem h1, List.getElem?_eq_getElem h2] at this
     exact this)
    simp only [vsAll, opA, dstOk, nilSliceOp, resA, retA.eq_1, Nat.reduceLT, ↓reduceIte, eq_self, Tryz.results52, this]

def overE (h : Hd) (w : Int) : Int := errE h (amtB w) true
def overV (h : Hd) (w : Int) : Int := if overE h w = 0 then (if w < ((allA h).getD 0 0 : Nat) then 2 else if (((allA h).getD ((allA h).length - 1) 0 : Nat) : Int) ≤ w then 0 else 1) else 0
end Go.Proofs.YtkcgocmjaggdiaaGreat.Wl
end
section
set_option linter.unusedVariables false
set_option linter.unusedSimpArgs false
set_option maxHeartbeats 4000000
set_option maxRecDepth 100000
namespace Go.Proofs.YtkcgocmjaggdiaaGreat.Wl
open Go.V
theorem within_tri (n low high : Int) (H : Hp) : PTri Tryz.prog (fnA 77) [i64 n, i64 low, i64 high] H (boo (decide (low ≤ n) && decide (n ≤ high))) := by
 refine tri_v0 (fun _ => false) Tryz.func77 (by kernel_rfl) rfl (by simp only [List.length_append, List.length_cons, List.length_nil, Tryz.ntmps77]; decide) ?_
 simp only [vsAll, binA, binLitA, intA, pickA, opA, guardV, dstOk, nilSliceOp, resA, argFr, retA.eq_1, Nat.reduceLT, Nat.reduceEqDiff, ↓reduceIte, reduceCtorEq, implies_true, eq_self, Tryz.ntmps77, Tryz.results77]

theorem ask_tri (b : Bool) (e : Int) (H : Hp) : Tri Tryz.prog (fnA 76) [boo b, i64 e] H fun r H' => H' = H ∧ r = if b then .ret (.tuple []) else .pan (.iface 129 (i64 e)) := by
 refine tri_v0 (fun _ => false) Tryz.func76 (by kernel_rfl) rfl (by simp only [List.length_append, List.length_cons, List.length_nil, Tryz.ntmps76]; decide) ?_
 simp only [vsAll, unA, opA, dstOk, argFr, Nat.reduceLT, ↓reduceIte, eq_self, Tryz.ntmps76]
 refine condV (fun hc => ?_) (fun hc => ?_)
 ·simp only [Bool.not_eq_true'] at hc
  subst hc
  simp only [vsAll, ifaceA, opA, dstOk, panA, argFr, Nat.reduceLT, Nat.reduceEqDiff, ↓reduceIte, eq_self, wtAll]
 ·simp only [Bool.not_eq_false'] at hc
  subst hc
  simp only [vsAll, resA, retA.eq_2, ↓reduceIte, eq_self, Tryz.results76]

theorem ask_call {b : Bool} {e : Int} {H : Hp} {K : AV → Hp → Prop} {Kp : AV → Hp → Prop} (h1 : b = true → K (.tuple []) H) (h2 : b = false → Kp (.iface 129 (i64 e)) H) :
 CallK Tryz.prog (fnA 76) [boo b, i64 e] H K Kp := by
 refine ⟨_, ask_tri b e H, ?_⟩
 rintro r H' ⟨rfl, rfl⟩
 cases b
 ·exact h2 rfl
 ·exact h1 rfl

theorem rise_tri (t k : Int) (H : Hp) (hr : -1000 ≤ t * k ∧ t * k ≤ 1000) : PTri Tryz.prog (fnA 118) [.agg [i64 t], i64 k] H (i64 (t * k)) := by
 refine tri_v0 (fun _ => false) Tryz.func118 (by kernel_rfl) rfl (by simp only [List.length_append, List.length_cons, List.length_nil, Tryz.ntmps118]; decide) ?_
 simp only [vsAll, binA, binLitA, intA, loadA, loadRow, partA, partOk, fieldAddrA, boxA, boxZ, opA, dstOk, nilSliceOp, resA, argFr, retA.eq_1, Nat.reduceLT, Nat.reduceEqDiff, ↓reduceIte, eq_self, wtAll, Tryz.ntmps118, Tryz.results118]
 simp only [InR_i64]
 omega

/-- By how much a surface is above a part's floor. -/
def dr (h : Hd) (s t p : Int) : Int := s + t * (p - (h.n : Int) / 2) - h.fl p.toNat
theorem uz_dr (h : Hd) (s t p : Int) : uz h s t p = max 0 (dr h s t p) := rfl

abbrev hdC (h : Hd) (id : Nat) : List AV := [flAV h.n h.fl, sdAV h.m h.sd, .map id]
abbrev hdP (h : Hd) (id : Nat) : AV := .rptr 1 3 (fun _ => hdC h id) 0 0

theorem depth_tri (h : Hd) (id : Nat) (s t p : Int) (H : Hp) (k : HOk h) (hp : 0 ≤ p ∧ p < h.n) (hs : -1000 ≤ s ∧ s ≤ 1000) (ht : -2 ≤ t ∧ t ≤ 2) :
 PTri Tryz.prog (fnA 116) [hdP h id, .agg [i64 t, i64 s], i64 p] H (i64 (dr h s t p)) := by
 have hf := k.fi p hp
 have hn := k.n
 have e : (h.n : Int).tdiv 2 = (h.n : Int) / 2 := Int.tdiv_eq_ediv_of_nonneg (by omega)
 have hm := mul_small t (p - (h.n : Int) / 2) ht (by omega)
 refine tri_v0 (fun _ => false) Tryz.func116 (by kernel_rfl) rfl (by simp only [List.length_append, List.length_cons, List.length_nil, Tryz.ntmps116]; decide) ?_
 simp only [vsAll, boxA, boxZ, opA, dstOk, nilSliceOp, argFr, Nat.reduceAdd, Nat.reduceLT, eq_self, wtAll, Tryz.ntmps116]
 refine vs_draw 25 (by decide +kernel) ?_
 simp only [vsAll, binA, binLitA, intA, loadA, loadRow, partA, partOk, fieldAddrA, lenA, nilCheckA, opA, dstOk, argFr, Nat.reduceLT, Nat.reduceLeDiff, Nat.reduceEqDiff, Int.reduceEq, ↓reduceIte, reduceCtorEq, eq_self, ne_eq, wtAll, e]
 refine ⟨by simp only [InR_i64]; omega, by simp only [InR_i64]; omega, qcall _ ⟨trivial, by simp only [vsAll, okAll, opsA, opA, Nat.reduceEqDiff, ↓reduceIte, eq_self], rise_tri t _ H (by omega)⟩ ?_⟩
 simp only [vsAll, binA, binLitA, intA, loadA, loadRow, partA, partOk, fieldAddrA, indexAddrA, nilCheckA, opA, dstOk, resA, argFr, retA.eq_1, Nat.reduceLT, Nat.reduceEqDiff, ↓reduceIte, reduceCtorEq, eq_self, wtAll, Tryz.results116, dr]
 simp only [InR_i64]
 omega

def sumN (l : List Int) : Int := (l.map (max 0 ·)).sum
theorem sumN_snoc (l : List Int) (x : Int) : sumN (l ++ [x]) = sumN l + max 0 x := by simp [sumN]

end Go.Proofs.YtkcgocmjaggdiaaGreat.Wl
end
section
set_option linter.unusedVariables false
set_option linter.unusedSimpArgs false
set_option maxHeartbeats 4000000
set_option maxRecDepth 100000
namespace Go.Proofs.YtkcgocmjaggdiaaGreat.Wl
open Go.V
theorem und136q : Program.underlying Tryz.prog 131 = some (.map 167 3) := by kernel_rfl
theorem key180q : Maps.Keyed Tryz.prog 167 := Maps.Keyed.of_law (deep_law_laid (by kernel_rfl) (m := 10) (by decide) (by decide +kernel) (by kernel_rfl) (by kernel_rfl))
abbrev surV (t s : Int) : Value := .agg #[.int .i64 t, .int .i64 s]
/-- What is kept: the water under surfaces. -/
def memoF (h : Hd) : Value → Value → Prop := fun k v => ∃ t s : Int, k = surV t s ∧ (-2 ≤ t ∧ t ≤ 2) ∧ (-1000 ≤ s ∧ s ≤ 1000) ∧ v = .int .i64 (vol h s t)

theorem surK (t s : Int) (ht : -2 ≤ t ∧ t ≤ 2) (hs : -1000 ≤ s ∧ s ≤ 1000) : ∃ l, keyOf Tryz.prog 167 (surV t s) = some l := by
 have := keyOf_ints (P := Tryz.prog) (k := 167) (d := 5) (n := 2) (by kernel_rfl) (by decide +kernel) (by kernel_rfl) (by kernel_rfl) (l := [t, s]) rfl (by kernel_rfl) (by
  intro x hx
  simp only [List.mem_cons, List.not_mem_nil, or_false] at hx
  rcases hx with rfl | rfl
  ·exact wf_i64 (by simp only [InR_i64]; omega)
  ·exact wf_i64 (by simp only [InR_i64]; omega))
 exact this

/-- The depths below a surface, as far as they are above 0, come to the water. -/
def drsN (h : Hd) (s t : Int) (n : Nat) : List Int := (List.range n).map fun p : Nat => dr h s t p
theorem drsN_succ (h : Hd) (s t : Int) (n : Nat) : drsN h s t (n + 1) = drsN h s t n ++ [dr h s t n] := by simp [drsN, List.range_succ]
theorem sum_drs (h : Hd) (s t : Int) (n : Nat) : sumN (drsN h s t n) = volN h s t n := by
 induction n with
 | zero => rfl
 | succ n ih => rw [drsN_succ, sumN_snoc, ih]; rfl

theorem drsN_len (h : Hd) (s t : Int) (n : Nat) : (drsN h s t n).length = n := by simp [drsN]
theorem dr_bound (h : Hd) (s t : Int) (p : Nat) (k : HOk h) (hp : p < h.n) (hs : -1000 ≤ s ∧ s ≤ 1000) (ht : -2 ≤ t ∧ t ≤ 2) : -2000 ≤ dr h s t p ∧ dr h s t p ≤ 2000 := by
 have hf := k.f p hp
 have hn := k.n
 have hm := mul_small t ((p : Int) - (h.n : Int) / 2) ht (by omega)
 simp only [dr, Int.toNat_natCast]
 omega

theorem sum_row_tri (l : List Int) (id : Nat) (H : Hp) (ho : H id = some (.row 1 l.length (intF l))) (hl : l.length ≤ 100) (hx : ∀ x ∈ l, x ≤ 10000) : PTri Tryz.prog (fnA 120) [.sl id 1 l.length] H (i64 (sumN l)) := by
 have hb : ∀ i, i ≤ l.length → 0 ≤ sumN (l.take i) ∧ sumN (l.take i) ≤ 10000 * i := by
  intro i hi
  induction i with
  | zero => simp [sumN]
  | succ i ih =>
    have := ih (by omega)
    have h2 := hx _ (mem_getD l i 0 (by omega))
    rw [take_snoc l i 0 (by omega), sumN_snoc]
    omega
 refine tri_v0 (fun _ => false) Tryz.func120 (by kernel_rfl) rfl (by simp only [List.length_append, List.length_cons, List.length_nil, Tryz.ntmps120]; decide) ?_
 simp only [vsAll, lenA, opA, dstOk, nilSliceOp, argFr, Nat.reduceLT, ↓reduceIte, reduceCtorEq, eq_self, wtAll, Tryz.ntmps120]
 refine vs_loop (σ := Nat) (fun i => i ≤ l.length) (fun i => [(2, i64 (sumN (l.take i))), (5, .sl id 1 l.length), (6, i64 l.length), (7, i64 i)]) (fun _ => H) (fun i => l.length - i) 0 (Nat.zero_le _) ?_ ?_ fun i hi => ?_
 ·simp only [vsAll, Nat.reduceEqDiff, ↓reduceIte, eq_self, Int.natCast_zero, sumN, List.sum_nil]
 ·simp only [HSub_refl]
 ·simp only [vsAll, binA, binLitA, intA, opA, dstOk, Nat.reduceLT, Nat.reduceEqDiff, ↓reduceIte, eq_self]
  refine condD (fun hd => ?_) (fun hd => ?_)
  ·simp only [vsAll, binA, binLitA, intA, loadA, loadRow, partA, partOk, indexAddrA, mmA, okAll, stAll, opsA, opA, dstOk, nilSliceOp, Nat.reduceLT, Nat.reduceEqDiff, ↓reduceIte, eq_self, wtAll, intF_at, ho]
   have h1 := hb i hi
   have h2 := hb (i + 1) (by omega)
   have h3 := hx _ (mem_getD l i 0 (by omega))
   have e := sumN_snoc (l.take i) (l.getD i 0)
   rw [← take_snoc l i 0 (by omega)] at e
   simp only [InR_i64]
   refine ⟨by omega, by omega, by omega, by omega, loop_next (i + 1) (by omega) (by omega) ?_ ?_⟩
   ·simp only [vsAll, Nat.reduceEqDiff, ↓reduceIte, eq_self, e, Int.natCast_add, Int.natCast_one]
   ·simp only [HSub_refl]
  ·have e : i = l.length := by omega
   subst e
   simp only [vsAll, opA, dstOk, nilSliceOp, resA, retA.eq_1, Nat.reduceLT, Nat.reduceEqDiff, ↓reduceIte, eq_self, Tryz.results120, List.take_length]

theorem water_tri (h : Hd) (id : Nat) (s t : Int) (H : Hp) (k : HOk h) (ho : H id = some (.memo (memoF h))) (hs : -1000 ≤ s ∧ s ≤ 1000) (ht : -2 ≤ t ∧ t ≤ 2) :
 PTri Tryz.prog (fnA 119) [hdP h id, .agg [i64 t, i64 s]] H (i64 (vol h s t)) := by
 have hn := k.n
 refine Tri.unpack ho fun es ck hes hpw => ?_
 obtain ⟨o, hfo, hst, hcase⟩ := found_of und136q key180q (surK t s ht hs) (fun e he => by
  obtain ⟨t', s', h1, h2, h3, _⟩ := hes e he
  rw [h1]; exact surK t' s' h2 h3) hpw
 have hback : Go.V.HSub (H.set id (.raw (.map es ck))) H := HSub_set' ho (memo_le hes hpw)
 refine tri_vs (m := mset [7]) Tryz.func119 (by kernel_rfl) rfl (by simp only [List.length_append, List.length_cons, List.length_nil, Tryz.ntmps119]; decide) ?_
 simp only [vsAll, boxA, boxZ, opA, dstOk, nilSliceOp, argFr, Nat.reduceAdd, Nat.reduceLT, Nat.reduceBEq, eq_self, wtAll, Tryz.ntmps119]
 refine vs_draw 11 (by decide +kernel) ?_
 simp only [vsAll, loadA, loadRow, partA, partOk, fieldAddrA, extractA, nilCheckA, opA, lookA, dstOk, argFr, Nat.reduceAdd, Nat.reduceLT, Nat.reduceEqDiff, ↓reduceIte, reduceCtorEq, eq_self, wtAll]
 refine ⟨o, hfo _, ?_⟩
 rcases hcase with ⟨rfl, hno⟩ | ⟨j, e, rfl, hj, hk⟩
 ·simp only [vsAll, loadA, loadRow, partA, partOk, fieldAddrA, lenA, nilCheckA, opA, dstOk, nilA, argFr, Nat.reduceLT, Nat.reduceBEq, ↓reduceIte, reduceCtorEq, eq_self, wtAll]
  intro id2 hid2
  have hne : id2 ≠ id := fun e => by rw [if_pos e] at hid2; cases hid2
  rw [if_neg hne] at hid2
  refine vs_loop (σ := Nat) (fun i => i ≤ h.n) (fun i => [(0, hdP h id), (3, .rptr 1 2 (fun _ => [i64 t, i64 s]) 0 0), (7, .sl id2 1 (drsN h s t i).length), (24, flAV h.n h.fl), (25, i64 h.n), (26, i64 i)])
   (fun i => (H.set id (.raw (.map es ck))).set id2 (.row 1 (drsN h s t i).length (intF (drsN h s t i)))) (fun i => h.n - i) 0 (Nat.zero_le _) ?_ ?_ fun i hi => ?_
  ·simp only [vsAll, argFr, Nat.reduceEqDiff, ↓reduceIte, reduceCtorEq, eq_self, Int.natCast_zero, drsN, List.range_zero]
  ·exact HSub_set (row0_le _ _ _)
  ·simp only [vsAll, binA, binLitA, intA, opA, dstOk, Nat.reduceLT, Nat.reduceEqDiff, ↓reduceIte, reduceCtorEq, eq_self]
   refine condD (fun hd => ?_) (fun hd => ?_)
   ·simp only [vsAll, loadA, loadRow, partA, partOk, okAll, stAll, opsA, opA, dstOk, nilSliceOp, Nat.reduceLT, Nat.reduceEqDiff, Nat.reduceBEq, ↓reduceIte, reduceCtorEq, eq_self, wtAll]
    refine callK_pure (depth_tri h id s t i _ k (by omega) hs ht) ?_
    have hlen := drsN_len h s t i
    simp only [vsAll, binA, binLitA, intA, cellA, cellsA, okParts, buildSliceA, partIdx, elemsA, lensA, partsA, partsOk, opA, appendA, dstOk, nilSliceOp, Nat.reduceMul, Nat.reduceLT, Nat.reduceLeDiff, Nat.reduceEqDiff, Nat.reduceBEq, ↓reduceIte, reduceCtorEq, eq_self, wtAll]
    rw [app_ints _ (dr h s t i) _ rfl]
    refine ⟨fun j hj => ?_, by omega, by omega, by simp only [InR_i64]; omega, loop_next (i + 1) (by omega) (by omega) ?_ ?_⟩
    ·have : j = 0 := by omega
     subst this
     simp only [vsAll, cellA, okCells, eq_self]
    ·simp only [vsAll, Nat.reduceEqDiff, ↓reduceIte, reduceCtorEq, eq_self, drsN_succ, List.length_append, Int.natCast_add, Int.natCast_one]
    ·simp only [vsAll, drsN_succ, List.length_append, Hp.set_set]
   ·have ei : i = h.n := by omega
    subst ei
    simp only [vsAll, ↓reduceIte, eq_self]
    refine vs_draw 7 (by decide +kernel) ?_
    have hlen := drsN_len h s t h.n
    simp only [vsAll, loadA, loadRow, partA, partOk, fieldAddrA, nilCheckA, opA, dstOk, Nat.reduceLT, Nat.reduceEqDiff, ↓reduceIte, reduceCtorEq, eq_self, wtAll]
    refine qcall _ ⟨trivial, by simp only [vsAll, okAll, opsA, opA, ↓reduceIte, eq_self], sum_row_tri (drsN h s t h.n) id2 _ (Hp.set_same _ _ _) (by omega) (fun x hx => ?_)⟩ ?_
    ·simp only [drsN, List.mem_map, List.mem_range] at hx
     obtain ⟨p, hp, rfl⟩ := hx
     have := dr_bound h s t p k hp hs ht
     omega
    ·rw [sum_drs]
     have hne' : ¬ id = id2 := fun e => hne e.symm
     simp only [vsAll, opA, mapUpA, dstOk, Nat.reduceEqDiff, ↓reduceIte, eq_self, hne']
     refine ⟨none, ⟨hfo _, hst, fun i v e => by cases e⟩, ?_⟩
     have hes2 : ∀ x ∈ (updM es (surV t s) (.int .i64 (vol h s t)) ck none).toList, memoF h x.key x.val := fun x hx => by
      simp only [updM, Array.toList_push, List.mem_append, List.mem_singleton] at hx
      rcases hx with hx | rfl
      ·exact hes x hx
      ·exact ⟨t, s, rfl, ht, hs, rfl⟩
     have hpw2 : (updM es (surV t s) (.int .i64 (vol h s t)) ck none).toList.Pairwise fun x y => x.key ≠ y.key := by
      simp only [updM, Array.toList_push]
      refine List.pairwise_append.2 ⟨hpw, List.pairwise_singleton _ _, fun x hx y hy => ?_⟩
      rw [List.mem_singleton] at hy
      subst hy
      exact hno x hx
     have hin : ∃ x ∈ (updM es (surV t s) (.int .i64 (vol h s t)) ck none).toList, x.key = surV t s := ⟨⟨surV t s, .int .i64 (vol h s t), ck⟩, by simp [updM], rfl⟩
     have e1 : (Value.int IntKind.i64 (volN h s t h.n)) = .int .i64 (vol h s t) := rfl
     rw [e1]
     generalize updM es (surV t s) (.int .i64 (vol h s t)) ck none = es2 at hes2 hpw2 hin
     generalize updC ck none = ck2
     obtain ⟨o2, hfo2, -, hcase2⟩ := found_of und136q key180q (surK t s ht hs) (fun e he => by
      obtain ⟨t', s', h1, h2, h3, _⟩ := hes2 e he
      rw [h1]; exact surK t' s' h2 h3) hpw2
     refine vs_draw 7 (by decide +kernel) ?_
     simp only [vsAll, loadA, loadRow, partA, partOk, fieldAddrA, nilCheckA, opA, lookA, dstOk, Nat.reduceLT, Nat.reduceEqDiff, ↓reduceIte, reduceCtorEq, eq_self, wtAll]
     refine ⟨o2, hfo2 _, ?_⟩
     rcases hcase2 with ⟨rfl, hno2⟩ | ⟨j, e, rfl, hj, hk⟩
     ·obtain ⟨x, hx, hxk⟩ := hin
      exact absurd hxk (hno2 x hx)
     ·obtain ⟨t', s', h1, h2, h3, h4⟩ := hes2 e (by
       have := Array.getElem?_eq_some_iff.1 hj
       obtain ⟨hl, rfl⟩ := this
       simp)
      have e2 : e.val = .int .i64 (vol h s t) := by
       rw [hk] at h1
       simp only [surV, Value.agg.injEq, Array.mk.injEq, List.cons.injEq, Value.int.injEq, true_and, and_true] at h1
       rw [h4, ← h1.1, ← h1.2]
      simp only [vsAll, e2]
      refine ret0 ?_
      simp only [vsAll, resA, retA.eq_1, ↓reduceIte, eq_self, Tryz.results119]
      refine dropR_pure rfl ?_
      intro i x hi
      by_cases e5 : i = id
      ·subst e5
       rw [ho] at hi; cases hi
       exact ⟨_, Hp.set_same _ _ _, memo_le hes2 hpw2⟩
      ·by_cases e6 : i = id2
       ·subst e6; rw [hid2] at hi; cases hi
       ·exact ⟨x, by rw [Hp.set_ne _ _ e5, Hp.set_ne _ _ e6, Hp.set_ne _ _ e5]; exact hi, .refl _⟩
 ·obtain ⟨t', s', h1, h2, h3, h4⟩ := hes e (by
   have := Array.getElem?_eq_some_iff.1 hj
   obtain ⟨hl, rfl⟩ := this
   simp)
  have e2 : e.val = .int .i64 (vol h s t) := by
   rw [hk] at h1
   simp only [surV, Value.agg.injEq, Array.mk.injEq, List.cons.injEq, Value.int.injEq, true_and, and_true] at h1
   rw [h4, ← h1.1, ← h1.2]
  simp only [vsAll, opA, dstOk, nilSliceOp, Nat.reduceLT, Nat.reduceEqDiff, Nat.reduceBEq, ↓reduceIte, eq_self, e2]
  refine ret0 ?_
  simp only [vsAll, resA, retA.eq_1, ↓reduceIte, eq_self, Tryz.results119]
  exact dropR_pure rfl hback

end Go.Proofs.YtkcgocmjaggdiaaGreat.Wl
end
section
set_option linter.unusedVariables false
set_option linter.unusedSimpArgs false
set_option maxHeartbeats 4000000
set_option maxRecDepth 100000
namespace Go.Proofs.YtkcgocmjaggdiaaGreat.Wl
open Go.V
theorem stand_tri (h : Hd) (id : Nat) (w t : Int) (H : Hp) (k : HOk h) (ho : H id = some (.memo (memoF h))) (hw : 0 ≤ w ∧ w ≤ 100) (ht : -2 ≤ t ∧ t ≤ 2) :
 PTri Tryz.prog (fnA 117) [hdP h id, i64 w, i64 t] H (.agg [i64 t, i64 (hz h w t)]) := by
 refine tri_vs (m := fun _ => false) Tryz.func117 (by kernel_rfl) rfl (by simp only [List.length_append, List.length_cons, List.length_nil, Tryz.ntmps117]; decide) ?_
 simp only [vsAll, opA, allocA, dstOk, nilSliceOp, Nat.reduceAdd, Nat.reduceLT, Int.reduceNeg, eq_self, wtAll, Tryz.ntmps117]
 intro id2 hid2
 have hne : id2 ≠ id := fun e => by rw [e, ho] at hid2; cases hid2
 have hne' : ¬ id = id2 := fun e => hne e.symm
 refine vs_loop (σ := Int × Int) (fun x => -20 ≤ x.1 ∧ x.1 < x.2 ∧ x.2 ≤ 120 ∧ vol h x.1 t ≤ w ∧ w < vol h x.2 t) (fun x => [(0, hdP h id), (1, i64 w), (2, i64 t), (6, .ref id2 0 2 0 0), (7, i64 x.1), (8, i64 x.2)])
  (fun _ => H.set id2 (.box 2 1 fun _ => [i64 0, i64 0])) (fun x => (x.2 - x.1).toNat) (-20, 120) ?_ ?_ ?_ fun x hx => ?_
 ·have h1 := vol_low h (-20) t k ht (by omega)
  have h2 := vol_big h 120 t k ht (by omega)
  exact ⟨by show (-20 : Int) ≤ -20; omega, by show (-20 : Int) < 120; omega, by show (120 : Int) ≤ 120; omega, by show vol h (-20) t ≤ w; omega, by show w < vol h 120 t; omega⟩
 ·simp only [vsAll, argFr, Nat.reduceEqDiff, Int.reduceNeg, ↓reduceIte, reduceCtorEq, eq_self]
 ·simp only [vsAll]
 ·obtain ⟨lo, hi⟩ := x
  obtain ⟨h1, h2, h3, h4, h5⟩ := hx
  simp only at h1 h2 h3 h4 h5
  simp only [vsAll, binA, binLitA, intA, opA, dstOk, Nat.reduceLT, Nat.reduceEqDiff, Int.reduceNeg, ↓reduceIte, reduceCtorEq, eq_self]
  refine ⟨by simp only [InR_i64]; omega, condD (fun hb => ?_) (fun hb => ?_)⟩
  ·have hb2 : (lo + hi) / 2 ^ 1 = (lo + hi) / 2 := rfl
   simp only [vsAll, binA, binLitA, intA, cellA, cellsA, fillA, okParts, okAll, stAll, opsA, partsA, partsOk, opA, dstOk, nilSliceOp, Nat.reduceAdd, Nat.reduceLT, Nat.reduceLeDiff, Nat.reduceEqDiff, Int.reduceNeg, Int.reduceLE, Int.reduceLT, Int.reduceToNat, ↓reduceIte, reduceCtorEq, eq_self, wtAll, hb2]
   refine ⟨by simp only [InR_i64]; omega, rfl, callK_pure (water_tri h id ((lo + hi) / 2) t _ k (by rw [Hp.set_ne _ _ hne']; exact ho) (by omega) ht) ?_⟩
   simp only [vsAll, binA, binLitA, intA, opA, dstOk, Nat.reduceLT, Nat.reduceEqDiff, Int.reduceNeg, ↓reduceIte, reduceCtorEq, eq_self]
   refine condD (fun hc => ?_) (fun hc => ?_)
   ·simp only [vsAll, opA, dstOk, nilSliceOp, Nat.reduceLT, Nat.reduceEqDiff, Int.reduceNeg, ↓reduceIte, eq_self]
    refine loop_next ((lo + hi) / 2, hi) ⟨?_, ?_, h3, hc, h5⟩ ?_ ?_ ?_
    ·show -20 ≤ (lo + hi) / 2; omega
    ·show (lo + hi) / 2 < hi; omega
    ·show (hi - (lo + hi) / 2).toNat < (hi - lo).toNat; omega
    ·simp only [vsAll, Nat.reduceEqDiff, ↓reduceIte, reduceCtorEq, eq_self]
    ·simp only [HSub_refl]
   ·simp only [vsAll, opA, dstOk, nilSliceOp, Nat.reduceLT, Nat.reduceEqDiff, Int.reduceNeg, ↓reduceIte, eq_self]
    refine loop_next (lo, (lo + hi) / 2) ⟨h1, ?_, ?_, h4, Int.not_le.1 hc⟩ ?_ ?_ ?_
    ·show lo < (lo + hi) / 2; omega
    ·show (lo + hi) / 2 ≤ 120; omega
    ·show ((lo + hi) / 2 - lo).toNat < (hi - lo).toNat; omega
    ·simp only [vsAll, Nat.reduceEqDiff, ↓reduceIte, reduceCtorEq, eq_self]
    ·simp only [HSub_refl]
  ·have e : hi = lo + 1 := by omega
   subst e
   have e2 := hz_unique h w t lo k ht hw h4 h5
   simp only [vsAll, cellA, cellsA, fillA, okParts, partsA, partsOk, opA, newCells, okCells, storeObj, dstOk, Nat.reduceAdd, Nat.reduceLT, Nat.reduceLeDiff, Nat.reduceEqDiff, Int.reduceNeg, ↓reduceIte, reduceCtorEq, eq_self, wtAll]
   refine ret0 ?_
   simp only [vsAll, loadA, loadRow, partA, partOk, resA, retA.eq_1, Nat.reduceLT, Nat.reduceEqDiff, ↓reduceIte, reduceCtorEq, eq_self, wtAll, Tryz.results117, Hp.set_set]
   rw [← e2]
   exact dropR_pure rfl (HSub_drop hid2)

theorem isPart_tri (h : Hd) (id : Nat) (p : Int) (H : Hp) (k : Near h) : PTri Tryz.prog (fnA 78) [hdP h id, i64 p] H (boo (partB h p)) := by
 have := k.n
 refine tri_v0 (fun _ => false) Tryz.func78 (by kernel_rfl) rfl (by simp only [List.length_append, List.length_cons, List.length_nil, Tryz.ntmps78]; decide) ?_
 simp only [vsAll, binA, binLitA, intA, loadA, loadRow, partA, partOk, fieldAddrA, lenA, nilCheckA, okAll, stAll, opsA, opA, dstOk, nilSliceOp, argFr, Nat.reduceLT, Nat.reduceEqDiff, ↓reduceIte, reduceCtorEq, eq_self, wtAll, Tryz.ntmps78]
 refine ⟨by simp only [InR_i64]; omega, callK_pure (within_tri p 0 ((h.n : Int) - 1) H) ?_⟩
 simp only [vsAll, opA, dstOk, nilSliceOp, resA, retA.eq_1, Nat.reduceLT, ↓reduceIte, eq_self, Tryz.results78, partB]

theorem isList_tri (w : Int) (H : Hp) : PTri Tryz.prog (fnA 79) [i64 w] H (boo (tiltB w)) := by
 refine tri_v0 (fun _ => false) Tryz.func79 (by kernel_rfl) rfl (by simp only [List.length_append, List.length_cons, List.length_nil, Tryz.ntmps79]; decide) ?_
 simp only [vsAll, okAll, stAll, opsA, opA, dstOk, nilSliceOp, argFr, Nat.reduceLT, Int.reduceNeg, ↓reduceIte, reduceCtorEq, eq_self, Tryz.ntmps79]
 refine callK_pure (within_tri w (-2) 2 H) ?_
 simp only [vsAll, opA, dstOk, nilSliceOp, resA, retA.eq_1, Nat.reduceLT, Int.reduceNeg, ↓reduceIte, eq_self, Tryz.results79, tiltB]

theorem every_tri (h : Hd) (id : Nat) (H : Hp) (k : HOk h) : PTri Tryz.prog (fnA 81) [hdP h id] H (u64 ((2 ^ h.m - 1 : Nat) : Int)) := by
 have hm := k.m
 have h1 : 2 ^ h.m ≤ 2 ^ 6 := Nat.pow_le_pow_right (by omega) hm
 have h0 : 0 < 2 ^ h.m := Nat.pos_of_ne_zero (by simp)
 refine tri_v0 (fun _ => false) Tryz.func81 (by kernel_rfl) rfl (by simp only [List.length_append, List.length_cons, List.length_nil, Tryz.ntmps81]; decide) ?_
 simp only [vsAll, binA, binLitA, intA, loadA, loadRow, partA, partOk, fieldAddrA, lenA, nilCheckA, opA, dstOk, nilSliceOp, resA, argFr, retA.eq_1, Nat.reduceLT, ↓reduceIte, reduceCtorEq, eq_self, wtAll, Tryz.ntmps81, Tryz.results81, Int.one_mul]
 have e : (2 : Int) ^ h.m = ((2 ^ h.m : Nat) : Int) := by simp
 rw [e]
 have e2 : ((2 ^ h.m : Nat) : Int) - 1 = ((2 ^ h.m - 1 : Nat) : Int) := by omega
 refine ⟨⟨by omega, by omega, by simp only [InR_u64]; omega⟩, by simp only [InR_u64]; omega, by rw [e2]⟩

theorem wdeep_tri (h : Hd) (id : Nat) (w t p : Int) (H : Hp) (k : HOk h) (ho : H id = some (.memo (memoF h))) (hw : 0 ≤ w ∧ w ≤ 100) (ht : -2 ≤ t ∧ t ≤ 2) (hp : 0 ≤ p ∧ p < h.n) :
 PTri Tryz.prog (fnA 115) [hdP h id, i64 w, i64 t, i64 p] H (i64 (dz h w t p)) := by
 have hz1 := hz_spec h w t k ht hw
 refine tri_v0 (fun _ => false) Tryz.func115 (by kernel_rfl) rfl (by simp only [List.length_append, List.length_cons, List.length_nil, Tryz.ntmps115]; decide) ?_
 simp only [vsAll, okAll, stAll, opsA, opA, dstOk, nilSliceOp, argFr, Nat.reduceLT, Nat.reduceEqDiff, ↓reduceIte, reduceCtorEq, eq_self, Tryz.ntmps115]
 refine callK_pure (stand_tri h id w t H k ho hw ht) ?_
 simp only [vsAll, okAll, stAll, opsA, opA, dstOk, argFr, Nat.reduceLT, Nat.reduceEqDiff, ↓reduceIte, eq_self]
 refine callK_pure (depth_tri h id (hz h w t) t p H k hp (by omega) ht) ?_
 simp only [vsAll, mmA, okAll, stAll, opsA, opA, dstOk, nilSliceOp, resA, retA.eq_1, Nat.reduceLT, ↓reduceIte, eq_self, Tryz.results115, dz, uz_dr]

end Go.Proofs.YtkcgocmjaggdiaaGreat.Wl
end
section
set_option linter.unusedVariables false
set_option linter.unusedSimpArgs false
set_option maxHeartbeats 4000000
set_option maxRecDepth 100000
namespace Go.Proofs.YtkcgocmjaggdiaaGreat.Wl
open Go.V
def amF (a : Nat → Bool) : Nat → List AV := fun i => [boo (a i)]
abbrev amAV (a : Nat → Bool) : AV := .arr 101 1 (amF a)
theorem amF_at (a : Nat → Bool) (i : Nat) : amF a i = [boo (a i)] := rfl

theorem wall_tri (H : Hp) : PTri Tryz.prog (fnA 85) [] H (amAV fun _ => true) := by
 refine tri_vs (m := fun _ => false) Tryz.func85 (by kernel_rfl) rfl (by simp only [List.length_append, List.length_nil, Tryz.ntmps85]; decide) ?_
 simp only [vsAll, opA, allocA, dstOk, Nat.reduceLT, eq_self, wtAll, Tryz.ntmps85]
 intro id hid
 refine vs_loop (σ := Nat) (fun i => i ≤ 101) (fun i => [(0, .ref id 0 1 0 0), (2, i64 i)]) (fun i => H.set id (.box 1 101 (amF fun j => decide (j < i)))) (fun i => 101 - i) 0 (by omega) ?_ ?_ fun i hi => ?_
 ·simp only [vsAll, ↓reduceIte, reduceCtorEq, eq_self, Int.natCast_zero]
 ·refine HSub_set (box_ext fun j hj => ?_)
  simp [amF]
 ·simp only [vsAll, binA, binLitA, intA, opA, dstOk, Nat.reduceLT, ↓reduceIte, reduceCtorEq, eq_self]
  refine condD (fun hd => ?_) (fun hd => ?_)
  ·simp only [vsAll, binA, binLitA, intA, indexAddrA, cellA, cellsA, opA, newCells, okCells, storeObj, dstOk, nilSliceOp, Nat.reduceLT, Nat.reduceEqDiff, ↓reduceIte, reduceCtorEq, eq_self, wtAll, amF_at]
   refine ⟨by omega, by omega, by simp only [InR_i64]; omega, loop_next (i + 1) (by omega) (by omega) ?_ ?_⟩
   ·simp only [vsAll, ↓reduceIte, reduceCtorEq, eq_self, Int.natCast_add, Int.natCast_one]
   ·rw [Hp.set_set]
    refine HSub_set (box_ext fun j hj => ?_)
    rw [updF_at (by omega) hj]
    simp only [amF]
    split
    ·rename_i e; subst e; simp
    ·congr 3
     exact propext ⟨fun _ => by omega, fun _ => by omega⟩
  ·have e : i = 101 := by omega
   subst e
   simp only [vsAll, loadA, loadRow, cellA, opA, okCells, storeObj, dstOk, Nat.reduceMul, Nat.reduceLT, ↓reduceIte, reduceCtorEq, implies_true, eq_self, wtAll, amF_at]
   rw [Hp.set_set]
   refine ret_of [(0, .ref id 0 1 0 0)] (H.set id (.box 1 101 (amF fun _ => true))) ?_ (HSub_set (box_ext fun j hj => ?_)) ?_
   ·simp only [vsAll, ↓reduceIte, reduceCtorEq, eq_self]
   ·simp [amF, hj]
   ·simp only [vsAll, loadA, loadRow, resA, retA.eq_1, ↓reduceIte, eq_self, wtAll, Tryz.results85]
    exact dropR_pure rfl (HSub_drop hid)

def someB (a : Nat → Bool) : Bool := (List.range 101).any a
theorem some_tri (a : Nat → Bool) (H : Hp) : PTri Tryz.prog (fnA 82) [amAV a] H (boo (someB a)) := by
 refine tri_v0 (fun _ => false) Tryz.func82 (by kernel_rfl) rfl (by simp only [List.length_append, List.length_cons, List.length_nil, Tryz.ntmps82]; decide) ?_
 simp only [vsAll, loadA, loadRow, boxA, boxZ, opA, dstOk, nilSliceOp, argFr, Nat.reduceLT, Nat.reduceEqDiff, ↓reduceIte, eq_self, wtAll, Tryz.ntmps82]
 refine vs_loop (σ := Nat) (fun i => i ≤ 101 ∧ ∀ j, j < i → a j = false) (fun i => [(5, amAV a), (6, i64 i)]) (fun i => H) (fun i => 101 - i) 0 ⟨by omega, fun j hj => absurd hj (by omega)⟩ ?_ ?_ fun i hi => ?_
 ·simp only [vsAll, Nat.reduceEqDiff, ↓reduceIte, eq_self, Int.natCast_zero]
 ·simp only [HSub_refl]
 ·obtain ⟨hi, hall⟩ := hi
  simp only [vsAll, binA, binLitA, intA, opA, dstOk, Nat.reduceLT, Nat.reduceEqDiff, ↓reduceIte, eq_self]
  refine condD (fun hd => ?_) (fun hd => ?_)
  ·simp only [vsAll, partA, indexA, opA, dstOk, nilSliceOp, Nat.reduceLT, Nat.reduceEqDiff, ↓reduceIte, eq_self, wtAll, amF_at]
   refine ⟨by omega, condV (fun hc => ?_) (fun hc => ?_)⟩
   ·have : someB a = true := by
     simp only [someB, List.any_eq_true, List.mem_range]
     exact ⟨i, by omega, hc⟩
    simp only [vsAll, opA, dstOk, nilSliceOp, resA, retA.eq_1, Nat.reduceLT, ↓reduceIte, eq_self, Tryz.results82, this]
   ·simp only [vsAll, binA, binLitA, intA, opA, dstOk, Nat.reduceLT, Nat.reduceEqDiff, ↓reduceIte, eq_self]
    refine ⟨by simp only [InR_i64]; omega, loop_next (i + 1) ⟨by omega, fun j hj => ?_⟩ (by omega) ?_ ?_⟩
    ·by_cases e : j = i
     ·subst e; exact hc
     ·exact hall j (by omega)
    ·simp only [vsAll, Nat.reduceEqDiff, ↓reduceIte, eq_self, Int.natCast_add, Int.natCast_one]
    ·simp only [HSub_refl]
  ·have : someB a = false := by
    simp only [someB, List.any_eq_false, List.mem_range, Bool.not_eq_true]
    exact fun j hj => hall j (by omega)
   simp only [vsAll, opA, dstOk, nilSliceOp, resA, retA.eq_1, Nat.reduceLT, ↓reduceIte, eq_self, Tryz.results82, this]

theorem listed_tri (h : Hd) (id : Nat) (s : Sd) (t w : Int) (H : Hp) (k : HOk h) (ho : H id = some (.memo (memoF h))) (hw : 0 ≤ w ∧ w ≤ 100) (ht : -2 ≤ t ∧ t ≤ 2) (hp : 0 ≤ s.w ∧ s.w < h.n) :
 PTri Tryz.prog (fnA 114) [.agg (s.cs ++ [i64 t]), hdP h id, i64 w] H (boo (rightB h s w t)) := by
 refine tri_v0 (fun _ => false) Tryz.func114 (by kernel_rfl) rfl (by simp only [List.length_append, List.length_cons, List.length_nil, Tryz.ntmps114]; decide) ?_
 simp only [vsAll, boxA, boxZ, opA, dstOk, nilSliceOp, argFr, Nat.reduceAdd, Nat.reduceLT, eq_self, wtAll, Tryz.ntmps114]
 refine vs_draw 36 (by decide +kernel) ?_
 simp only [vsAll, loadA, loadRow, partA, partOk, fieldAddrA, opA, dstOk, Nat.reduceAdd, Nat.reduceLT, Nat.reduceEqDiff, ↓reduceIte, eq_self, wtAll]
 refine qcall _ ⟨trivial, by simp only [vsAll, okAll, opsA, opA, Nat.reduceEqDiff, ↓reduceIte, eq_self], within_tri t s.a s.b H⟩ ?_
 simp only [vsAll, loadA, loadRow, partA, partOk, fieldAddrA, opA, guardV, dstOk, argFr, Nat.reduceLT, Nat.reduceEqDiff, ↓reduceIte, implies_true, eq_self, wtAll]
 refine qgcall _ (fun hg => ⟨trivial, by simp only [vsAll, okAll, opsA, opA, Nat.reduceEqDiff, ↓reduceIte, eq_self, hg], wdeep_tri h id w t s.w H k ho hw ht hp⟩) ?_
 simp only [vsAll, loadA, loadRow, partA, partOk, fieldAddrA, opA, guardV, dstOk, Nat.reduceAdd, Nat.reduceLT, Nat.reduceEqDiff, ↓reduceIte, implies_true, eq_self, wtAll]
 refine qgcall _ (fun hg => ⟨trivial, by simp only [vsAll, okAll, opsA, opA, Nat.reduceEqDiff, ↓reduceIte, eq_self, hg], within_tri (dz h w t s.w) s.c s.d H⟩) ?_
 simp only [vsAll, pickA, opA, dstOk, resA, retA.eq_1, Nat.reduceLT, Nat.reduceEqDiff, ↓reduceIte, implies_true, eq_self, Tryz.results114, rightB]

/-- Some list is right. -/
theorem any_iff (h : Hd) (s : Sd) (w : Int) (hl : -2 ≤ s.a ∧ s.a ≤ s.b ∧ s.b ≤ 2) : anyN h s w 5 = true ↔ ∃ t, s.a ≤ t ∧ t ≤ s.b ∧ rightB h s w t = true := by
 simp only [anyN, List.any_eq_true, List.mem_range]
 constructor
 ·rintro ⟨j, hj, hr⟩
  refine ⟨(j : Int) - 2, ?_, ?_, hr⟩ <;> simp only [rightB, Bool.and_eq_true, decide_eq_true_eq] at hr <;> omega
 ·rintro ⟨t, h1, h2, hr⟩
  refine ⟨(t + 2).toNat, by omega, ?_⟩
  have e : (((t + 2).toNat : Nat) : Int) - 2 = t := by omega
  rw [e]; exact hr

theorem sounded_tri (h : Hd) (id : Nat) (s : Sd) (w : Int) (H : Hp) (k : HOk h) (ho : H id = some (.memo (memoF h))) (hw : 0 ≤ w ∧ w ≤ 100) (hp : 0 ≤ s.w ∧ s.w < h.n) (hl : -2 ≤ s.a ∧ s.a ≤ s.b ∧ s.b ≤ 2) :
 PTri Tryz.prog (fnA 113) [.agg s.cs, hdP h id, i64 w] H (boo (anyN h s w 5)) := by
 refine tri_v0 (fun _ => false) Tryz.func113 (by kernel_rfl) rfl (by simp only [List.length_append, List.length_cons, List.length_nil, Tryz.ntmps113]; decide) ?_
 simp only [vsAll, loadA, loadRow, partA, partOk, fieldAddrA, boxA, boxZ, opA, dstOk, nilSliceOp, argFr, Nat.reduceAdd, Nat.reduceLT, Nat.reduceEqDiff, ↓reduceIte, eq_self, wtAll, Tryz.ntmps113]
 refine vs_loop (σ := Int) (fun l => s.a ≤ l ∧ l ≤ s.b + 1 ∧ ∀ t, s.a ≤ t → t < l → rightB h s w t = false) (fun l => [(1, hdP h id), (2, i64 w), (3, .rptr 1 5 (fun _ => s.cs) 0 0), (7, i64 l)]) (fun _ => H) (fun l => (10 - l).toNat) s.a ⟨by omega, by omega, fun t h1 h2 => absurd h2 (by omega)⟩ ?_ ?_ fun l hll => ?_
 ·simp only [vsAll, argFr, Nat.reduceEqDiff, ↓reduceIte, eq_self]
 ·simp only [HSub_refl]
 ·obtain ⟨h1, h2, hall⟩ := hll
  simp only [vsAll, binA, binLitA, intA, loadA, loadRow, partA, partOk, fieldAddrA, opA, dstOk, Nat.reduceAdd, Nat.reduceLT, Nat.reduceEqDiff, ↓reduceIte, eq_self, wtAll]
  refine condD (fun hd => ?_) (fun hd => ?_)
  ·simp only [vsAll, loadA, loadRow, partA, partOk, cellA, cellsA, fillA, okParts, okAll, stAll, opsA, partsA, partsOk, opA, dstOk, Nat.reduceAdd, Nat.reduceLT, Nat.reduceLeDiff, Nat.reduceEqDiff, ↓reduceIte, eq_self, wtAll]
   refine callK_pure (listed_tri h id s l w H k ho hw (by omega) hp) ?_
   simp only [vsAll, opA, ↓reduceIte, eq_self]
   refine condV (fun hc => ?_) (fun hc => ?_)
   ·have : anyN h s w 5 = true := (any_iff h s w hl).2 ⟨l, h1, hd, hc⟩
    simp only [vsAll, opA, dstOk, nilSliceOp, resA, retA.eq_1, Nat.reduceLT, ↓reduceIte, eq_self, Tryz.results113, this]
   ·simp only [vsAll, binA, binLitA, intA, opA, dstOk, nilSliceOp, Nat.reduceLT, Nat.reduceEqDiff, ↓reduceIte, eq_self]
    refine ⟨by simp only [InR_i64]; omega, loop_next (l + 1) ⟨by omega, by omega, fun t h3 h4 => ?_⟩ (by omega) ?_ ?_⟩
    ·by_cases e : t = l
     ·subst e; exact hc
     ·exact hall t h3 (by omega)
    ·simp only [vsAll, Nat.reduceEqDiff, ↓reduceIte, eq_self]
    ·simp only [HSub_refl]
  ·have : anyN h s w 5 = false := by
    rw [← Bool.not_eq_true, any_iff h s w hl]
    rintro ⟨t, h3, h4, h5⟩
    rw [hall t h3 (by omega)] at h5; cases h5
   simp only [vsAll, opA, dstOk, nilSliceOp, resA, retA.eq_1, Nat.reduceLT, ↓reduceIte, eq_self, Tryz.results113, this]

/-- Those of some amounts of which something is so. -/
theorem left_tri (h : Hd) (id T : Nat) (recv : AV) (a q : Nat → Bool) (H : Hp) (k : HOk h) (ho : H id = some (.memo (memoF h)))
 (hq : ∀ (H' : Hp) (w : Nat), H' id = some (.memo (memoF h)) → w < 101 → PTri Tryz.prog (.func (.method "caulkworks/well.is") [.iface T recv] []) [hdP h id, i64 w] H' (boo (q w))) :
 PTri Tryz.prog (fnA 86) [amAV a, hdP h id, .iface T recv] H (amAV fun w => a w && q w) := by
 refine tri_vs (m := fun _ => false) Tryz.func86 (by kernel_rfl) rfl (by simp only [List.length_append, List.length_cons, List.length_nil, Tryz.ntmps86]; decide) ?_
 simp only [vsAll, loadA, loadRow, nilCheckA, boxA, boxZ, okAll, stAll, opsA, opA, allocA, storeObj, dstOk, nilSliceOp, argFr, Nat.reduceMul, Nat.reduceLT, Nat.reduceEqDiff, ↓reduceIte, eq_self, wtAll, Tryz.ntmps86]
 intro i6 h6 i8 h8
 have n6 : i6 ≠ id := fun e => by rw [e, ho] at h6; cases h6
 have n86 : i8 ≠ i6 := fun e => by rw [if_pos e] at h8; cases h8
 rw [if_neg n86] at h8
 have n8 : i8 ≠ id := fun e => by rw [e, ho] at h8; cases h8
 have m6 : ¬ id = i6 := fun e => n6 e.symm
 have m8 : ¬ id = i8 := fun e => n8 e.symm
 have m86 : ¬ i6 = i8 := fun e => n86 e.symm
 refine ⟨fun j hj => by simp [amF, okCells, cellA], ?_⟩
 refine vs_loop (σ := Nat) (fun i => i ≤ 101) (fun i => [(1, hdP h id), (6, .ref i6 0 1 0 0), (7, .func (.method "caulkworks/well.is") [.iface T recv] []), (8, .ref i8 0 1 0 0), (14, i64 i)])
  (fun i => (H.set i6 (.box 1 101 fun _ => [boo false])).set i8 (.box 1 101 (amF fun j => if j < i then a j && q j else a j))) (fun i => 101 - i) 0 (by omega) ?_ ?_ fun i hi => ?_
 ·simp only [vsAll, argFr, Nat.reduceEqDiff, ↓reduceIte, eq_self, Int.natCast_zero]
 ·rw [Hp.set_set]
  refine HSub_set (box_ext fun j hj => ?_)
  simp [amF]
 ·simp only [vsAll, binA, binLitA, intA, opA, dstOk, Nat.reduceLT, Nat.reduceEqDiff, ↓reduceIte, eq_self]
  refine condD (fun hd => ?_) (fun hd => ?_)
  ·simp only [vsAll, loadA, loadRow, partA, partOk, indexAddrA, opA, guardV, dstOk, nilSliceOp, Nat.reduceLT, Nat.reduceEqDiff, ↓reduceIte, implies_true, eq_self, wtAll, amF_at]
   refine ⟨by omega, by omega, ?_⟩
   apply gcall
   ·intro hg
    exact ⟨by simp only [vsAll, opA, Nat.reduceEqDiff, ↓reduceIte, eq_self, hg], by simp only [vsAll, okAll, opsA, opA, Nat.reduceEqDiff, ↓reduceIte, eq_self, hg], hq _ i (by rw [Hp.set_ne _ _ m8, Hp.set_ne _ _ m6]; exact ho) (by omega)⟩
   ·simp only [vsAll, binA, binLitA, intA, indexAddrA, cellA, cellsA, pickA, opA, newCells, okCells, storeObj, dstOk, Nat.reduceLT, Nat.reduceEqDiff, ↓reduceIte, implies_true, eq_self, wtAll, amF_at]
    refine ⟨by omega, by omega, by simp only [InR_i64]; omega, loop_next (i + 1) (by omega) (by omega) ?_ ?_⟩
    ·simp only [vsAll, Nat.reduceEqDiff, ↓reduceIte, eq_self, Int.natCast_add, Int.natCast_one]
    ·rw [Hp.set_set]
     refine HSub_set (box_ext fun j hj => ?_)
     rw [updF_at (by omega) hj]
     simp only [amF]
     by_cases e : j = i
     ·subst e
      rw [if_pos rfl, if_pos (by omega)]
     ·rw [if_neg e]
      by_cases e2 : j < i
      ·rw [if_pos e2, if_pos (by omega)]
      ·rw [if_neg e2, if_neg (by omega)]
  ·have e : i = 101 := by omega
   subst e
   simp only [vsAll, loadA, loadRow, cellA, opA, okCells, storeObj, dstOk, Nat.reduceMul, Nat.reduceLT, Nat.reduceEqDiff, ↓reduceIte, implies_true, eq_self, wtAll, amF_at, m86]
   refine ret_of [(6, .ref i6 0 1 0 0)] (H.set i6 (.box 1 101 (amF fun w => a w && q w))) ?_ ?_ ?_
   ·simp only [vsAll, Nat.reduceEqDiff, ↓reduceIte, eq_self]
   ·intro i x hi
    by_cases e : i = i6
    ·subst e
     rw [Hp.set_same] at hi ⊢
     cases hi
     refine ⟨_, rfl, box_ext fun j hj => ?_⟩
     simp only [amF, if_pos hj]
    ·rw [Hp.set_ne _ _ e] at hi ⊢
     by_cases e8 : i = i8
     ·subst e8; rw [h8] at hi; cases hi
     ·exact ⟨x, by rw [Hp.set_ne _ _ e8, Hp.set_ne _ _ e]; exact hi, .refl _⟩
   ·simp only [vsAll, loadA, loadRow, resA, retA.eq_1, ↓reduceIte, eq_self, wtAll, Tryz.results86]
    exact dropR_pure rfl (HSub_drop h6)

end Go.Proofs.YtkcgocmjaggdiaaGreat.Wl
end
section
set_option linter.unusedVariables false
set_option linter.unusedSimpArgs false
set_option maxHeartbeats 4000000
set_option maxRecDepth 100000
namespace Go.Proofs.YtkcgocmjaggdiaaGreat.Wl
open Go.V
def byN (h : Hd) (S : Nat) : Nat → Nat → Bool
 | 0 => fun _ => true
 | i + 1 => fun w => byN h S i w && okc h w S i
theorem byN_iff (h : Hd) (S n w : Nat) : byN h S n w = true ↔ ∀ i, i < n → okc h w S i = true := by
 induction n with
 | zero => simp [byN]
 | succ n ih =>
   simp only [byN, Bool.and_eq_true, ih]
   constructor
   ·rintro ⟨h1, h2⟩ i hi
    by_cases e : i = n
    ·subst e; exact h2
    ·exact h1 i (by omega)
   ·exact fun h1 => ⟨fun i hi => h1 i (by omega), h1 n (by omega)⟩
theorem byN_can (h : Hd) (S w : Nat) : byN h S h.m w = canB h w S := by
 have := byN_iff h S h.m w
 rw [Bool.eq_iff_iff, this]
 simp [canB]
theorem by_tri (h : Hd) (id S : Nat) (H : Hp) (k : HOk h) (ho : H id = some (.memo (memoF h))) (hS : S < 2 ^ 60) :
 PTri Tryz.prog (fnA 80) [hdP h id, u64 S] H (amAV (byN h S h.m)) := by
 have hm := k.m
 refine tri_vs (m := fun _ => false) Tryz.func80 (by kernel_rfl) rfl (by simp only [List.length_append, List.length_cons, List.length_nil, Tryz.ntmps80]; decide) ?_
 simp only [vsAll, okAll, stAll, opsA, opA, allocA, dstOk, Nat.reduceLT, eq_self, wtAll, Tryz.ntmps80]
 intro i4 h4
 have n4 : i4 ≠ id := fun e => by rw [e, ho] at h4; cases h4
 have m4 : ¬ id = i4 := fun e => n4 e.symm
 refine callK_pure (wall_tri _) ?_
 simp only [vsAll, loadA, loadRow, partA, partOk, fieldAddrA, lenA, nilCheckA, opA, allocA, storeObj, dstOk, argFr, Nat.reduceMul, Nat.reduceLT, Nat.reduceEqDiff, ↓reduceIte, reduceCtorEq, eq_self, wtAll]
 intro i5 h5
 have n54 : i5 ≠ i4 := fun e => by rw [if_pos e] at h5; cases h5
 rw [if_neg n54] at h5
 have n5 : i5 ≠ id := fun e => by rw [e, ho] at h5; cases h5
 have m5 : ¬ id = i5 := fun e => n5 e.symm
 have m54 : ¬ i4 = i5 := fun e => n54 e.symm
 refine ⟨fun j hj => by simp [amF, okCells, cellA], ?_⟩
 refine vs_loop (σ := Nat) (fun i => i ≤ h.m) (fun i => [(0, hdP h id), (1, u64 S), (4, .ref i4 0 1 0 0), (5, .ref i5 0 1 0 0), (13, sdAV h.m h.sd), (14, i64 h.m), (15, i64 i)])
  (fun i => (H.set i4 (.box 1 101 fun _ => [boo false])).set i5 (.box 1 101 (amF (byN h S i)))) (fun i => h.m - i) 0 (by omega) ?_ ?_ fun i hi => ?_
 ·simp only [vsAll, argFr, Nat.reduceEqDiff, ↓reduceIte, reduceCtorEq, eq_self, Int.natCast_zero]
 ·rw [Hp.set_set]
  simp only [byN, HSub_refl]
 ·simp only [vsAll, binA, binLitA, intA, opA, dstOk, Nat.reduceLT, Nat.reduceEqDiff, ↓reduceIte, reduceCtorEq, eq_self]
  refine condD (fun hd => ?_) (fun hd => ?_)
  ·simp only [vsAll, binA, binLitA, intA, loadA, loadRow, partA, partOk, indexAddrA, cellA, opA, allocA, newCells, okCells, storeObj, dstOk, nilSliceOp, Nat.reduceAdd, Nat.reduceLT, Nat.reduceEqDiff, Int.reduceLE, Int.reduceToNat, ↓reduceIte, reduceCtorEq, eq_self, wtAll]
   refine ⟨by omega, by omega, ?_⟩
   intro i7 h7
   have n75 : i7 ≠ i5 := fun e => by rw [if_pos e] at h7; cases h7
   rw [if_neg n75] at h7
   have n74 : i7 ≠ i4 := fun e => by rw [if_pos e] at h7; cases h7
   rw [if_neg n74] at h7
   have n7 : i7 ≠ id := fun e => by rw [e, ho] at h7; cases h7
   have m7 : ¬ id = i7 := fun e => n7 e.symm
   have m75 : ¬ i5 = i7 := fun e => n75 e.symm
   have hlt : S / 2 ^ i ≤ S := Nat.div_le_self _ _
   have e0 : (S : Int) / 2 ^ i = ((S / 2 ^ i : Nat) : Int) := by simp
   have eb := bit_eq S i
   have drop : ∀ X Y : Go.V.Obj, ∀ Z : Go.V.Obj, Z = X → Go.V.HSub ((((H.set i4 (.box 1 101 fun _ => [boo false])).set i5 Z).set i7 Y)) ((H.set i4 (.box 1 101 fun _ => [boo false])).set i5 X) := by
    intro X Y Z e j x hx
    subst e
    by_cases e7 : j = i7
    ·subst e7
     rw [Hp.set_ne _ _ n75, Hp.set_ne _ _ n74, h7] at hx; cases hx
    ·exact ⟨x, by rw [Hp.set_ne _ _ e7]; exact hx, .refl _⟩
   simp only [Hp.set_set]
   have eb' : decide (((((S : Int) / 2 ^ i).toNat &&& 1 : Nat) : Int) = 1) = S.testBit i := eb
   refine ⟨⟨by omega, by omega, rfl⟩, ⟨by rw [e0]; exact Int.natCast_nonneg _, by rw [e0, InR_u64]; generalize S / 2 ^ i = q at *; omega, by simp only [InR_u64]; omega⟩, ?_⟩
   refine condV (fun hc => ?_) (fun hc => ?_)
   ·rw [eb'] at hc
    simp only [vsAll, loadA, loadRow, partA, partOk, cellsA, fillA, okParts, ifaceA, okAll, stAll, opsA, partsA, partsOk, opA, dstOk, Nat.reduceAdd, Nat.reduceLT, Nat.reduceEqDiff, ↓reduceIte, reduceCtorEq, eq_self, wtAll, m75]
    refine callK_pure (left_tri h id 141 (.agg (h.sd i).cs) (byN h S i) (fun w => anyN h (h.sd i) w 5) _ k (by rw [Hp.set_ne _ _ m7, Hp.set_ne _ _ m5, Hp.set_ne _ _ m4]; exact ho)
     (fun H' w hH' hw => tri_meth meth154 (sounded_tri h id (h.sd i) w H' k hH' (by omega) (k.w i (by omega)) (k.l i (by omega))))) ?_
    have en : (fun w => byN h S i w && anyN h (h.sd i) w 5) = byN h S (i + 1) := by
     funext w; simp only [byN, okc, hc, Bool.not_true, Bool.false_or]
    rw [en]
    simp only [vsAll, binA, binLitA, intA, opA, storeObj, dstOk, Nat.reduceMul, Nat.reduceLT, Nat.reduceEqDiff, ↓reduceIte, reduceCtorEq, eq_self, wtAll, m75]
    refine ⟨fun j hj => by simp [amF, okCells, cellA], by simp only [InR_i64]; omega, loop_next (i + 1) (by omega) (by omega) ?_ ?_⟩
    ·simp only [vsAll, Nat.reduceEqDiff, ↓reduceIte, reduceCtorEq, eq_self, Int.natCast_add, Int.natCast_one]
    ·intro j x hx
     by_cases e5 : j = i5
     ·subst e5
      rw [Hp.set_same] at hx
      exact ⟨x, by rw [Hp.set_same]; exact hx, .refl _⟩
     ·rw [Hp.set_ne _ _ e5] at hx
      by_cases e7 : j = i7
      ·subst e7; rw [Hp.set_ne _ _ n74, h7] at hx; cases hx
      ·exact ⟨x, by rw [Hp.set_ne _ _ e5, Hp.set_ne _ _ e7, Hp.set_ne _ _ e5]; exact hx, .refl _⟩
   ·rw [eb'] at hc
    have en : byN h S (i + 1) = byN h S i := by
     funext w; simp only [byN, okc, hc, Bool.not_false, Bool.true_or, Bool.and_true]
    simp only [vsAll, binA, binLitA, intA, opA, dstOk, Nat.reduceLT, Nat.reduceEqDiff, ↓reduceIte, reduceCtorEq, eq_self]
    refine ⟨by simp only [InR_i64]; omega, loop_next (i + 1) (by omega) (by omega) ?_ ?_⟩
    ·simp only [vsAll, Nat.reduceEqDiff, ↓reduceIte, reduceCtorEq, eq_self, Int.natCast_add, Int.natCast_one]
    ·rw [en]; exact drop _ _ _ rfl
  ·have e : i = h.m := by omega
   subst e
   simp only [vsAll, loadA, loadRow, cellA, opA, okCells, storeObj, dstOk, Nat.reduceMul, Nat.reduceLT, Nat.reduceEqDiff, ↓reduceIte, reduceCtorEq, implies_true, eq_self, wtAll, amF_at, m54]
   refine ret0 ?_
   simp only [vsAll, loadA, loadRow, resA, retA.eq_1, Nat.reduceEqDiff, ↓reduceIte, reduceCtorEq, eq_self, wtAll, Tryz.results80]
   refine dropR_pure rfl ?_
   intro j x hx
   have e4 : j ≠ i4 := fun e => by rw [e, h4] at hx; cases hx
   have e5 : j ≠ i5 := fun e => by rw [e, h5] at hx; cases hx
   exact ⟨x, by rw [Hp.set_ne _ _ e4, Hp.set_ne _ _ e5, Hp.set_ne _ _ e4]; exact hx, .refl _⟩

end Go.Proofs.YtkcgocmjaggdiaaGreat.Wl
end
section
set_option linter.unusedVariables false
set_option linter.unusedSimpArgs false
set_option maxHeartbeats 4000000
set_option maxRecDepth 100000
namespace Go.Proofs.YtkcgocmjaggdiaaGreat.Wl
open Go.V
/-- All amounts, on the program's side. -/
def toldB (h : Hd) : Nat → Bool := byN h (2 ^ h.m - 1) h.m

theorem told_tri (h : Hd) (id : Nat) (H : Hp) (k : HOk h) (ho : H id = some (.memo (memoF h))) :
 Tri Tryz.prog (fnA 71) [hdP h id] H fun r H' => (r = if someB (toldB h) then .ret (amAV (toldB h)) else .pan (.iface 129 (i64 10))) ∧ H' = H := by
 have hm := k.m
 have h1 : 2 ^ h.m ≤ 2 ^ 6 := Nat.pow_le_pow_right (by omega) hm
 refine tri_vs (m := fun _ => false) Tryz.func71 (by kernel_rfl) rfl (by simp only [List.length_append, List.length_cons, List.length_nil, Tryz.ntmps71]; decide) ?_
 simp only [vsAll, okAll, stAll, opsA, opA, allocA, dstOk, argFr, Nat.reduceLT, ↓reduceIte, reduceCtorEq, eq_self, wtAll, Tryz.ntmps71]
 intro i2 h2
 have n2 : i2 ≠ id := fun e => by rw [e, ho] at h2; cases h2
 have m2 : ¬ id = i2 := fun e => n2 e.symm
 refine callK_pure (every_tri h id _ k) ?_
 simp only [vsAll, okAll, stAll, opsA, opA, dstOk, Nat.reduceLT, Nat.reduceEqDiff, ↓reduceIte, eq_self]
 refine callK_pure (by_tri h id (2 ^ h.m - 1) _ k (by rw [Hp.set_ne _ _ m2]; exact ho) (by omega)) ?_
 simp only [vsAll, loadA, loadRow, okAll, stAll, opsA, opA, allocA, storeObj, dstOk, nilSliceOp, Nat.reduceMul, Nat.reduceLT, Nat.reduceEqDiff, ↓reduceIte, eq_self, wtAll]
 intro i3 h3
 have n32 : i3 ≠ i2 := fun e => by rw [if_pos e] at h3; cases h3
 rw [if_neg n32] at h3
 have m32 : ¬ i2 = i3 := fun e => n32 e.symm
 refine ⟨fun j hj => by simp [amF, okCells, cellA], ?_⟩
 refine callK_pure (some_tri (byN h (2 ^ h.m - 1) h.m) _) ?_
 simp only [vsAll, okAll, stAll, opsA, opA, dstOk, Nat.reduceLT, ↓reduceIte, eq_self]
 refine ask_call (fun hb => ?_) (fun hb => ?_)
 ·simp only [vsAll, loadA, loadRow, opA, storeObj, dstOk, Nat.reduceMul, Nat.reduceLT, Nat.reduceEqDiff, ↓reduceIte, eq_self, wtAll, m32]
  refine ⟨fun j hj => by simp [amF, okCells, cellA], ret0 ?_⟩
  simp only [vsAll, loadA, loadRow, resA, retA.eq_1, Nat.reduceEqDiff, ↓reduceIte, eq_self, wtAll, Tryz.results71]
  refine ⟨H, ?_, ?_, rfl⟩
  ·intro j x hx
   have e2 : j ≠ i2 := fun e => by rw [e, h2] at hx; cases hx
   have e3 : j ≠ i3 := fun e => by rw [e, h3] at hx; cases hx
   exact ⟨x, by rw [Hp.set_ne _ _ e2, Hp.set_ne _ _ e3, Hp.set_ne _ _ e3, Hp.set_ne _ _ e2]; exact hx, .refl _⟩
  ·rw [toldB, hb]; rfl
 ·simp only [vsAll, eq_self]
  refine ⟨H, ?_, ?_, rfl⟩
  ·intro j x hx
   have e2 : j ≠ i2 := fun e => by rw [e, h2] at hx; cases hx
   have e3 : j ≠ i3 := fun e => by rw [e, h3] at hx; cases hx
   exact ⟨x, by rw [Hp.set_ne _ _ e3, Hp.set_ne _ _ e3, Hp.set_ne _ _ e2]; exact hx, .refl _⟩
  ·rw [toldB, hb]; rfl

end Go.Proofs.YtkcgocmjaggdiaaGreat.Wl
end
section
set_option linter.unusedVariables false
set_option linter.unusedSimpArgs false
set_option maxHeartbeats 4000000
set_option maxRecDepth 100000
namespace Go.Proofs.YtkcgocmjaggdiaaGreat.Wl
open Go.V
theorem wps_of_vs {P : Program} {m : Option Tmp → Bool} {n : Nat} {c : Code} {s : Fr} {ds : List AD} {H : Hp} {Q : Post} (h : VS none P m n [.code c] s ds H Q) : WPS none P n c s ds H Q := vcC_sound c h
abbrev rT : RefT := ⟨129, false⟩
/-- What answer does. -/
-- tri_v0 (fun _ => false) Tryz.func68 (by kernel_rfl) rfl (by simp only [List.length_append, List.length_cons, List.length_nil, Tryz.ntmps68]; decide) ?_
theorem ans68 : AnsOk Tryz.prog 68 rT := by
 have hn : (1 : Nat) ≤ Tryz.f68.ntmps := by rw [Tryz.ntmps68]; decide
 refine ⟨fun H id f S vs ho hH ha => ?_, fun H id f c S vs ho hH ha => ?_, fun vs w => by kernel_rfl⟩
 ·refine (ansD (args := [.ref id 0 1 0 0]) (t5 := 5) (t2 := 2) (Q := fun H' => H' = H) (u' := .returning) (rv := .lit .nilIface) (cv := .nilIface) Tryz.func68 rfl rfl hn (fun c₀ cs hu => .inr ⟨by simp [recoverD, hu], rfl, rfl⟩) hH ha (.lit _) ?_ (by rw [Tryz.ntmps68]; decide) (by rw [Tryz.ntmps68]; decide)).mono ?_
  ·refine wps_of_vs (m := fun _ => false) ?_
   simp only [vsAll, binA, binLitA, nilA2, isConst, opA, dstOk, Nat.reduceLT, ↓reduceIte, reduceCtorEq, eq_self, wtAll, Tryz.ntmps68]
  ·rintro e u w ⟨h1, h2, S', H', h3, h4, h5, rfl⟩
   exact ⟨h1, h2, S', h3, h4, h5⟩
 ·refine (ansD (args := [.ref id 0 1 0 0]) (t5 := 5) (t2 := 2) (Q := fun H' => H' = H.set id (.box 1 1 fun _ => [i64 c])) (u' := .panicking [{ v := Go.V.refusal rT c, recovered := true }]) (rv := .iface 129 (i64 c)) (cv := Go.V.refusal rT c) Tryz.func68 rfl rfl hn (fun c₀ cs hu => .inl (by simp [recoverD, hu])) hH ha (.iface (.lit _)) ?_ (by rw [Tryz.ntmps68]; decide) (by rw [Tryz.ntmps68]; decide)).mono ?_
  ·refine wps_of_vs (m := fun _ => false) ?_
   obtain ⟨bb, cc, e, q1, q2, q3, q4⟩ := hH.obj id _ ho
   have q5 := q4.2.1 0 (by omega)
   simp only [vsAll, binA, nilA2, unA, extractA, nilCheckA, cellA, cellsA, opA, newCells, okCells, storeObj, taA, dstOk, nilSliceOp, argFr, Nat.reduceAdd, Nat.reduceLT, Nat.reduceEqDiff, ↓reduceIte, reduceCtorEq, eq_self, wtAll, Tryz.ntmps68, ho]
   have : (f 0).drop 1 = [] := List.drop_eq_nil_of_le (by omega)
   rw [this]
  ·rintro e u w ⟨h1, h2, S', H', h3, h4, h5, rfl⟩
   exact ⟨h1, h2, S', h3, h4, h5⟩

end Go.Proofs.YtkcgocmjaggdiaaGreat.Wl
end
