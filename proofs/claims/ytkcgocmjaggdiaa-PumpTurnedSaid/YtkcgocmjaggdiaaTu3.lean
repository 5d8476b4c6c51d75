/- Helper lemmas of this claim, part 3. -/
import Derived.Test.YtkcgocmjaggdiaaChecked
import Derived.ChangeSame
import Derived.JoinedOf
import Derived.ProofKit
import Derived.Handed
import Derived.Test.YtkcgocmjaggdiaaTu2
section
namespace Go.Proofs.Ytkcgocmjaggdiaa
open Go.V
theorem boolT4 : boolT Try.prog 4 = true := by kernel_rfl
theorem ifcT20 : ifcT Try.prog 20 = true := by kernel_rfl
theorem ifcT96 : ifcT Try.prog 96 = true := by kernel_rfl
theorem ifcT97 : ifcT Try.prog 97 = true := by kernel_rfl
theorem ifcT156 : ifcT Try.prog 156 = true := by kernel_rfl
theorem ifcT157 : ifcT Try.prog 157 = true := by kernel_rfl
theorem meth154 : methT Try.prog 154 "caulkworks/well.is" 129 := fun v args w => by kernel_rfl
theorem meth182 : methT Try.prog 182 "caulkworks/well.is" 130 := fun v args w => by kernel_rfl
theorem meth81o : methT Try.prog 81 "caulkworks/pump.of" 125 := fun v args w => by kernel_rfl
theorem meth81s : methT Try.prog 81 "caulkworks/pump.strength" 126 := fun v args w => by kernel_rfl
theorem meth126o : methT Try.prog 126 "caulkworks/pump.of" 127 := fun v args w => by kernel_rfl
theorem meth126s : methT Try.prog 126 "caulkworks/pump.strength" 128 := fun v args w => by kernel_rfl
theorem mapZ136 : mapZ Try.prog 136 = some (.int .i64 0) := by kernel_rfl
theorem zT1 : zT Try.prog 1 = false := by kernel_rfl
theorem szT1 : szT Try.prog 1 = some (1, false) := by kernel_rfl
theorem arT1 : arT Try.prog 1 = none := by kernel_rfl
theorem conc1 : Program.concrete Try.prog 1 = true := by kernel_rfl
theorem zT2 : zT Try.prog 2 = false := by kernel_rfl
theorem szT2 : szT Try.prog 2 = some (1, false) := by kernel_rfl
theorem arT2 : arT Try.prog 2 = none := by kernel_rfl
theorem conc2 : Program.concrete Try.prog 2 = true := by kernel_rfl
theorem undS2 : (Program.underlying Try.prog 2).isSome = true := by kernel_rfl
theorem intT2 : intT Try.prog 2 = some .i64 := by kernel_rfl
theorem elT2 : elT Try.prog 2 = none := by kernel_rfl
theorem azT2 : azT Try.prog 2 = some (1, 1, [.int .i64 0]) := by kernel_rfl
theorem zeroT2 : zeroT Try.prog 2 = some [.int .i64 0] := by kernel_rfl
theorem zT3 : zT Try.prog 3 = false := by kernel_rfl
theorem szT3 : szT Try.prog 3 = some (1, false) := by kernel_rfl
theorem arT3 : arT Try.prog 3 = none := by kernel_rfl
theorem conc3 : Program.concrete Try.prog 3 = true := by kernel_rfl
theorem undS3 : (Program.underlying Try.prog 3).isSome = true := by kernel_rfl
theorem intT3 : intT Try.prog 3 = some .i64 := by kernel_rfl
theorem elT3 : elT Try.prog 3 = none := by kernel_rfl
theorem azT3 : azT Try.prog 3 = some (1, 1, [.int .i64 0]) := by kernel_rfl
theorem zeroT3 : zeroT Try.prog 3 = some [.int .i64 0] := by kernel_rfl
theorem zT4 : zT Try.prog 4 = false := by kernel_rfl
theorem szT4 : szT Try.prog 4 = some (1, false) := by kernel_rfl
theorem arT4 : arT Try.prog 4 = none := by kernel_rfl
theorem conc4 : Program.concrete Try.prog 4 = true := by kernel_rfl
theorem undS4 : (Program.underlying Try.prog 4).isSome = true := by kernel_rfl
theorem elT4 : elT Try.prog 4 = none := by kernel_rfl
theorem azT4 : azT Try.prog 4 = some (1, 1, [.bool false]) := by kernel_rfl
theorem zeroT4 : zeroT Try.prog 4 = some [.bool false] := by kernel_rfl
theorem zT5 : zT Try.prog 5 = false := by kernel_rfl
theorem szT5 : szT Try.prog 5 = some (1, false) := by kernel_rfl
theorem arT5 : arT Try.prog 5 = none := by kernel_rfl
theorem conc5 : Program.concrete Try.prog 5 = true := by kernel_rfl
theorem undS5 : (Program.underlying Try.prog 5).isSome = true := by kernel_rfl
theorem intT5 : intT Try.prog 5 = some .u8 := by kernel_rfl
theorem elT5 : elT Try.prog 5 = none := by kernel_rfl
theorem azT5 : azT Try.prog 5 = some (1, 1, [.int .u8 0]) := by kernel_rfl
theorem zeroT5 : zeroT Try.prog 5 = some [.int .u8 0] := by kernel_rfl
theorem zT12 : zT Try.prog 12 = false := by kernel_rfl
theorem szT12 : szT Try.prog 12 = some (1, false) := by kernel_rfl
theorem arT12 : arT Try.prog 12 = none := by kernel_rfl
theorem conc12 : Program.concrete Try.prog 12 = true := by kernel_rfl
theorem undS12 : (Program.underlying Try.prog 12).isSome = true := by kernel_rfl
theorem intT12 : intT Try.prog 12 = some .u64 := by kernel_rfl
theorem elT12 : elT Try.prog 12 = none := by kernel_rfl
theorem azT12 : azT Try.prog 12 = some (1, 1, [.int .u64 0]) := by kernel_rfl
theorem zeroT12 : zeroT Try.prog 12 = some [.int .u64 0] := by kernel_rfl
theorem zT13 : zT Try.prog 13 = false := by kernel_rfl
theorem szT13 : szT Try.prog 13 = some (2, true) := by kernel_rfl
theorem arT13 : arT Try.prog 13 = none := by kernel_rfl
theorem conc13 : Program.concrete Try.prog 13 = true := by kernel_rfl
theorem undS13 : (Program.underlying Try.prog 13).isSome = true := by kernel_rfl
theorem elT13 : elT Try.prog 13 = none := by kernel_rfl
theorem azT13 : azT Try.prog 13 = some (2, 1, [.string .empty, .int .u64 0]) := by kernel_rfl
theorem zeroT13 : zeroT Try.prog 13 = some [.string .empty, .int .u64 0] := by kernel_rfl
theorem bT13 : bT Try.prog 13 = true := by kernel_rfl
theorem fldT13_0 : fldT Try.prog 13 0 = some (0, 1, false) := by kernel_rfl
theorem fldT13_1 : fldT Try.prog 13 1 = some (1, 1, false) := by kernel_rfl
theorem zT20 : zT Try.prog 20 = false := by kernel_rfl
theorem szT20 : szT Try.prog 20 = some (1, false) := by kernel_rfl
theorem arT20 : arT Try.prog 20 = none := by kernel_rfl
theorem zT21 : zT Try.prog 21 = false := by kernel_rfl
theorem szT21 : szT Try.prog 21 = some (1, false) := by kernel_rfl
theorem arT21 : arT Try.prog 21 = none := by kernel_rfl
theorem conc21 : Program.concrete Try.prog 21 = true := by kernel_rfl
theorem undS21 : (Program.underlying Try.prog 21).isSome = true := by kernel_rfl
theorem intT21 : intT Try.prog 21 = some .i32 := by kernel_rfl
theorem elT21 : elT Try.prog 21 = none := by kernel_rfl
theorem azT21 : azT Try.prog 21 = some (1, 1, [.int .i32 0]) := by kernel_rfl
theorem zeroT21 : zeroT Try.prog 21 = some [.int .i32 0] := by kernel_rfl
theorem zT22 : zT Try.prog 22 = false := by kernel_rfl
theorem szT22 : szT Try.prog 22 = some (1, false) := by kernel_rfl
theorem arT22 : arT Try.prog 22 = none := by kernel_rfl
theorem conc22 : Program.concrete Try.prog 22 = true := by kernel_rfl
theorem undS22 : (Program.underlying Try.prog 22).isSome = true := by kernel_rfl
theorem elT22 : elT Try.prog 22 = some (2, true) := by kernel_rfl
theorem elB22 : elB Try.prog 22 = some (2, 16) := by kernel_rfl
theorem bsT22 : bsT Try.prog 22 = some 2 := by kernel_rfl
theorem mkT22 : mkT Try.prog 22 = some (2, 16, [.int .i64 0, .int .i64 0]) := by kernel_rfl
theorem azT22 : azT Try.prog 22 = some (1, 1, [.slice none 0 0]) := by kernel_rfl
theorem zeroT22 : zeroT Try.prog 22 = some [.slice none 0 0] := by kernel_rfl
theorem zT23 : zT Try.prog 23 = false := by kernel_rfl
theorem szT23 : szT Try.prog 23 = some (1, false) := by kernel_rfl
theorem arT23 : arT Try.prog 23 = none := by kernel_rfl
theorem conc23 : Program.concrete Try.prog 23 = true := by kernel_rfl
theorem undS23 : (Program.underlying Try.prog 23).isSome = true := by kernel_rfl
theorem elT23 : elT Try.prog 23 = some (4, true) := by kernel_rfl
theorem elB23 : elB Try.prog 23 = some (4, 32) := by kernel_rfl
theorem bsT23 : bsT Try.prog 23 = some 4 := by kernel_rfl
theorem mkT23 : mkT Try.prog 23 = some (4, 32, [.int .i64 0, .int .i64 0, .int .i64 0, .int .i64 0]) := by kernel_rfl
theorem azT23 : azT Try.prog 23 = some (1, 1, [.slice none 0 0]) := by kernel_rfl
theorem zeroT23 : zeroT Try.prog 23 = some [.slice none 0 0] := by kernel_rfl
theorem zT24 : zT Try.prog 24 = false := by kernel_rfl
theorem szT24 : szT Try.prog 24 = some (1, false) := by kernel_rfl
theorem arT24 : arT Try.prog 24 = none := by kernel_rfl
theorem conc24 : Program.concrete Try.prog 24 = true := by kernel_rfl
theorem undS24 : (Program.underlying Try.prog 24).isSome = true := by kernel_rfl
theorem elT24 : elT Try.prog 24 = some (1, false) := by kernel_rfl
theorem elB24 : elB Try.prog 24 = some (1, 8) := by kernel_rfl
theorem bsT24 : bsT Try.prog 24 = some 1 := by kernel_rfl
theorem mkT24 : mkT Try.prog 24 = some (1, 8, [.int .i64 0]) := by kernel_rfl
theorem azT24 : azT Try.prog 24 = some (1, 1, [.slice none 0 0]) := by kernel_rfl
theorem zeroT24 : zeroT Try.prog 24 = some [.slice none 0 0] := by kernel_rfl
theorem zT25 : zT Try.prog 25 = false := by kernel_rfl
theorem szT25 : szT Try.prog 25 = some (1, false) := by kernel_rfl
theorem arT25 : arT Try.prog 25 = none := by kernel_rfl
theorem conc25 : Program.concrete Try.prog 25 = true := by kernel_rfl
theorem undS25 : (Program.underlying Try.prog 25).isSome = true := by kernel_rfl
theorem elT25 : elT Try.prog 25 = some (5, true) := by kernel_rfl
theorem elB25 : elB Try.prog 25 = some (5, 40) := by kernel_rfl
theorem bsT25 : bsT Try.prog 25 = some 5 := by kernel_rfl
theorem mkT25 : mkT Try.prog 25 = some (5, 40, [.int .i64 0, .int .i64 0, .int .i64 0, .int .i64 0, .int .i64 0]) := by kernel_rfl
theorem azT25 : azT Try.prog 25 = some (1, 1, [.slice none 0 0]) := by kernel_rfl
theorem zeroT25 : zeroT Try.prog 25 = some [.slice none 0 0] := by kernel_rfl
theorem zT26 : zT Try.prog 26 = false := by kernel_rfl
theorem szT26 : szT Try.prog 26 = some (2, true) := by kernel_rfl
theorem arT26 : arT Try.prog 26 = none := by kernel_rfl
theorem conc26 : Program.concrete Try.prog 26 = true := by kernel_rfl
theorem undS26 : (Program.underlying Try.prog 26).isSome = true := by kernel_rfl
theorem elT26 : elT Try.prog 26 = none := by kernel_rfl
theorem azT26 : azT Try.prog 26 = some (2, 1, [.slice none 0 0, .slice none 0 0]) := by kernel_rfl
theorem zeroT26 : zeroT Try.prog 26 = some [.slice none 0 0, .slice none 0 0] := by kernel_rfl
theorem bT26 : bT Try.prog 26 = true := by kernel_rfl
theorem fldT26_0 : fldT Try.prog 26 0 = some (0, 1, false) := by kernel_rfl
theorem fldT26_1 : fldT Try.prog 26 1 = some (1, 1, false) := by kernel_rfl
theorem zT27 : zT Try.prog 27 = false := by kernel_rfl
theorem szT27 : szT Try.prog 27 = some (2, true) := by kernel_rfl
theorem arT27 : arT Try.prog 27 = none := by kernel_rfl
theorem conc27 : Program.concrete Try.prog 27 = true := by kernel_rfl
theorem undS27 : (Program.underlying Try.prog 27).isSome = true := by kernel_rfl
theorem elT27 : elT Try.prog 27 = none := by kernel_rfl
theorem azT27 : azT Try.prog 27 = some (2, 1, [.slice none 0 0, .slice none 0 0]) := by kernel_rfl
theorem zeroT27 : zeroT Try.prog 27 = some [.slice none 0 0, .slice none 0 0] := by kernel_rfl
theorem bT27 : bT Try.prog 27 = true := by kernel_rfl
theorem fldT27_0 : fldT Try.prog 27 0 = some (0, 1, false) := by kernel_rfl
theorem fldT27_1 : fldT Try.prog 27 1 = some (1, 1, false) := by kernel_rfl
theorem zT28 : zT Try.prog 28 = false := by kernel_rfl
theorem szT28 : szT Try.prog 28 = some (5, true) := by kernel_rfl
theorem arT28 : arT Try.prog 28 = none := by kernel_rfl
theorem conc28 : Program.concrete Try.prog 28 = true := by kernel_rfl
theorem undS28 : (Program.underlying Try.prog 28).isSome = true := by kernel_rfl
theorem elT28 : elT Try.prog 28 = none := by kernel_rfl
theorem azT28 : azT Try.prog 28 = some (5, 1, [.slice none 0 0, .int .i64 0, .slice none 0 0, .slice none 0 0, .slice none 0 0]) := by kernel_rfl
theorem zeroT28 : zeroT Try.prog 28 = some [.slice none 0 0, .int .i64 0, .slice none 0 0, .slice none 0 0, .slice none 0 0] := by kernel_rfl
theorem bT28 : bT Try.prog 28 = true := by kernel_rfl
theorem fldT28_0 : fldT Try.prog 28 0 = some (0, 1, false) := by kernel_rfl
theorem fldT28_1 : fldT Try.prog 28 1 = some (1, 1, false) := by kernel_rfl
theorem fldT28_2 : fldT Try.prog 28 2 = some (2, 1, false) := by kernel_rfl
theorem fldT28_3 : fldT Try.prog 28 3 = some (3, 2, true) := by kernel_rfl
theorem zT29 : zT Try.prog 29 = false := by kernel_rfl
theorem szT29 : szT Try.prog 29 = some (5, true) := by kernel_rfl
theorem arT29 : arT Try.prog 29 = none := by kernel_rfl
theorem conc29 : Program.concrete Try.prog 29 = true := by kernel_rfl
theorem undS29 : (Program.underlying Try.prog 29).isSome = true := by kernel_rfl
theorem elT29 : elT Try.prog 29 = none := by kernel_rfl
theorem azT29 : azT Try.prog 29 = some (5, 1, [.slice none 0 0, .int .i64 0, .slice none 0 0, .slice none 0 0, .slice none 0 0]) := by kernel_rfl
theorem zeroT29 : zeroT Try.prog 29 = some [.slice none 0 0, .int .i64 0, .slice none 0 0, .slice none 0 0, .slice none 0 0] := by kernel_rfl
theorem bT29 : bT Try.prog 29 = true := by kernel_rfl
theorem fldT29_0 : fldT Try.prog 29 0 = some (0, 1, false) := by kernel_rfl
theorem fldT29_1 : fldT Try.prog 29 1 = some (1, 1, false) := by kernel_rfl
theorem fldT29_2 : fldT Try.prog 29 2 = some (2, 1, false) := by kernel_rfl
theorem fldT29_3 : fldT Try.prog 29 3 = some (3, 2, true) := by kernel_rfl
theorem zT30 : zT Try.prog 30 = false := by kernel_rfl
theorem szT30 : szT Try.prog 30 = some (1, false) := by kernel_rfl
theorem arT30 : arT Try.prog 30 = none := by kernel_rfl
theorem conc30 : Program.concrete Try.prog 30 = true := by kernel_rfl
theorem zT31 : zT Try.prog 31 = false := by kernel_rfl
theorem szT31 : szT Try.prog 31 = some (1, false) := by kernel_rfl
theorem arT31 : arT Try.prog 31 = none := by kernel_rfl
theorem conc31 : Program.concrete Try.prog 31 = true := by kernel_rfl
theorem zT32 : zT Try.prog 32 = false := by kernel_rfl
theorem szT32 : szT Try.prog 32 = some (1, false) := by kernel_rfl
theorem arT32 : arT Try.prog 32 = none := by kernel_rfl
theorem conc32 : Program.concrete Try.prog 32 = true := by kernel_rfl
theorem undS32 : (Program.underlying Try.prog 32).isSome = true := by kernel_rfl
theorem intT32 : intT Try.prog 32 = some .i64 := by kernel_rfl
theorem elT32 : elT Try.prog 32 = none := by kernel_rfl
theorem azT32 : azT Try.prog 32 = some (1, 1, [.int .i64 0]) := by kernel_rfl
theorem zeroT32 : zeroT Try.prog 32 = some [.int .i64 0] := by kernel_rfl
theorem zT34 : zT Try.prog 34 = false := by kernel_rfl
theorem szT34 : szT Try.prog 34 = some (1, false) := by kernel_rfl
theorem arT34 : arT Try.prog 34 = none := by kernel_rfl
theorem conc34 : Program.concrete Try.prog 34 = true := by kernel_rfl
theorem zT35 : zT Try.prog 35 = false := by kernel_rfl
theorem szT35 : szT Try.prog 35 = some (2, true) := by kernel_rfl
theorem arT35 : arT Try.prog 35 = none := by kernel_rfl
theorem conc35 : Program.concrete Try.prog 35 = true := by kernel_rfl
theorem undS35 : (Program.underlying Try.prog 35).isSome = true := by kernel_rfl
theorem elT35 : elT Try.prog 35 = none := by kernel_rfl
theorem azT35 : azT Try.prog 35 = some (2, 1, [.int .i64 0, .int .i64 0]) := by kernel_rfl
theorem zeroT35 : zeroT Try.prog 35 = some [.int .i64 0, .int .i64 0] := by kernel_rfl
theorem bT35 : bT Try.prog 35 = true := by kernel_rfl
theorem fldT35_0 : fldT Try.prog 35 0 = some (0, 1, false) := by kernel_rfl
theorem fldT35_1 : fldT Try.prog 35 1 = some (1, 1, false) := by kernel_rfl
theorem zT36 : zT Try.prog 36 = false := by kernel_rfl
theorem szT36 : szT Try.prog 36 = some (2, true) := by kernel_rfl
theorem arT36 : arT Try.prog 36 = none := by kernel_rfl
theorem conc36 : Program.concrete Try.prog 36 = true := by kernel_rfl
theorem undS36 : (Program.underlying Try.prog 36).isSome = true := by kernel_rfl
theorem elT36 : elT Try.prog 36 = none := by kernel_rfl
theorem azT36 : azT Try.prog 36 = some (2, 1, [.int .i64 0, .int .i64 0]) := by kernel_rfl
theorem zeroT36 : zeroT Try.prog 36 = some [.int .i64 0, .int .i64 0] := by kernel_rfl
theorem bT36 : bT Try.prog 36 = true := by kernel_rfl
theorem fldT36_0 : fldT Try.prog 36 0 = some (0, 1, false) := by kernel_rfl
theorem fldT36_1 : fldT Try.prog 36 1 = some (1, 1, false) := by kernel_rfl
theorem zT38 : zT Try.prog 38 = false := by kernel_rfl
theorem szT38 : szT Try.prog 38 = some (1, false) := by kernel_rfl
theorem arT38 : arT Try.prog 38 = none := by kernel_rfl
theorem conc38 : Program.concrete Try.prog 38 = true := by kernel_rfl
theorem zT40 : zT Try.prog 40 = false := by kernel_rfl
theorem szT40 : szT Try.prog 40 = some (1, false) := by kernel_rfl
theorem arT40 : arT Try.prog 40 = none := by kernel_rfl
theorem conc40 : Program.concrete Try.prog 40 = true := by kernel_rfl
theorem zT41 : zT Try.prog 41 = false := by kernel_rfl
theorem szT41 : szT Try.prog 41 = some (1, false) := by kernel_rfl
theorem arT41 : arT Try.prog 41 = none := by kernel_rfl
theorem conc41 : Program.concrete Try.prog 41 = true := by kernel_rfl
theorem zT42 : zT Try.prog 42 = false := by kernel_rfl
theorem szT42 : szT Try.prog 42 = some (1, false) := by kernel_rfl
theorem arT42 : arT Try.prog 42 = none := by kernel_rfl
theorem conc42 : Program.concrete Try.prog 42 = true := by kernel_rfl
theorem zT43 : zT Try.prog 43 = false := by kernel_rfl
theorem szT43 : szT Try.prog 43 = some (1, false) := by kernel_rfl
theorem arT43 : arT Try.prog 43 = none := by kernel_rfl
theorem conc43 : Program.concrete Try.prog 43 = true := by kernel_rfl
theorem undS43 : (Program.underlying Try.prog 43).isSome = true := by kernel_rfl
theorem elT43 : elT Try.prog 43 = some (1, false) := by kernel_rfl
theorem elB43 : elB Try.prog 43 = some (1, 1) := by kernel_rfl
theorem bsT43 : bsT Try.prog 43 = some 1 := by kernel_rfl
theorem mkT43 : mkT Try.prog 43 = some (1, 1, [.int .u8 0]) := by kernel_rfl
theorem azT43 : azT Try.prog 43 = some (1, 1, [.slice none 0 0]) := by kernel_rfl
theorem zeroT43 : zeroT Try.prog 43 = some [.slice none 0 0] := by kernel_rfl
theorem zT44 : zT Try.prog 44 = false := by kernel_rfl
theorem szT44 : szT Try.prog 44 = some (1, false) := by kernel_rfl
theorem arT44 : arT Try.prog 44 = none := by kernel_rfl
theorem conc44 : Program.concrete Try.prog 44 = true := by kernel_rfl
theorem undS44 : (Program.underlying Try.prog 44).isSome = true := by kernel_rfl
theorem elT44 : elT Try.prog 44 = some (1, false) := by kernel_rfl
theorem elB44 : elB Try.prog 44 = some (1, 2) := by kernel_rfl
theorem bsT44 : bsT Try.prog 44 = some 1 := by kernel_rfl
theorem mkT44 : mkT Try.prog 44 = some (1, 2, [.int .u16 0]) := by kernel_rfl
theorem azT44 : azT Try.prog 44 = some (1, 1, [.slice none 0 0]) := by kernel_rfl
theorem zeroT44 : zeroT Try.prog 44 = some [.slice none 0 0] := by kernel_rfl
theorem zT45 : zT Try.prog 45 = false := by kernel_rfl
theorem szT45 : szT Try.prog 45 = some (1, false) := by kernel_rfl
theorem arT45 : arT Try.prog 45 = none := by kernel_rfl
theorem conc45 : Program.concrete Try.prog 45 = true := by kernel_rfl
theorem zT46 : zT Try.prog 46 = false := by kernel_rfl
theorem szT46 : szT Try.prog 46 = some (1, false) := by kernel_rfl
theorem arT46 : arT Try.prog 46 = none := by kernel_rfl
theorem conc46 : Program.concrete Try.prog 46 = true := by kernel_rfl
theorem zT47 : zT Try.prog 47 = false := by kernel_rfl
theorem szT47 : szT Try.prog 47 = some (1, false) := by kernel_rfl
theorem arT47 : arT Try.prog 47 = none := by kernel_rfl
theorem conc47 : Program.concrete Try.prog 47 = true := by kernel_rfl
theorem zT48 : zT Try.prog 48 = false := by kernel_rfl
theorem szT48 : szT Try.prog 48 = some (1, false) := by kernel_rfl
theorem arT48 : arT Try.prog 48 = none := by kernel_rfl
theorem conc48 : Program.concrete Try.prog 48 = true := by kernel_rfl
theorem undS48 : (Program.underlying Try.prog 48).isSome = true := by kernel_rfl
theorem intT48 : intT Try.prog 48 = some .u16 := by kernel_rfl
theorem elT48 : elT Try.prog 48 = none := by kernel_rfl
theorem azT48 : azT Try.prog 48 = some (1, 1, [.int .u16 0]) := by kernel_rfl
theorem zeroT48 : zeroT Try.prog 48 = some [.int .u16 0] := by kernel_rfl
theorem zT49 : zT Try.prog 49 = false := by kernel_rfl
theorem szT49 : szT Try.prog 49 = some (1, false) := by kernel_rfl
theorem arT49 : arT Try.prog 49 = none := by kernel_rfl
theorem conc49 : Program.concrete Try.prog 49 = true := by kernel_rfl
theorem zT50 : zT Try.prog 50 = false := by kernel_rfl
theorem szT50 : szT Try.prog 50 = some (1, false) := by kernel_rfl
theorem arT50 : arT Try.prog 50 = none := by kernel_rfl
theorem conc50 : Program.concrete Try.prog 50 = true := by kernel_rfl
theorem zT51 : zT Try.prog 51 = false := by kernel_rfl
theorem szT51 : szT Try.prog 51 = some (4, true) := by kernel_rfl
theorem arT51 : arT Try.prog 51 = none := by kernel_rfl
theorem conc51 : Program.concrete Try.prog 51 = true := by kernel_rfl
theorem undS51 : (Program.underlying Try.prog 51).isSome = true := by kernel_rfl
theorem elT51 : elT Try.prog 51 = none := by kernel_rfl
theorem azT51 : azT Try.prog 51 = some (4, 1, [.int .i64 0, .int .i64 0, .int .i64 0, .int .i64 0]) := by kernel_rfl
theorem zeroT51 : zeroT Try.prog 51 = some [.int .i64 0, .int .i64 0, .int .i64 0, .int .i64 0] := by kernel_rfl
theorem bT51 : bT Try.prog 51 = true := by kernel_rfl
theorem fldT51_0 : fldT Try.prog 51 0 = some (0, 2, true) := by kernel_rfl
theorem fldT51_1 : fldT Try.prog 51 1 = some (2, 1, false) := by kernel_rfl
theorem fldT51_2 : fldT Try.prog 51 2 = some (3, 1, false) := by kernel_rfl
theorem zT52 : zT Try.prog 52 = false := by kernel_rfl
theorem szT52 : szT Try.prog 52 = some (4, true) := by kernel_rfl
theorem arT52 : arT Try.prog 52 = none := by kernel_rfl
theorem conc52 : Program.concrete Try.prog 52 = true := by kernel_rfl
theorem undS52 : (Program.underlying Try.prog 52).isSome = true := by kernel_rfl
theorem elT52 : elT Try.prog 52 = none := by kernel_rfl
theorem azT52 : azT Try.prog 52 = some (4, 1, [.int .i64 0, .int .i64 0, .int .i64 0, .int .i64 0]) := by kernel_rfl
theorem zeroT52 : zeroT Try.prog 52 = some [.int .i64 0, .int .i64 0, .int .i64 0, .int .i64 0] := by kernel_rfl
theorem bT52 : bT Try.prog 52 = true := by kernel_rfl
theorem fldT52_0 : fldT Try.prog 52 0 = some (0, 2, true) := by kernel_rfl
theorem fldT52_1 : fldT Try.prog 52 1 = some (2, 1, false) := by kernel_rfl
theorem fldT52_2 : fldT Try.prog 52 2 = some (3, 1, false) := by kernel_rfl
theorem zT53 : zT Try.prog 53 = false := by kernel_rfl
theorem szT53 : szT Try.prog 53 = some (1, false) := by kernel_rfl
theorem arT53 : arT Try.prog 53 = none := by kernel_rfl
theorem conc53 : Program.concrete Try.prog 53 = true := by kernel_rfl
theorem zT54 : zT Try.prog 54 = false := by kernel_rfl
theorem szT54 : szT Try.prog 54 = some (1, false) := by kernel_rfl
theorem arT54 : arT Try.prog 54 = none := by kernel_rfl
theorem conc54 : Program.concrete Try.prog 54 = true := by kernel_rfl
theorem zT56 : zT Try.prog 56 = false := by kernel_rfl
theorem szT56 : szT Try.prog 56 = some (1, false) := by kernel_rfl
theorem arT56 : arT Try.prog 56 = none := by kernel_rfl
theorem conc56 : Program.concrete Try.prog 56 = true := by kernel_rfl
theorem zT57 : zT Try.prog 57 = false := by kernel_rfl
theorem szT57 : szT Try.prog 57 = some (1, false) := by kernel_rfl
theorem arT57 : arT Try.prog 57 = none := by kernel_rfl
theorem conc57 : Program.concrete Try.prog 57 = true := by kernel_rfl
theorem zT59 : zT Try.prog 59 = false := by kernel_rfl
theorem szT59 : szT Try.prog 59 = some (1, false) := by kernel_rfl
theorem arT59 : arT Try.prog 59 = none := by kernel_rfl
theorem conc59 : Program.concrete Try.prog 59 = true := by kernel_rfl
theorem zT60 : zT Try.prog 60 = false := by kernel_rfl
theorem szT60 : szT Try.prog 60 = some (1, false) := by kernel_rfl
theorem arT60 : arT Try.prog 60 = none := by kernel_rfl
theorem conc60 : Program.concrete Try.prog 60 = true := by kernel_rfl
theorem zT61 : zT Try.prog 61 = false := by kernel_rfl
theorem szT61 : szT Try.prog 61 = some (1, false) := by kernel_rfl
theorem arT61 : arT Try.prog 61 = none := by kernel_rfl
theorem conc61 : Program.concrete Try.prog 61 = true := by kernel_rfl
theorem zT62 : zT Try.prog 62 = false := by kernel_rfl
theorem szT62 : szT Try.prog 62 = some (1, false) := by kernel_rfl
theorem arT62 : arT Try.prog 62 = none := by kernel_rfl
theorem conc62 : Program.concrete Try.prog 62 = true := by kernel_rfl
theorem zT63 : zT Try.prog 63 = false := by kernel_rfl
theorem szT63 : szT Try.prog 63 = some (1, false) := by kernel_rfl
theorem arT63 : arT Try.prog 63 = none := by kernel_rfl
theorem conc63 : Program.concrete Try.prog 63 = true := by kernel_rfl
theorem zT64 : zT Try.prog 64 = false := by kernel_rfl
theorem szT64 : szT Try.prog 64 = some (1, false) := by kernel_rfl
theorem arT64 : arT Try.prog 64 = none := by kernel_rfl
theorem conc64 : Program.concrete Try.prog 64 = true := by kernel_rfl
theorem zT65 : zT Try.prog 65 = false := by kernel_rfl
theorem szT65 : szT Try.prog 65 = some (1, false) := by kernel_rfl
theorem arT65 : arT Try.prog 65 = none := by kernel_rfl
theorem conc65 : Program.concrete Try.prog 65 = true := by kernel_rfl
theorem zT66 : zT Try.prog 66 = false := by kernel_rfl
theorem szT66 : szT Try.prog 66 = some (1, false) := by kernel_rfl
theorem zeroT66 : azT Try.prog 66 = some (1, 1, [.pointer none]) := by kernel_rfl
theorem arT66 : arT Try.prog 66 = none := by kernel_rfl
theorem conc66 : Program.concrete Try.prog 66 = true := by kernel_rfl
theorem zT67 : zT Try.prog 67 = false := by kernel_rfl
theorem szT67 : szT Try.prog 67 = some (1, false) := by kernel_rfl
theorem zeroT67 : azT Try.prog 67 = some (1, 1, [.pointer none]) := by kernel_rfl
theorem arT67 : arT Try.prog 67 = none := by kernel_rfl
theorem conc67 : Program.concrete Try.prog 67 = true := by kernel_rfl
theorem zT68 : zT Try.prog 68 = false := by kernel_rfl
theorem szT68 : szT Try.prog 68 = some (1, false) := by kernel_rfl
theorem arT68 : arT Try.prog 68 = none := by kernel_rfl
theorem conc68 : Program.concrete Try.prog 68 = true := by kernel_rfl
theorem zT69 : zT Try.prog 69 = false := by kernel_rfl
theorem szT69 : szT Try.prog 69 = some (1, false) := by kernel_rfl
theorem arT69 : arT Try.prog 69 = none := by kernel_rfl
theorem conc69 : Program.concrete Try.prog 69 = true := by kernel_rfl
theorem undS69 : (Program.underlying Try.prog 69).isSome = true := by kernel_rfl
theorem elT69 : elT Try.prog 69 = some (1, false) := by kernel_rfl
theorem elB69 : elB Try.prog 69 = some (1, 24) := by kernel_rfl
theorem bsT69 : bsT Try.prog 69 = some 1 := by kernel_rfl
theorem mkT69 : mkT Try.prog 69 = some (1, 24, [.slice none 0 0]) := by kernel_rfl
theorem azT69 : azT Try.prog 69 = some (1, 1, [.slice none 0 0]) := by kernel_rfl
theorem zeroT69 : zeroT Try.prog 69 = some [.slice none 0 0] := by kernel_rfl
theorem zT70 : zT Try.prog 70 = false := by kernel_rfl
theorem szT70 : szT Try.prog 70 = some (1, false) := by kernel_rfl
theorem arT70 : arT Try.prog 70 = none := by kernel_rfl
theorem conc70 : Program.concrete Try.prog 70 = true := by kernel_rfl
theorem zT71 : zT Try.prog 71 = false := by kernel_rfl
theorem szT71 : szT Try.prog 71 = some (1, false) := by kernel_rfl
theorem arT71 : arT Try.prog 71 = none := by kernel_rfl
theorem conc71 : Program.concrete Try.prog 71 = true := by kernel_rfl
theorem zT72 : zT Try.prog 72 = false := by kernel_rfl
theorem szT72 : szT Try.prog 72 = some (1, false) := by kernel_rfl
theorem arT72 : arT Try.prog 72 = none := by kernel_rfl
theorem conc72 : Program.concrete Try.prog 72 = true := by kernel_rfl
theorem zT73 : zT Try.prog 73 = false := by kernel_rfl
theorem szT73 : szT Try.prog 73 = some (1, false) := by kernel_rfl
theorem zeroT73 : azT Try.prog 73 = some (1, 1, [.pointer none]) := by kernel_rfl
theorem arT73 : arT Try.prog 73 = none := by kernel_rfl
theorem conc73 : Program.concrete Try.prog 73 = true := by kernel_rfl
theorem zT74 : zT Try.prog 74 = false := by kernel_rfl
theorem szT74 : szT Try.prog 74 = some (1, false) := by kernel_rfl
theorem zeroT74 : azT Try.prog 74 = some (1, 1, [.pointer none]) := by kernel_rfl
theorem arT74 : arT Try.prog 74 = none := by kernel_rfl
theorem conc74 : Program.concrete Try.prog 74 = true := by kernel_rfl
theorem zT75 : zT Try.prog 75 = false := by kernel_rfl
theorem szT75 : szT Try.prog 75 = some (1, false) := by kernel_rfl
theorem arT75 : arT Try.prog 75 = none := by kernel_rfl
theorem conc75 : Program.concrete Try.prog 75 = true := by kernel_rfl
theorem zT76 : zT Try.prog 76 = false := by kernel_rfl
theorem szT76 : szT Try.prog 76 = some (1, false) := by kernel_rfl
theorem arT76 : arT Try.prog 76 = none := by kernel_rfl
theorem conc76 : Program.concrete Try.prog 76 = true := by kernel_rfl
theorem zT77 : zT Try.prog 77 = false := by kernel_rfl
theorem szT77 : szT Try.prog 77 = some (1, false) := by kernel_rfl
theorem arT77 : arT Try.prog 77 = none := by kernel_rfl
theorem conc77 : Program.concrete Try.prog 77 = true := by kernel_rfl
theorem zT78 : zT Try.prog 78 = false := by kernel_rfl
theorem szT78 : szT Try.prog 78 = some (1, false) := by kernel_rfl
theorem arT78 : arT Try.prog 78 = none := by kernel_rfl
theorem conc78 : Program.concrete Try.prog 78 = true := by kernel_rfl
theorem zT79 : zT Try.prog 79 = false := by kernel_rfl
theorem szT79 : szT Try.prog 79 = some (1, false) := by kernel_rfl
theorem arT79 : arT Try.prog 79 = none := by kernel_rfl
theorem conc79 : Program.concrete Try.prog 79 = true := by kernel_rfl
theorem zT80 : zT Try.prog 80 = true := by kernel_rfl
theorem szT80 : szT Try.prog 80 = some (0, true) := by kernel_rfl
theorem arT80 : arT Try.prog 80 = none := by kernel_rfl
theorem conc80 : Program.concrete Try.prog 80 = true := by kernel_rfl
theorem undS80 : (Program.underlying Try.prog 80).isSome = true := by kernel_rfl
theorem elT80 : elT Try.prog 80 = none := by kernel_rfl
theorem azT80 : azT Try.prog 80 = some (0, 1, []) := by kernel_rfl
theorem zeroT80 : zeroT Try.prog 80 = some [] := by kernel_rfl
theorem bT80 : bT Try.prog 80 = true := by kernel_rfl
theorem zT81 : zT Try.prog 81 = true := by kernel_rfl
theorem szT81 : szT Try.prog 81 = some (0, true) := by kernel_rfl
theorem arT81 : arT Try.prog 81 = none := by kernel_rfl
theorem conc81 : Program.concrete Try.prog 81 = true := by kernel_rfl
theorem undS81 : (Program.underlying Try.prog 81).isSome = true := by kernel_rfl
theorem elT81 : elT Try.prog 81 = none := by kernel_rfl
theorem azT81 : azT Try.prog 81 = some (0, 1, []) := by kernel_rfl
theorem zeroT81 : zeroT Try.prog 81 = some [] := by kernel_rfl
theorem bT81 : bT Try.prog 81 = true := by kernel_rfl
theorem zT82 : zT Try.prog 82 = false := by kernel_rfl
theorem szT82 : szT Try.prog 82 = some (1, false) := by kernel_rfl
theorem arT82 : arT Try.prog 82 = none := by kernel_rfl
theorem conc82 : Program.concrete Try.prog 82 = true := by kernel_rfl
theorem zT83 : zT Try.prog 83 = false := by kernel_rfl
theorem szT83 : szT Try.prog 83 = some (2, true) := by kernel_rfl
theorem arT83 : arT Try.prog 83 = none := by kernel_rfl
theorem conc83 : Program.concrete Try.prog 83 = true := by kernel_rfl
theorem undS83 : (Program.underlying Try.prog 83).isSome = true := by kernel_rfl
theorem elT83 : elT Try.prog 83 = none := by kernel_rfl
theorem azT83 : azT Try.prog 83 = some (2, 1, [.int .i64 0, .int .i64 0]) := by kernel_rfl
theorem zeroT83 : zeroT Try.prog 83 = some [.int .i64 0, .int .i64 0] := by kernel_rfl
theorem bT83 : bT Try.prog 83 = true := by kernel_rfl
theorem fldT83_0 : fldT Try.prog 83 0 = some (0, 1, false) := by kernel_rfl
theorem fldT83_1 : fldT Try.prog 83 1 = some (1, 1, false) := by kernel_rfl
theorem zT84 : zT Try.prog 84 = false := by kernel_rfl
theorem szT84 : szT Try.prog 84 = some (2, true) := by kernel_rfl
theorem arT84 : arT Try.prog 84 = none := by kernel_rfl
theorem conc84 : Program.concrete Try.prog 84 = true := by kernel_rfl
theorem undS84 : (Program.underlying Try.prog 84).isSome = true := by kernel_rfl
theorem elT84 : elT Try.prog 84 = none := by kernel_rfl
theorem azT84 : azT Try.prog 84 = some (2, 1, [.int .i64 0, .int .i64 0]) := by kernel_rfl
theorem zeroT84 : zeroT Try.prog 84 = some [.int .i64 0, .int .i64 0] := by kernel_rfl
theorem bT84 : bT Try.prog 84 = true := by kernel_rfl
theorem fldT84_0 : fldT Try.prog 84 0 = some (0, 1, false) := by kernel_rfl
theorem fldT84_1 : fldT Try.prog 84 1 = some (1, 1, false) := by kernel_rfl
theorem zT85 : zT Try.prog 85 = false := by kernel_rfl
theorem szT85 : szT Try.prog 85 = some (6, true) := by kernel_rfl
theorem conc85 : Program.concrete Try.prog 85 = true := by kernel_rfl
theorem undS85 : (Program.underlying Try.prog 85).isSome = true := by kernel_rfl
theorem elT85 : elT Try.prog 85 = none := by kernel_rfl
theorem arT85 : arT Try.prog 85 = some (3, 2, true) := by kernel_rfl
theorem azT85 : azT Try.prog 85 = some (2, 3, [.int .i64 0, .int .i64 0]) := by kernel_rfl
theorem zeroT85 : zeroT Try.prog 85 = some [.int .i64 0, .int .i64 0, .int .i64 0, .int .i64 0, .int .i64 0, .int .i64 0] := by kernel_rfl
theorem zT86 : zT Try.prog 86 = false := by kernel_rfl
theorem szT86 : szT Try.prog 86 = some (8, true) := by kernel_rfl
theorem arT86 : arT Try.prog 86 = none := by kernel_rfl
theorem conc86 : Program.concrete Try.prog 86 = true := by kernel_rfl
theorem undS86 : (Program.underlying Try.prog 86).isSome = true := by kernel_rfl
theorem elT86 : elT Try.prog 86 = none := by kernel_rfl
theorem azT86 : azT Try.prog 86 = some (8, 1, [.int .i64 0, .int .i64 0, .int .i64 0, .int .i64 0, .int .i64 0, .int .i64 0, .int .i64 0, .int .i64 0]) := by kernel_rfl
theorem zeroT86 : zeroT Try.prog 86 = some [.int .i64 0, .int .i64 0, .int .i64 0, .int .i64 0, .int .i64 0, .int .i64 0, .int .i64 0, .int .i64 0] := by kernel_rfl
theorem bT86 : bT Try.prog 86 = true := by kernel_rfl
theorem fldT86_0 : fldT Try.prog 86 0 = some (0, 1, false) := by kernel_rfl
theorem fldT86_1 : fldT Try.prog 86 1 = some (1, 6, true) := by kernel_rfl
theorem fldT86_2 : fldT Try.prog 86 2 = some (7, 1, false) := by kernel_rfl
theorem zT87 : zT Try.prog 87 = false := by kernel_rfl
theorem szT87 : szT Try.prog 87 = some (8, true) := by kernel_rfl
theorem arT87 : arT Try.prog 87 = none := by kernel_rfl
theorem conc87 : Program.concrete Try.prog 87 = true := by kernel_rfl
theorem undS87 : (Program.underlying Try.prog 87).isSome = true := by kernel_rfl
theorem elT87 : elT Try.prog 87 = none := by kernel_rfl
theorem azT87 : azT Try.prog 87 = some (8, 1, [.int .i64 0, .int .i64 0, .int .i64 0, .int .i64 0, .int .i64 0, .int .i64 0, .int .i64 0, .int .i64 0]) := by kernel_rfl
theorem zeroT87 : zeroT Try.prog 87 = some [.int .i64 0, .int .i64 0, .int .i64 0, .int .i64 0, .int .i64 0, .int .i64 0, .int .i64 0, .int .i64 0] := by kernel_rfl
theorem bT87 : bT Try.prog 87 = true := by kernel_rfl
theorem fldT87_0 : fldT Try.prog 87 0 = some (0, 1, false) := by kernel_rfl
theorem fldT87_1 : fldT Try.prog 87 1 = some (1, 6, true) := by kernel_rfl
theorem fldT87_2 : fldT Try.prog 87 2 = some (7, 1, false) := by kernel_rfl
theorem zT88 : zT Try.prog 88 = false := by kernel_rfl
theorem szT88 : szT Try.prog 88 = some (1, false) := by kernel_rfl
theorem arT88 : arT Try.prog 88 = none := by kernel_rfl
theorem conc88 : Program.concrete Try.prog 88 = true := by kernel_rfl
theorem zT89 : zT Try.prog 89 = false := by kernel_rfl
theorem szT89 : szT Try.prog 89 = some (1, false) := by kernel_rfl
theorem arT89 : arT Try.prog 89 = none := by kernel_rfl
theorem conc89 : Program.concrete Try.prog 89 = true := by kernel_rfl
theorem zT90 : zT Try.prog 90 = false := by kernel_rfl
theorem szT90 : szT Try.prog 90 = some (1, false) := by kernel_rfl
theorem arT90 : arT Try.prog 90 = none := by kernel_rfl
theorem conc90 : Program.concrete Try.prog 90 = true := by kernel_rfl
theorem zT91 : zT Try.prog 91 = false := by kernel_rfl
theorem szT91 : szT Try.prog 91 = some (1, false) := by kernel_rfl
theorem arT91 : arT Try.prog 91 = none := by kernel_rfl
theorem conc91 : Program.concrete Try.prog 91 = true := by kernel_rfl
theorem zT92 : zT Try.prog 92 = false := by kernel_rfl
theorem szT92 : szT Try.prog 92 = some (1, false) := by kernel_rfl
theorem arT92 : arT Try.prog 92 = none := by kernel_rfl
theorem conc92 : Program.concrete Try.prog 92 = true := by kernel_rfl
theorem zT93 : zT Try.prog 93 = false := by kernel_rfl
theorem szT93 : szT Try.prog 93 = some (1, false) := by kernel_rfl
theorem arT93 : arT Try.prog 93 = none := by kernel_rfl
theorem conc93 : Program.concrete Try.prog 93 = true := by kernel_rfl
theorem zT94 : zT Try.prog 94 = false := by kernel_rfl
theorem szT94 : szT Try.prog 94 = some (1, false) := by kernel_rfl
theorem arT94 : arT Try.prog 94 = none := by kernel_rfl
theorem conc94 : Program.concrete Try.prog 94 = true := by kernel_rfl
theorem zT95 : zT Try.prog 95 = false := by kernel_rfl
theorem szT95 : szT Try.prog 95 = some (1, false) := by kernel_rfl
theorem arT95 : arT Try.prog 95 = none := by kernel_rfl
theorem conc95 : Program.concrete Try.prog 95 = true := by kernel_rfl
theorem zT96 : zT Try.prog 96 = false := by kernel_rfl
theorem szT96 : szT Try.prog 96 = some (1, false) := by kernel_rfl
theorem arT96 : arT Try.prog 96 = none := by kernel_rfl
theorem zT97 : zT Try.prog 97 = false := by kernel_rfl
theorem szT97 : szT Try.prog 97 = some (1, false) := by kernel_rfl
theorem arT97 : arT Try.prog 97 = none := by kernel_rfl
theorem zT98 : zT Try.prog 98 = false := by kernel_rfl
theorem szT98 : szT Try.prog 98 = some (9, true) := by kernel_rfl
theorem arT98 : arT Try.prog 98 = none := by kernel_rfl
theorem conc98 : Program.concrete Try.prog 98 = true := by kernel_rfl
theorem undS98 : (Program.underlying Try.prog 98).isSome = true := by kernel_rfl
theorem elT98 : elT Try.prog 98 = none := by kernel_rfl
theorem azT98 : azT Try.prog 98 = some (9, 1, [.slice none 0 0, .int .i64 0, .slice none 0 0, .slice none 0 0, .slice none 0 0, .nilIface, .int .i64 0, .int .i64 0, .int .i64 0]) := by kernel_rfl
theorem zeroT98 : zeroT Try.prog 98 = some [.slice none 0 0, .int .i64 0, .slice none 0 0, .slice none 0 0, .slice none 0 0, .nilIface, .int .i64 0, .int .i64 0, .int .i64 0] := by kernel_rfl
theorem bT98 : bT Try.prog 98 = true := by kernel_rfl
theorem fldT98_0 : fldT Try.prog 98 0 = some (0, 5, true) := by kernel_rfl
theorem fldT98_1 : fldT Try.prog 98 1 = some (5, 1, false) := by kernel_rfl
theorem fldT98_2 : fldT Try.prog 98 2 = some (6, 2, true) := by kernel_rfl
theorem fldT98_3 : fldT Try.prog 98 3 = some (8, 1, false) := by kernel_rfl
theorem zT99 : zT Try.prog 99 = false := by kernel_rfl
theorem szT99 : szT Try.prog 99 = some (9, true) := by kernel_rfl
theorem arT99 : arT Try.prog 99 = none := by kernel_rfl
theorem conc99 : Program.concrete Try.prog 99 = true := by kernel_rfl
theorem undS99 : (Program.underlying Try.prog 99).isSome = true := by kernel_rfl
theorem elT99 : elT Try.prog 99 = none := by kernel_rfl
theorem azT99 : azT Try.prog 99 = some (9, 1, [.slice none 0 0, .int .i64 0, .slice none 0 0, .slice none 0 0, .slice none 0 0, .nilIface, .int .i64 0, .int .i64 0, .int .i64 0]) := by kernel_rfl
theorem zeroT99 : zeroT Try.prog 99 = some [.slice none 0 0, .int .i64 0, .slice none 0 0, .slice none 0 0, .slice none 0 0, .nilIface, .int .i64 0, .int .i64 0, .int .i64 0] := by kernel_rfl
theorem bT99 : bT Try.prog 99 = true := by kernel_rfl
theorem fldT99_0 : fldT Try.prog 99 0 = some (0, 5, true) := by kernel_rfl
theorem fldT99_1 : fldT Try.prog 99 1 = some (5, 1, false) := by kernel_rfl
theorem fldT99_2 : fldT Try.prog 99 2 = some (6, 2, true) := by kernel_rfl
theorem fldT99_3 : fldT Try.prog 99 3 = some (8, 1, false) := by kernel_rfl
theorem zT100 : zT Try.prog 100 = false := by kernel_rfl
theorem szT100 : szT Try.prog 100 = some (101, true) := by kernel_rfl
theorem conc100 : Program.concrete Try.prog 100 = true := by kernel_rfl
theorem undS100 : (Program.underlying Try.prog 100).isSome = true := by kernel_rfl
theorem elT100 : elT Try.prog 100 = none := by kernel_rfl
theorem arT100 : arT Try.prog 100 = some (101, 1, false) := by kernel_rfl
theorem azT100 : azT Try.prog 100 = some (1, 101, [.bool false]) := by kernel_rfl
theorem zT101 : zT Try.prog 101 = false := by kernel_rfl
theorem szT101 : szT Try.prog 101 = some (101, true) := by kernel_rfl
theorem conc101 : Program.concrete Try.prog 101 = true := by kernel_rfl
theorem undS101 : (Program.underlying Try.prog 101).isSome = true := by kernel_rfl
theorem elT101 : elT Try.prog 101 = none := by kernel_rfl
theorem arT101 : arT Try.prog 101 = some (101, 1, false) := by kernel_rfl
theorem azT101 : azT Try.prog 101 = some (1, 101, [.bool false]) := by kernel_rfl
theorem zT102 : zT Try.prog 102 = false := by kernel_rfl
theorem szT102 : szT Try.prog 102 = some (1, false) := by kernel_rfl
theorem zeroT102 : azT Try.prog 102 = some (1, 1, [.pointer none]) := by kernel_rfl
theorem arT102 : arT Try.prog 102 = none := by kernel_rfl
theorem conc102 : Program.concrete Try.prog 102 = true := by kernel_rfl
theorem zT103 : zT Try.prog 103 = false := by kernel_rfl
theorem szT103 : szT Try.prog 103 = some (1, false) := by kernel_rfl
theorem arT103 : arT Try.prog 103 = none := by kernel_rfl
theorem conc103 : Program.concrete Try.prog 103 = true := by kernel_rfl
theorem zT104 : zT Try.prog 104 = false := by kernel_rfl
theorem szT104 : szT Try.prog 104 = some (1, false) := by kernel_rfl
theorem arT104 : arT Try.prog 104 = none := by kernel_rfl
theorem conc104 : Program.concrete Try.prog 104 = true := by kernel_rfl
theorem zT105 : zT Try.prog 105 = false := by kernel_rfl
theorem szT105 : szT Try.prog 105 = some (1, false) := by kernel_rfl
theorem arT105 : arT Try.prog 105 = none := by kernel_rfl
theorem conc105 : Program.concrete Try.prog 105 = true := by kernel_rfl
theorem zT106 : zT Try.prog 106 = false := by kernel_rfl
theorem szT106 : szT Try.prog 106 = some (1, false) := by kernel_rfl
theorem arT106 : arT Try.prog 106 = none := by kernel_rfl
theorem conc106 : Program.concrete Try.prog 106 = true := by kernel_rfl
theorem zT107 : zT Try.prog 107 = false := by kernel_rfl
theorem szT107 : szT Try.prog 107 = some (1, false) := by kernel_rfl
theorem arT107 : arT Try.prog 107 = none := by kernel_rfl
theorem conc107 : Program.concrete Try.prog 107 = true := by kernel_rfl
theorem zT108 : zT Try.prog 108 = false := by kernel_rfl
theorem szT108 : szT Try.prog 108 = some (2, true) := by kernel_rfl
theorem arT108 : arT Try.prog 108 = none := by kernel_rfl
theorem conc108 : Program.concrete Try.prog 108 = true := by kernel_rfl
theorem undS108 : (Program.underlying Try.prog 108).isSome = true := by kernel_rfl
theorem elT108 : elT Try.prog 108 = none := by kernel_rfl
theorem azT108 : azT Try.prog 108 = some (2, 1, [.nilFunc, .nilFunc]) := by kernel_rfl
theorem zeroT108 : zeroT Try.prog 108 = some [.nilFunc, .nilFunc] := by kernel_rfl
theorem bT108 : bT Try.prog 108 = true := by kernel_rfl
theorem fldT108_0 : fldT Try.prog 108 0 = some (0, 1, false) := by kernel_rfl
theorem fldT108_1 : fldT Try.prog 108 1 = some (1, 1, false) := by kernel_rfl
theorem zT109 : zT Try.prog 109 = false := by kernel_rfl
theorem szT109 : szT Try.prog 109 = some (2, true) := by kernel_rfl
theorem arT109 : arT Try.prog 109 = none := by kernel_rfl
theorem conc109 : Program.concrete Try.prog 109 = true := by kernel_rfl
theorem undS109 : (Program.underlying Try.prog 109).isSome = true := by kernel_rfl
theorem elT109 : elT Try.prog 109 = none := by kernel_rfl
theorem azT109 : azT Try.prog 109 = some (2, 1, [.nilFunc, .nilFunc]) := by kernel_rfl
theorem zeroT109 : zeroT Try.prog 109 = some [.nilFunc, .nilFunc] := by kernel_rfl
theorem bT109 : bT Try.prog 109 = true := by kernel_rfl
theorem fldT109_0 : fldT Try.prog 109 0 = some (0, 1, false) := by kernel_rfl
theorem fldT109_1 : fldT Try.prog 109 1 = some (1, 1, false) := by kernel_rfl
theorem zT110 : zT Try.prog 110 = false := by kernel_rfl
theorem szT110 : szT Try.prog 110 = some (1, false) := by kernel_rfl
theorem arT110 : arT Try.prog 110 = none := by kernel_rfl
theorem conc110 : Program.concrete Try.prog 110 = true := by kernel_rfl
theorem zT111 : zT Try.prog 111 = false := by kernel_rfl
theorem szT111 : szT Try.prog 111 = some (1, false) := by kernel_rfl
theorem arT111 : arT Try.prog 111 = none := by kernel_rfl
theorem conc111 : Program.concrete Try.prog 111 = true := by kernel_rfl
theorem zT112 : zT Try.prog 112 = false := by kernel_rfl
theorem szT112 : szT Try.prog 112 = some (1, false) := by kernel_rfl
theorem arT112 : arT Try.prog 112 = none := by kernel_rfl
theorem conc112 : Program.concrete Try.prog 112 = true := by kernel_rfl
theorem zT113 : zT Try.prog 113 = false := by kernel_rfl
theorem szT113 : szT Try.prog 113 = some (1, false) := by kernel_rfl
theorem arT113 : arT Try.prog 113 = none := by kernel_rfl
theorem conc113 : Program.concrete Try.prog 113 = true := by kernel_rfl
theorem undS113 : (Program.underlying Try.prog 113).isSome = true := by kernel_rfl
theorem intT113 : intT Try.prog 113 = some .u64 := by kernel_rfl
theorem elT113 : elT Try.prog 113 = none := by kernel_rfl
theorem azT113 : azT Try.prog 113 = some (1, 1, [.int .u64 0]) := by kernel_rfl
theorem zeroT113 : zeroT Try.prog 113 = some [.int .u64 0] := by kernel_rfl
theorem zT114 : zT Try.prog 114 = false := by kernel_rfl
theorem szT114 : szT Try.prog 114 = some (1, false) := by kernel_rfl
theorem arT114 : arT Try.prog 114 = none := by kernel_rfl
theorem conc114 : Program.concrete Try.prog 114 = true := by kernel_rfl
theorem zT116 : zT Try.prog 116 = false := by kernel_rfl
theorem szT116 : szT Try.prog 116 = some (8, true) := by kernel_rfl
theorem conc116 : Program.concrete Try.prog 116 = true := by kernel_rfl
theorem undS116 : (Program.underlying Try.prog 116).isSome = true := by kernel_rfl
theorem elT116 : elT Try.prog 116 = none := by kernel_rfl
theorem arT116 : arT Try.prog 116 = some (8, 1, false) := by kernel_rfl
theorem azT116 : azT Try.prog 116 = some (1, 8, [.int .i64 0]) := by kernel_rfl
theorem zeroT116 : zeroT Try.prog 116 = some [.int .i64 0, .int .i64 0, .int .i64 0, .int .i64 0, .int .i64 0, .int .i64 0, .int .i64 0, .int .i64 0] := by kernel_rfl
theorem zT117 : zT Try.prog 117 = false := by kernel_rfl
theorem szT117 : szT Try.prog 117 = some (1, false) := by kernel_rfl
theorem arT117 : arT Try.prog 117 = none := by kernel_rfl
theorem conc117 : Program.concrete Try.prog 117 = true := by kernel_rfl
theorem zT118 : zT Try.prog 118 = false := by kernel_rfl
theorem szT118 : szT Try.prog 118 = some (1, false) := by kernel_rfl
theorem arT118 : arT Try.prog 118 = none := by kernel_rfl
theorem conc118 : Program.concrete Try.prog 118 = true := by kernel_rfl
theorem zT119 : zT Try.prog 119 = false := by kernel_rfl
theorem szT119 : szT Try.prog 119 = some (1, false) := by kernel_rfl
theorem arT119 : arT Try.prog 119 = none := by kernel_rfl
theorem conc119 : Program.concrete Try.prog 119 = true := by kernel_rfl
theorem zT120 : zT Try.prog 120 = false := by kernel_rfl
theorem szT120 : szT Try.prog 120 = some (1, false) := by kernel_rfl
theorem arT120 : arT Try.prog 120 = none := by kernel_rfl
theorem conc120 : Program.concrete Try.prog 120 = true := by kernel_rfl
theorem zT121 : zT Try.prog 121 = false := by kernel_rfl
theorem szT121 : szT Try.prog 121 = some (5, true) := by kernel_rfl
theorem arT121 : arT Try.prog 121 = none := by kernel_rfl
theorem conc121 : Program.concrete Try.prog 121 = true := by kernel_rfl
theorem undS121 : (Program.underlying Try.prog 121).isSome = true := by kernel_rfl
theorem elT121 : elT Try.prog 121 = none := by kernel_rfl
theorem azT121 : azT Try.prog 121 = some (5, 1, [.int .i64 0, .int .i64 0, .int .i64 0, .int .i64 0, .int .i64 0]) := by kernel_rfl
theorem zeroT121 : zeroT Try.prog 121 = some [.int .i64 0, .int .i64 0, .int .i64 0, .int .i64 0, .int .i64 0] := by kernel_rfl
theorem bT121 : bT Try.prog 121 = true := by kernel_rfl
theorem fldT121_0 : fldT Try.prog 121 0 = some (0, 1, false) := by kernel_rfl
theorem fldT121_1 : fldT Try.prog 121 1 = some (1, 2, true) := by kernel_rfl
theorem fldT121_2 : fldT Try.prog 121 2 = some (3, 2, true) := by kernel_rfl
theorem zT122 : zT Try.prog 122 = false := by kernel_rfl
theorem szT122 : szT Try.prog 122 = some (5, true) := by kernel_rfl
theorem arT122 : arT Try.prog 122 = none := by kernel_rfl
theorem conc122 : Program.concrete Try.prog 122 = true := by kernel_rfl
theorem undS122 : (Program.underlying Try.prog 122).isSome = true := by kernel_rfl
theorem elT122 : elT Try.prog 122 = none := by kernel_rfl
theorem azT122 : azT Try.prog 122 = some (5, 1, [.int .i64 0, .int .i64 0, .int .i64 0, .int .i64 0, .int .i64 0]) := by kernel_rfl
theorem zeroT122 : zeroT Try.prog 122 = some [.int .i64 0, .int .i64 0, .int .i64 0, .int .i64 0, .int .i64 0] := by kernel_rfl
theorem bT122 : bT Try.prog 122 = true := by kernel_rfl
theorem fldT122_0 : fldT Try.prog 122 0 = some (0, 1, false) := by kernel_rfl
theorem fldT122_1 : fldT Try.prog 122 1 = some (1, 2, true) := by kernel_rfl
theorem fldT122_2 : fldT Try.prog 122 2 = some (3, 2, true) := by kernel_rfl
theorem zT123 : zT Try.prog 123 = false := by kernel_rfl
theorem szT123 : szT Try.prog 123 = some (1, false) := by kernel_rfl
theorem arT123 : arT Try.prog 123 = none := by kernel_rfl
theorem conc123 : Program.concrete Try.prog 123 = true := by kernel_rfl
theorem undS123 : (Program.underlying Try.prog 123).isSome = true := by kernel_rfl
theorem intT123 : intT Try.prog 123 = some .i64 := by kernel_rfl
theorem elT123 : elT Try.prog 123 = none := by kernel_rfl
theorem azT123 : azT Try.prog 123 = some (1, 1, [.int .i64 0]) := by kernel_rfl
theorem zeroT123 : zeroT Try.prog 123 = some [.int .i64 0] := by kernel_rfl
theorem zT125 : zT Try.prog 125 = false := by kernel_rfl
theorem szT125 : szT Try.prog 125 = some (1, false) := by kernel_rfl
theorem arT125 : arT Try.prog 125 = none := by kernel_rfl
theorem conc125 : Program.concrete Try.prog 125 = true := by kernel_rfl
theorem zT126 : zT Try.prog 126 = true := by kernel_rfl
theorem szT126 : szT Try.prog 126 = some (0, true) := by kernel_rfl
theorem arT126 : arT Try.prog 126 = none := by kernel_rfl
theorem conc126 : Program.concrete Try.prog 126 = true := by kernel_rfl
theorem undS126 : (Program.underlying Try.prog 126).isSome = true := by kernel_rfl
theorem elT126 : elT Try.prog 126 = none := by kernel_rfl
theorem azT126 : azT Try.prog 126 = some (0, 1, []) := by kernel_rfl
theorem zeroT126 : zeroT Try.prog 126 = some [] := by kernel_rfl
theorem bT126 : bT Try.prog 126 = true := by kernel_rfl
theorem zT127 : zT Try.prog 127 = false := by kernel_rfl
theorem szT127 : szT Try.prog 127 = some (1, false) := by kernel_rfl
theorem arT127 : arT Try.prog 127 = none := by kernel_rfl
theorem conc127 : Program.concrete Try.prog 127 = true := by kernel_rfl
theorem zT128 : zT Try.prog 128 = false := by kernel_rfl
theorem szT128 : szT Try.prog 128 = some (1, false) := by kernel_rfl
theorem arT128 : arT Try.prog 128 = none := by kernel_rfl
theorem conc128 : Program.concrete Try.prog 128 = true := by kernel_rfl
theorem zT129 : zT Try.prog 129 = false := by kernel_rfl
theorem szT129 : szT Try.prog 129 = some (1, false) := by kernel_rfl
theorem arT129 : arT Try.prog 129 = none := by kernel_rfl
theorem conc129 : Program.concrete Try.prog 129 = true := by kernel_rfl
theorem zT130 : zT Try.prog 130 = false := by kernel_rfl
theorem szT130 : szT Try.prog 130 = some (1, false) := by kernel_rfl
theorem arT130 : arT Try.prog 130 = none := by kernel_rfl
theorem conc130 : Program.concrete Try.prog 130 = true := by kernel_rfl
theorem zT131 : zT Try.prog 131 = false := by kernel_rfl
theorem szT131 : szT Try.prog 131 = some (1, false) := by kernel_rfl
theorem arT131 : arT Try.prog 131 = none := by kernel_rfl
theorem conc131 : Program.concrete Try.prog 131 = true := by kernel_rfl
theorem zT132 : zT Try.prog 132 = false := by kernel_rfl
theorem szT132 : szT Try.prog 132 = some (1, false) := by kernel_rfl
theorem arT132 : arT Try.prog 132 = none := by kernel_rfl
theorem conc132 : Program.concrete Try.prog 132 = true := by kernel_rfl
theorem zT133 : zT Try.prog 133 = false := by kernel_rfl
theorem szT133 : szT Try.prog 133 = some (1, false) := by kernel_rfl
theorem arT133 : arT Try.prog 133 = none := by kernel_rfl
theorem conc133 : Program.concrete Try.prog 133 = true := by kernel_rfl
theorem zT134 : zT Try.prog 134 = false := by kernel_rfl
theorem szT134 : szT Try.prog 134 = some (1, false) := by kernel_rfl
theorem arT134 : arT Try.prog 134 = none := by kernel_rfl
theorem conc134 : Program.concrete Try.prog 134 = true := by kernel_rfl
theorem undS134 : (Program.underlying Try.prog 134).isSome = true := by kernel_rfl
theorem intT134 : intT Try.prog 134 = some .i64 := by kernel_rfl
theorem elT134 : elT Try.prog 134 = none := by kernel_rfl
theorem azT134 : azT Try.prog 134 = some (1, 1, [.int .i64 0]) := by kernel_rfl
theorem zeroT134 : zeroT Try.prog 134 = some [.int .i64 0] := by kernel_rfl
theorem zT136 : zT Try.prog 136 = false := by kernel_rfl
theorem szT136 : szT Try.prog 136 = some (1, false) := by kernel_rfl
theorem arT136 : arT Try.prog 136 = none := by kernel_rfl
theorem conc136 : Program.concrete Try.prog 136 = true := by kernel_rfl
theorem zT137 : zT Try.prog 137 = false := by kernel_rfl
theorem szT137 : szT Try.prog 137 = some (3, true) := by kernel_rfl
theorem arT137 : arT Try.prog 137 = none := by kernel_rfl
theorem conc137 : Program.concrete Try.prog 137 = true := by kernel_rfl
theorem undS137 : (Program.underlying Try.prog 137).isSome = true := by kernel_rfl
theorem elT137 : elT Try.prog 137 = none := by kernel_rfl
theorem azT137 : azT Try.prog 137 = some (3, 1, [.slice none 0 0, .slice none 0 0, .map none]) := by kernel_rfl
theorem zeroT137 : zeroT Try.prog 137 = some [.slice none 0 0, .slice none 0 0, .map none] := by kernel_rfl
theorem bT137 : bT Try.prog 137 = true := by kernel_rfl
theorem fldT137_0 : fldT Try.prog 137 0 = some (0, 2, true) := by kernel_rfl
theorem fldT137_1 : fldT Try.prog 137 1 = some (2, 1, false) := by kernel_rfl
theorem zT138 : zT Try.prog 138 = false := by kernel_rfl
theorem szT138 : szT Try.prog 138 = some (3, true) := by kernel_rfl
theorem arT138 : arT Try.prog 138 = none := by kernel_rfl
theorem conc138 : Program.concrete Try.prog 138 = true := by kernel_rfl
theorem undS138 : (Program.underlying Try.prog 138).isSome = true := by kernel_rfl
theorem elT138 : elT Try.prog 138 = none := by kernel_rfl
theorem azT138 : azT Try.prog 138 = some (3, 1, [.slice none 0 0, .slice none 0 0, .map none]) := by kernel_rfl
theorem zeroT138 : zeroT Try.prog 138 = some [.slice none 0 0, .slice none 0 0, .map none] := by kernel_rfl
theorem bT138 : bT Try.prog 138 = true := by kernel_rfl
theorem fldT138_0 : fldT Try.prog 138 0 = some (0, 2, true) := by kernel_rfl
theorem fldT138_1 : fldT Try.prog 138 1 = some (2, 1, false) := by kernel_rfl
theorem zT139 : zT Try.prog 139 = false := by kernel_rfl
theorem szT139 : szT Try.prog 139 = some (1, false) := by kernel_rfl
theorem arT139 : arT Try.prog 139 = none := by kernel_rfl
theorem conc139 : Program.concrete Try.prog 139 = true := by kernel_rfl
theorem zT140 : zT Try.prog 140 = false := by kernel_rfl
theorem szT140 : szT Try.prog 140 = some (1, false) := by kernel_rfl
theorem arT140 : arT Try.prog 140 = none := by kernel_rfl
theorem conc140 : Program.concrete Try.prog 140 = true := by kernel_rfl
theorem zT141 : zT Try.prog 141 = false := by kernel_rfl
theorem szT141 : szT Try.prog 141 = some (1, false) := by kernel_rfl
theorem arT141 : arT Try.prog 141 = none := by kernel_rfl
theorem conc141 : Program.concrete Try.prog 141 = true := by kernel_rfl
theorem zT142 : zT Try.prog 142 = false := by kernel_rfl
theorem szT142 : szT Try.prog 142 = some (2, true) := by kernel_rfl
theorem arT142 : arT Try.prog 142 = none := by kernel_rfl
theorem conc142 : Program.concrete Try.prog 142 = true := by kernel_rfl
theorem undS142 : (Program.underlying Try.prog 142).isSome = true := by kernel_rfl
theorem elT142 : elT Try.prog 142 = none := by kernel_rfl
theorem azT142 : azT Try.prog 142 = some (2, 1, [.int .i64 0, .bool false]) := by kernel_rfl
theorem zeroT142 : zeroT Try.prog 142 = some [.int .i64 0, .bool false] := by kernel_rfl
theorem bT142 : bT Try.prog 142 = true := by kernel_rfl
theorem fldT142_0 : fldT Try.prog 142 0 = some (0, 1, false) := by kernel_rfl
theorem fldT142_1 : fldT Try.prog 142 1 = some (1, 1, false) := by kernel_rfl
theorem zT143 : zT Try.prog 143 = false := by kernel_rfl
theorem szT143 : szT Try.prog 143 = some (2, true) := by kernel_rfl
theorem arT143 : arT Try.prog 143 = none := by kernel_rfl
theorem conc143 : Program.concrete Try.prog 143 = true := by kernel_rfl
theorem undS143 : (Program.underlying Try.prog 143).isSome = true := by kernel_rfl
theorem elT143 : elT Try.prog 143 = none := by kernel_rfl
theorem azT143 : azT Try.prog 143 = some (2, 1, [.int .i64 0, .bool false]) := by kernel_rfl
theorem zeroT143 : zeroT Try.prog 143 = some [.int .i64 0, .bool false] := by kernel_rfl
theorem bT143 : bT Try.prog 143 = true := by kernel_rfl
theorem fldT143_0 : fldT Try.prog 143 0 = some (0, 1, false) := by kernel_rfl
theorem fldT143_1 : fldT Try.prog 143 1 = some (1, 1, false) := by kernel_rfl
theorem zT145 : zT Try.prog 145 = false := by kernel_rfl
theorem szT145 : szT Try.prog 145 = some (1, false) := by kernel_rfl
theorem arT145 : arT Try.prog 145 = none := by kernel_rfl
theorem conc145 : Program.concrete Try.prog 145 = true := by kernel_rfl
theorem zT146 : zT Try.prog 146 = false := by kernel_rfl
theorem szT146 : szT Try.prog 146 = some (1, false) := by kernel_rfl
theorem arT146 : arT Try.prog 146 = none := by kernel_rfl
theorem conc146 : Program.concrete Try.prog 146 = true := by kernel_rfl
theorem zT147 : zT Try.prog 147 = false := by kernel_rfl
theorem szT147 : szT Try.prog 147 = some (1, false) := by kernel_rfl
theorem arT147 : arT Try.prog 147 = none := by kernel_rfl
theorem conc147 : Program.concrete Try.prog 147 = true := by kernel_rfl
theorem undS147 : (Program.underlying Try.prog 147).isSome = true := by kernel_rfl
theorem intT147 : intT Try.prog 147 = some .u32 := by kernel_rfl
theorem elT147 : elT Try.prog 147 = none := by kernel_rfl
theorem azT147 : azT Try.prog 147 = some (1, 1, [.int .u32 0]) := by kernel_rfl
theorem zeroT147 : zeroT Try.prog 147 = some [.int .u32 0] := by kernel_rfl
theorem zT148 : zT Try.prog 148 = false := by kernel_rfl
theorem szT148 : szT Try.prog 148 = some (1, false) := by kernel_rfl
theorem arT148 : arT Try.prog 148 = none := by kernel_rfl
theorem conc148 : Program.concrete Try.prog 148 = true := by kernel_rfl
theorem zT149 : zT Try.prog 149 = false := by kernel_rfl
theorem szT149 : szT Try.prog 149 = some (1, false) := by kernel_rfl
theorem arT149 : arT Try.prog 149 = none := by kernel_rfl
theorem conc149 : Program.concrete Try.prog 149 = true := by kernel_rfl
theorem undS149 : (Program.underlying Try.prog 149).isSome = true := by kernel_rfl
theorem intT149 : intT Try.prog 149 = some .u64 := by kernel_rfl
theorem elT149 : elT Try.prog 149 = none := by kernel_rfl
theorem azT149 : azT Try.prog 149 = some (1, 1, [.int .u64 0]) := by kernel_rfl
theorem zeroT149 : zeroT Try.prog 149 = some [.int .u64 0] := by kernel_rfl
theorem zT150 : zT Try.prog 150 = false := by kernel_rfl
theorem szT150 : szT Try.prog 150 = some (1, false) := by kernel_rfl
theorem arT150 : arT Try.prog 150 = none := by kernel_rfl
theorem conc150 : Program.concrete Try.prog 150 = true := by kernel_rfl
theorem zT151 : zT Try.prog 151 = false := by kernel_rfl
theorem szT151 : szT Try.prog 151 = some (1, false) := by kernel_rfl
theorem arT151 : arT Try.prog 151 = none := by kernel_rfl
theorem conc151 : Program.concrete Try.prog 151 = true := by kernel_rfl
theorem zT152 : zT Try.prog 152 = false := by kernel_rfl
theorem szT152 : szT Try.prog 152 = some (1, false) := by kernel_rfl
theorem arT152 : arT Try.prog 152 = none := by kernel_rfl
theorem conc152 : Program.concrete Try.prog 152 = true := by kernel_rfl
theorem zT153 : zT Try.prog 153 = false := by kernel_rfl
theorem szT153 : szT Try.prog 153 = some (5, true) := by kernel_rfl
theorem arT153 : arT Try.prog 153 = none := by kernel_rfl
theorem conc153 : Program.concrete Try.prog 153 = true := by kernel_rfl
theorem undS153 : (Program.underlying Try.prog 153).isSome = true := by kernel_rfl
theorem elT153 : elT Try.prog 153 = none := by kernel_rfl
theorem azT153 : azT Try.prog 153 = some (5, 1, [.int .i64 0, .int .i64 0, .int .i64 0, .int .i64 0, .int .i64 0]) := by kernel_rfl
theorem zeroT153 : zeroT Try.prog 153 = some [.int .i64 0, .int .i64 0, .int .i64 0, .int .i64 0, .int .i64 0] := by kernel_rfl
theorem bT153 : bT Try.prog 153 = true := by kernel_rfl
theorem fldT153_0 : fldT Try.prog 153 0 = some (0, 5, true) := by kernel_rfl
theorem zT154 : zT Try.prog 154 = false := by kernel_rfl
theorem szT154 : szT Try.prog 154 = some (5, true) := by kernel_rfl
theorem arT154 : arT Try.prog 154 = none := by kernel_rfl
theorem conc154 : Program.concrete Try.prog 154 = true := by kernel_rfl
theorem undS154 : (Program.underlying Try.prog 154).isSome = true := by kernel_rfl
theorem elT154 : elT Try.prog 154 = none := by kernel_rfl
theorem azT154 : azT Try.prog 154 = some (5, 1, [.int .i64 0, .int .i64 0, .int .i64 0, .int .i64 0, .int .i64 0]) := by kernel_rfl
theorem zeroT154 : zeroT Try.prog 154 = some [.int .i64 0, .int .i64 0, .int .i64 0, .int .i64 0, .int .i64 0] := by kernel_rfl
theorem bT154 : bT Try.prog 154 = true := by kernel_rfl
theorem fldT154_0 : fldT Try.prog 154 0 = some (0, 5, true) := by kernel_rfl
theorem zT155 : zT Try.prog 155 = false := by kernel_rfl
theorem szT155 : szT Try.prog 155 = some (1, false) := by kernel_rfl
theorem arT155 : arT Try.prog 155 = none := by kernel_rfl
theorem conc155 : Program.concrete Try.prog 155 = true := by kernel_rfl
theorem zT156 : zT Try.prog 156 = false := by kernel_rfl
theorem szT156 : szT Try.prog 156 = some (1, false) := by kernel_rfl
theorem arT156 : arT Try.prog 156 = none := by kernel_rfl
theorem zT157 : zT Try.prog 157 = false := by kernel_rfl
theorem szT157 : szT Try.prog 157 = some (1, false) := by kernel_rfl
theorem arT157 : arT Try.prog 157 = none := by kernel_rfl
theorem zT158 : zT Try.prog 158 = false := by kernel_rfl
theorem szT158 : szT Try.prog 158 = some (1, false) := by kernel_rfl
theorem arT158 : arT Try.prog 158 = none := by kernel_rfl
theorem conc158 : Program.concrete Try.prog 158 = true := by kernel_rfl
theorem zT159 : zT Try.prog 159 = false := by kernel_rfl
theorem szT159 : szT Try.prog 159 = some (1, false) := by kernel_rfl
theorem arT159 : arT Try.prog 159 = none := by kernel_rfl
theorem conc159 : Program.concrete Try.prog 159 = true := by kernel_rfl
theorem zT160 : zT Try.prog 160 = false := by kernel_rfl
theorem szT160 : szT Try.prog 160 = some (1, false) := by kernel_rfl
theorem arT160 : arT Try.prog 160 = none := by kernel_rfl
theorem conc160 : Program.concrete Try.prog 160 = true := by kernel_rfl
theorem zT161 : zT Try.prog 161 = false := by kernel_rfl
theorem szT161 : szT Try.prog 161 = some (1, false) := by kernel_rfl
theorem arT161 : arT Try.prog 161 = none := by kernel_rfl
theorem conc161 : Program.concrete Try.prog 161 = true := by kernel_rfl
theorem zT162 : zT Try.prog 162 = false := by kernel_rfl
theorem szT162 : szT Try.prog 162 = some (1, false) := by kernel_rfl
theorem arT162 : arT Try.prog 162 = none := by kernel_rfl
theorem conc162 : Program.concrete Try.prog 162 = true := by kernel_rfl
theorem zT168 : zT Try.prog 168 = false := by kernel_rfl
theorem szT168 : szT Try.prog 168 = some (1, false) := by kernel_rfl
theorem arT168 : arT Try.prog 168 = none := by kernel_rfl
theorem conc168 : Program.concrete Try.prog 168 = true := by kernel_rfl
theorem zT171 : zT Try.prog 171 = false := by kernel_rfl
theorem szT171 : szT Try.prog 171 = some (1, false) := by kernel_rfl
theorem arT171 : arT Try.prog 171 = none := by kernel_rfl
theorem conc171 : Program.concrete Try.prog 171 = true := by kernel_rfl
theorem zT172 : zT Try.prog 172 = false := by kernel_rfl
theorem szT172 : szT Try.prog 172 = some (1, false) := by kernel_rfl
theorem zeroT172 : azT Try.prog 172 = some (1, 1, [.pointer none]) := by kernel_rfl
theorem arT172 : arT Try.prog 172 = none := by kernel_rfl
theorem conc172 : Program.concrete Try.prog 172 = true := by kernel_rfl
theorem zT177 : zT Try.prog 177 = false := by kernel_rfl
theorem szT177 : szT Try.prog 177 = some (1, true) := by kernel_rfl
theorem arT177 : arT Try.prog 177 = none := by kernel_rfl
theorem conc177 : Program.concrete Try.prog 177 = true := by kernel_rfl
theorem undS177 : (Program.underlying Try.prog 177).isSome = true := by kernel_rfl
theorem elT177 : elT Try.prog 177 = none := by kernel_rfl
theorem azT177 : azT Try.prog 177 = some (1, 1, [.int .i64 0]) := by kernel_rfl
theorem zeroT177 : zeroT Try.prog 177 = some [.int .i64 0] := by kernel_rfl
theorem bT177 : bT Try.prog 177 = true := by kernel_rfl
theorem fldT177_0 : fldT Try.prog 177 0 = some (0, 1, false) := by kernel_rfl
theorem zT178 : zT Try.prog 178 = false := by kernel_rfl
theorem szT178 : szT Try.prog 178 = some (1, true) := by kernel_rfl
theorem arT178 : arT Try.prog 178 = none := by kernel_rfl
theorem conc178 : Program.concrete Try.prog 178 = true := by kernel_rfl
theorem undS178 : (Program.underlying Try.prog 178).isSome = true := by kernel_rfl
theorem elT178 : elT Try.prog 178 = none := by kernel_rfl
theorem azT178 : azT Try.prog 178 = some (1, 1, [.int .i64 0]) := by kernel_rfl
theorem zeroT178 : zeroT Try.prog 178 = some [.int .i64 0] := by kernel_rfl
theorem bT178 : bT Try.prog 178 = true := by kernel_rfl
theorem fldT178_0 : fldT Try.prog 178 0 = some (0, 1, false) := by kernel_rfl
theorem zT179 : zT Try.prog 179 = false := by kernel_rfl
theorem szT179 : szT Try.prog 179 = some (2, true) := by kernel_rfl
theorem arT179 : arT Try.prog 179 = none := by kernel_rfl
theorem conc179 : Program.concrete Try.prog 179 = true := by kernel_rfl
theorem undS179 : (Program.underlying Try.prog 179).isSome = true := by kernel_rfl
theorem elT179 : elT Try.prog 179 = none := by kernel_rfl
theorem azT179 : azT Try.prog 179 = some (2, 1, [.int .i64 0, .int .i64 0]) := by kernel_rfl
theorem zeroT179 : zeroT Try.prog 179 = some [.int .i64 0, .int .i64 0] := by kernel_rfl
theorem bT179 : bT Try.prog 179 = true := by kernel_rfl
theorem fldT179_0 : fldT Try.prog 179 0 = some (0, 1, true) := by kernel_rfl
theorem fldT179_1 : fldT Try.prog 179 1 = some (1, 1, false) := by kernel_rfl
theorem zT180 : zT Try.prog 180 = false := by kernel_rfl
theorem szT180 : szT Try.prog 180 = some (2, true) := by kernel_rfl
theorem arT180 : arT Try.prog 180 = none := by kernel_rfl
theorem conc180 : Program.concrete Try.prog 180 = true := by kernel_rfl
theorem undS180 : (Program.underlying Try.prog 180).isSome = true := by kernel_rfl
theorem elT180 : elT Try.prog 180 = none := by kernel_rfl
theorem azT180 : azT Try.prog 180 = some (2, 1, [.int .i64 0, .int .i64 0]) := by kernel_rfl
theorem zeroT180 : zeroT Try.prog 180 = some [.int .i64 0, .int .i64 0] := by kernel_rfl
theorem bT180 : bT Try.prog 180 = true := by kernel_rfl
theorem fldT180_0 : fldT Try.prog 180 0 = some (0, 1, true) := by kernel_rfl
theorem fldT180_1 : fldT Try.prog 180 1 = some (1, 1, false) := by kernel_rfl
theorem zT181 : zT Try.prog 181 = false := by kernel_rfl
theorem szT181 : szT Try.prog 181 = some (6, true) := by kernel_rfl
theorem arT181 : arT Try.prog 181 = none := by kernel_rfl
theorem conc181 : Program.concrete Try.prog 181 = true := by kernel_rfl
theorem undS181 : (Program.underlying Try.prog 181).isSome = true := by kernel_rfl
theorem elT181 : elT Try.prog 181 = none := by kernel_rfl
theorem azT181 : azT Try.prog 181 = some (6, 1, [.int .i64 0, .int .i64 0, .int .i64 0, .int .i64 0, .int .i64 0, .int .i64 0]) := by kernel_rfl
theorem zeroT181 : zeroT Try.prog 181 = some [.int .i64 0, .int .i64 0, .int .i64 0, .int .i64 0, .int .i64 0, .int .i64 0] := by kernel_rfl
theorem bT181 : bT Try.prog 181 = true := by kernel_rfl
theorem fldT181_0 : fldT Try.prog 181 0 = some (0, 5, true) := by kernel_rfl
theorem fldT181_1 : fldT Try.prog 181 1 = some (5, 1, false) := by kernel_rfl
theorem zT182 : zT Try.prog 182 = false := by kernel_rfl
theorem szT182 : szT Try.prog 182 = some (6, true) := by kernel_rfl
theorem arT182 : arT Try.prog 182 = none := by kernel_rfl
theorem conc182 : Program.concrete Try.prog 182 = true := by kernel_rfl
theorem undS182 : (Program.underlying Try.prog 182).isSome = true := by kernel_rfl
theorem elT182 : elT Try.prog 182 = none := by kernel_rfl
theorem azT182 : azT Try.prog 182 = some (6, 1, [.int .i64 0, .int .i64 0, .int .i64 0, .int .i64 0, .int .i64 0, .int .i64 0]) := by kernel_rfl
theorem zeroT182 : zeroT Try.prog 182 = some [.int .i64 0, .int .i64 0, .int .i64 0, .int .i64 0, .int .i64 0, .int .i64 0] := by kernel_rfl
theorem bT182 : bT Try.prog 182 = true := by kernel_rfl
theorem fldT182_0 : fldT Try.prog 182 0 = some (0, 5, true) := by kernel_rfl
theorem fldT182_1 : fldT Try.prog 182 1 = some (5, 1, false) := by kernel_rfl
theorem zT183 : zT Try.prog 183 = false := by kernel_rfl
theorem szT183 : szT Try.prog 183 = some (1, false) := by kernel_rfl
theorem arT183 : arT Try.prog 183 = none := by kernel_rfl
theorem conc183 : Program.concrete Try.prog 183 = true := by kernel_rfl
theorem zT184 : zT Try.prog 184 = false := by kernel_rfl
theorem szT184 : szT Try.prog 184 = some (1, false) := by kernel_rfl
theorem arT184 : arT Try.prog 184 = none := by kernel_rfl
theorem conc184 : Program.concrete Try.prog 184 = true := by kernel_rfl
theorem zT185 : zT Try.prog 185 = false := by kernel_rfl
theorem szT185 : szT Try.prog 185 = some (1, false) := by kernel_rfl
theorem arT185 : arT Try.prog 185 = none := by kernel_rfl
theorem conc185 : Program.concrete Try.prog 185 = true := by kernel_rfl
theorem zT186 : zT Try.prog 186 = false := by kernel_rfl
theorem szT186 : szT Try.prog 186 = some (1, false) := by kernel_rfl
theorem arT186 : arT Try.prog 186 = none := by kernel_rfl
theorem conc186 : Program.concrete Try.prog 186 = true := by kernel_rfl
theorem zT187 : zT Try.prog 187 = false := by kernel_rfl
theorem szT187 : szT Try.prog 187 = some (1, false) := by kernel_rfl
theorem arT187 : arT Try.prog 187 = none := by kernel_rfl
theorem conc187 : Program.concrete Try.prog 187 = true := by kernel_rfl
theorem zT188 : zT Try.prog 188 = false := by kernel_rfl
theorem szT188 : szT Try.prog 188 = some (1, false) := by kernel_rfl
theorem arT188 : arT Try.prog 188 = none := by kernel_rfl
theorem conc188 : Program.concrete Try.prog 188 = true := by kernel_rfl
theorem undS188 : (Program.underlying Try.prog 188).isSome = true := by kernel_rfl
theorem elT188 : elT Try.prog 188 = none := by kernel_rfl
theorem azT188 : azT Try.prog 188 = some (1, 1, [.pointer none]) := by kernel_rfl
theorem zeroT188 : zeroT Try.prog 188 = some [.pointer none] := by kernel_rfl
theorem wtAll : type_of% (And.intro (And.intro (And.intro (And.intro (And.intro (And.intro (And.intro (And.intro (And.intro (@boolT4) (And.intro (@ifcT20) (@ifcT96))) (And.intro (And.intro (@ifcT97) (@ifcT156)) (And.intro (@ifcT157) (@meth154)))) (And.intro (And.intro (And.intro (@meth182) (@meth81o)) (And.intro (@meth81s) (@meth126o))) (And.intro (And.intro (@meth126s) (@mapZ136)) (And.intro (@zT1) (@szT1))))) (And.intro (And.intro (And.intro (And.intro (@arT1) (@conc1)) (And.intro (@zT2) (@szT2))) (And.intro (And.intro (@arT2) (@conc2)) (And.intro (@undS2) (@intT2)))) (And.intro (And.intro (And.intro (@elT2) (@azT2)) (And.intro (@zeroT2) (@zT3))) (And.intro (And.intro (@szT3) (@arT3)) (And.intro (@conc3) (@undS3)))))) (And.intro (And.intro (And.intro (And.intro (And.intro (@intT3) (@elT3)) (And.intro (@azT3) (@zeroT3))) (And.intro (And.intro (@zT4) (@szT4)) (And.intro (@arT4) (@conc4)))) (And.intro (And.intro (And.intro (@undS4) (@elT4)) (And.intro (@azT4) (@zeroT4))) (And.intro (And.intro (@zT5) (@szT5)) (And.intro (@arT5) (@conc5))))) (And.intro (And.intro (And.intro (And.intro (@undS5) (@intT5)) (And.intro (@elT5) (@azT5))) (And.intro (And.intro (@zeroT5) (@zT12)) (And.intro (@szT12) (@arT12)))) (And.intro (And.intro (And.intro (@conc12) (@undS12)) (And.intro (@intT12) (@elT12))) (And.intro (And.intro (@azT12) (@zeroT12)) (And.intro (@zT13) (@szT13))))))) (And.intro (And.intro (And.intro (And.intro (And.intro (@arT13) (And.intro (@conc13) (@undS13))) (And.intro (And.intro (@elT13) (@azT13)) (And.intro (@zeroT13) (@bT13)))) (And.intro (And.intro (And.intro (@fldT13_0) (@fldT13_1)) (And.intro (@zT20) (@szT20))) (And.intro (And.intro (@arT20) (@zT21)) (And.intro (@szT21) (@arT21))))) (And.intro (And.intro (And.intro (And.intro (@conc21) (@undS21)) (And.intro (@intT21) (@elT21))) (And.intro (And.intro (@azT21) (@zeroT21)) (And.intro (@zT22) (@szT22)))) (And.intro (And.intro (And.intro (@arT22) (@conc22)) (And.intro (@undS22) (@elT22))) (And.intro (And.intro (@elB22) (@bsT22)) (And.intro (@mkT22) (@azT22)))))) (And.intro (And.intro (And.intro (And.intro (And.intro (@zeroT22) (@zT23)) (And.intro (@szT23) (@arT23))) (And.intro (And.intro (@conc23) (@undS23)) (And.intro (@elT23) (@elB23)))) (And.intro (And.intro (And.intro (@bsT23) (@mkT23)) (And.intro (@azT23) (@zeroT23))) (And.intro (And.intro (@zT24) (@szT24)) (And.intro (@arT24) (@conc24))))) (And.intro (And.intro (And.intro (And.intro (@undS24) (@elT24)) (And.intro (@elB24) (@bsT24))) (And.intro (And.intro (@mkT24) (@azT24)) (And.intro (@zeroT24) (@zT25)))) (And.intro (And.intro (And.intro (@szT25) (@arT25)) (And.intro (@conc25) (@undS25))) (And.intro (And.intro (@elT25) (@elB25)) (And.intro (@bsT25) (@mkT25)))))))) (And.intro (And.intro (And.intro (And.intro (And.intro (And.intro (@azT25) (And.intro (@zeroT25) (@zT26))) (And.intro (And.intro (@szT26) (@arT26)) (And.intro (@conc26) (@undS26)))) (And.intro (And.intro (And.intro (@elT26) (@azT26)) (And.intro (@zeroT26) (@bT26))) (And.intro (And.intro (@fldT26_0) (@fldT26_1)) (And.intro (@zT27) (@szT27))))) (And.intro (And.intro (And.intro (And.intro (@arT27) (@conc27)) (And.intro (@undS27) (@elT27))) (And.intro (And.intro (@azT27) (@zeroT27)) (And.intro (@bT27) (@fldT27_0)))) (And.intro (And.intro (And.intro (@fldT27_1) (@zT28)) (And.intro (@szT28) (@arT28))) (And.intro (And.intro (@conc28) (@undS28)) (And.intro (@elT28) (@azT28)))))) (And.intro (And.intro (And.intro (And.intro (And.intro (@zeroT28) (@bT28)) (And.intro (@fldT28_0) (@fldT28_1))) (And.intro (And.intro (@fldT28_2) (@fldT28_3)) (And.intro (@zT29) (@szT29)))) (And.intro (And.intro (And.intro (@arT29) (@conc29)) (And.intro (@undS29) (@elT29))) (And.intro (And.intro (@azT29) (@zeroT29)) (And.intro (@bT29) (@fldT29_0))))) (And.intro (And.intro (And.intro (And.intro (@fldT29_1) (@fldT29_2)) (And.intro (@fldT29_3) (@zT30))) (And.intro (And.intro (@szT30) (@arT30)) (And.intro (@conc30) (@zT31)))) (And.intro (And.intro (And.intro (@szT31) (@arT31)) (And.intro (@conc31) (@zT32))) (And.intro (And.intro (@szT32) (@arT32)) (And.intro (@conc32) (@undS32))))))) (And.intro (And.intro (And.intro (And.intro (And.intro (@intT32) (And.intro (@elT32) (@azT32))) (And.intro (And.intro (@zeroT32) (@zT34)) (And.intro (@szT34) (@arT34)))) (And.intro (And.intro (And.intro (@conc34) (@zT35)) (And.intro (@szT35) (@arT35))) (And.intro (And.intro (@conc35) (@undS35)) (And.intro (@elT35) (@azT35))))) (And.intro (And.intro (And.intro (And.intro (@zeroT35) (@bT35)) (And.intro (@fldT35_0) (@fldT35_1))) (And.intro (And.intro (@zT36) (@szT36)) (And.intro (@arT36) (@conc36)))) (And.intro (And.intro (And.intro (@undS36) (@elT36)) (And.intro (@azT36) (@zeroT36))) (And.intro (And.intro (@bT36) (@fldT36_0)) (And.intro (@fldT36_1) (@zT38)))))) (And.intro (And.intro (And.intro (And.intro (And.intro (@szT38) (@arT38)) (And.intro (@conc38) (@zT40))) (And.intro (And.intro (@szT40) (@arT40)) (And.intro (@conc40) (@zT41)))) (And.intro (And.intro (And.intro (@szT41) (@arT41)) (And.intro (@conc41) (@zT42))) (And.intro (And.intro (@szT42) (@arT42)) (And.intro (@conc42) (@zT43))))) (And.intro (And.intro (And.intro (And.intro (@szT43) (@arT43)) (And.intro (@conc43) (@undS43))) (And.intro (And.intro (@elT43) (@elB43)) (And.intro (@bsT43) (@mkT43)))) (And.intro (And.intro (And.intro (@azT43) (@zeroT43)) (And.intro (@zT44) (@szT44))) (And.intro (And.intro (@arT44) (@conc44)) (And.intro (@undS44) (@elT44))))))))) (And.intro (And.intro (And.intro (And.intro (And.intro (And.intro (And.intro (@elB44) (And.intro (@bsT44) (@mkT44))) (And.intro (And.intro (@azT44) (@zeroT44)) (And.intro (@zT45) (@szT45)))) (And.intro (And.intro (And.intro (@arT45) (@conc45)) (And.intro (@zT46) (@szT46))) (And.intro (And.intro (@arT46) (@conc46)) (And.intro (@zT47) (@szT47))))) (And.intro (And.intro (And.intro (And.intro (@arT47) (@conc47)) (And.intro (@zT48) (@szT48))) (And.intro (And.intro (@arT48) (@conc48)) (And.intro (@undS48) (@intT48)))) (And.intro (And.intro (And.intro (@elT48) (@azT48)) (And.intro (@zeroT48) (@zT49))) (And.intro (And.intro (@szT49) (@arT49)) (And.intro (@conc49) (@zT50)))))) (And.intro (And.intro (And.intro (And.intro (And.intro (@szT50) (@arT50)) (And.intro (@conc50) (@zT51))) (And.intro (And.intro (@szT51) (@arT51)) (And.intro (@conc51) (@undS51)))) (And.intro (And.intro (And.intro (@elT51) (@azT51)) (And.intro (@zeroT51) (@bT51))) (And.intro (And.intro (@fldT51_0) (@fldT51_1)) (And.intro (@fldT51_2) (@zT52))))) (And.intro (And.intro (And.intro (And.intro (@szT52) (@arT52)) (And.intro (@conc52) (@undS52))) (And.intro (And.intro (@elT52) (@azT52)) (And.intro (@zeroT52) (@bT52)))) (And.intro (And.intro (And.intro (@fldT52_0) (@fldT52_1)) (And.intro (@fldT52_2) (@zT53))) (And.intro (And.intro (@szT53) (@arT53)) (And.intro (@conc53) (@zT54))))))) (And.intro (And.intro (And.intro (And.intro (And.intro (@szT54) (And.intro (@arT54) (@conc54))) (And.intro (And.intro (@zT56) (@szT56)) (And.intro (@arT56) (@conc56)))) (And.intro (And.intro (And.intro (@zT57) (@szT57)) (And.intro (@arT57) (@conc57))) (And.intro (And.intro (@zT59) (@szT59)) (And.intro (@arT59) (@conc59))))) (And.intro (And.intro (And.intro (And.intro (@zT60) (@szT60)) (And.intro (@arT60) (@conc60))) (And.intro (And.intro (@zT61) (@szT61)) (And.intro (@arT61) (@conc61)))) (And.intro (And.intro (And.intro (@zT62) (@szT62)) (And.intro (@arT62) (@conc62))) (And.intro (And.intro (@zT63) (@szT63)) (And.intro (@arT63) (@conc63)))))) (And.intro (And.intro (And.intro (And.intro (And.intro (@zT64) (@szT64)) (And.intro (@arT64) (@conc64))) (And.intro (And.intro (@zT65) (@szT65)) (And.intro (@arT65) (@conc65)))) (And.intro (And.intro (And.intro (@zT66) (@szT66)) (And.intro (@zeroT66) (@arT66))) (And.intro (And.intro (@conc66) (@zT67)) (And.intro (@szT67) (@zeroT67))))) (And.intro (And.intro (And.intro (And.intro (@arT67) (@conc67)) (And.intro (@zT68) (@szT68))) (And.intro (And.intro (@arT68) (@conc68)) (And.intro (@zT69) (@szT69)))) (And.intro (And.intro (And.intro (@arT69) (@conc69)) (And.intro (@undS69) (@elT69))) (And.intro (And.intro (@elB69) (@bsT69)) (And.intro (@mkT69) (@azT69)))))))) (And.intro (And.intro (And.intro (And.intro (And.intro (And.intro (@zeroT69) (And.intro (@zT70) (@szT70))) (And.intro (And.intro (@arT70) (@conc70)) (And.intro (@zT71) (@szT71)))) (And.intro (And.intro (And.intro (@arT71) (@conc71)) (And.intro (@zT72) (@szT72))) (And.intro (And.intro (@arT72) (@conc72)) (And.intro (@zT73) (@szT73))))) (And.intro (And.intro (And.intro (And.intro (@zeroT73) (@arT73)) (And.intro (@conc73) (@zT74))) (And.intro (And.intro (@szT74) (@zeroT74)) (And.intro (@arT74) (@conc74)))) (And.intro (And.intro (And.intro (@zT75) (@szT75)) (And.intro (@arT75) (@conc75))) (And.intro (And.intro (@zT76) (@szT76)) (And.intro (@arT76) (@conc76)))))) (And.intro (And.intro (And.intro (And.intro (And.intro (@zT77) (@szT77)) (And.intro (@arT77) (@conc77))) (And.intro (And.intro (@zT78) (@szT78)) (And.intro (@arT78) (@conc78)))) (And.intro (And.intro (And.intro (@zT79) (@szT79)) (And.intro (@arT79) (@conc79))) (And.intro (And.intro (@zT80) (@szT80)) (And.intro (@arT80) (@conc80))))) (And.intro (And.intro (And.intro (And.intro (@undS80) (@elT80)) (And.intro (@azT80) (@zeroT80))) (And.intro (And.intro (@bT80) (@zT81)) (And.intro (@szT81) (@arT81)))) (And.intro (And.intro (And.intro (@conc81) (@undS81)) (And.intro (@elT81) (@azT81))) (And.intro (And.intro (@zeroT81) (@bT81)) (And.intro (@zT82) (@szT82))))))) (And.intro (And.intro (And.intro (And.intro (And.intro (And.intro (@arT82) (@conc82)) (And.intro (@zT83) (@szT83))) (And.intro (And.intro (@arT83) (@conc83)) (And.intro (@undS83) (@elT83)))) (And.intro (And.intro (And.intro (@azT83) (@zeroT83)) (And.intro (@bT83) (@fldT83_0))) (And.intro (And.intro (@fldT83_1) (@zT84)) (And.intro (@szT84) (@arT84))))) (And.intro (And.intro (And.intro (And.intro (@conc84) (@undS84)) (And.intro (@elT84) (@azT84))) (And.intro (And.intro (@zeroT84) (@bT84)) (And.intro (@fldT84_0) (@fldT84_1)))) (And.intro (And.intro (And.intro (@zT85) (@szT85)) (And.intro (@conc85) (@undS85))) (And.intro (And.intro (@elT85) (@arT85)) (And.intro (@azT85) (@zeroT85)))))) (And.intro (And.intro (And.intro (And.intro (And.intro (@zT86) (@szT86)) (And.intro (@arT86) (@conc86))) (And.intro (And.intro (@undS86) (@elT86)) (And.intro (@azT86) (@zeroT86)))) (And.intro (And.intro (And.intro (@bT86) (@fldT86_0)) (And.intro (@fldT86_1) (@fldT86_2))) (And.intro (And.intro (@zT87) (@szT87)) (And.intro (@arT87) (@conc87))))) (And.intro (And.intro (And.intro (And.intro (@undS87) (@elT87)) (And.intro (@azT87) (@zeroT87))) (And.intro (And.intro (@bT87) (@fldT87_0)) (And.intro (@fldT87_1) (@fldT87_2)))) (And.intro (And.intro (And.intro (@zT88) (@szT88)) (And.intro (@arT88) (@conc88))) (And.intro (And.intro (@zT89) (@szT89)) (And.intro (@arT89) (@conc89)))))))))) (And.intro (And.intro (And.intro (And.intro (And.intro (And.intro (And.intro (And.intro (@zT90) (And.intro (@szT90) (@arT90))) (And.intro (And.intro (@conc90) (@zT91)) (And.intro (@szT91) (@arT91)))) (And.intro (And.intro (And.intro (@conc91) (@zT92)) (And.intro (@szT92) (@arT92))) (And.intro (And.intro (@conc92) (@zT93)) (And.intro (@szT93) (@arT93))))) (And.intro (And.intro (And.intro (And.intro (@conc93) (@zT94)) (And.intro (@szT94) (@arT94))) (And.intro (And.intro (@conc94) (@zT95)) (And.intro (@szT95) (@arT95)))) (And.intro (And.intro (And.intro (@conc95) (@zT96)) (And.intro (@szT96) (@arT96))) (And.intro (And.intro (@zT97) (@szT97)) (And.intro (@arT97) (@zT98)))))) (And.intro (And.intro (And.intro (And.intro (And.intro (@szT98) (@arT98)) (And.intro (@conc98) (@undS98))) (And.intro (And.intro (@elT98) (@azT98)) (And.intro (@zeroT98) (@bT98)))) (And.intro (And.intro (And.intro (@fldT98_0) (@fldT98_1)) (And.intro (@fldT98_2) (@fldT98_3))) (And.intro (And.intro (@zT99) (@szT99)) (And.intro (@arT99) (@conc99))))) (And.intro (And.intro (And.intro (And.intro (@undS99) (@elT99)) (And.intro (@azT99) (@zeroT99))) (And.intro (And.intro (@bT99) (@fldT99_0)) (And.intro (@fldT99_1) (@fldT99_2)))) (And.intro (And.intro (And.intro (@fldT99_3) (@zT100)) (And.intro (@szT100) (@conc100))) (And.intro (And.intro (@undS100) (@elT100)) (And.intro (@arT100) (@azT100))))))) (And.intro (And.intro (And.intro (And.intro (And.intro (@zT101) (And.intro (@szT101) (@conc101))) (And.intro (And.intro (@undS101) (@elT101)) (And.intro (@arT101) (@azT101)))) (And.intro (And.intro (And.intro (@zT102) (@szT102)) (And.intro (@zeroT102) (@arT102))) (And.intro (And.intro (@conc102) (@zT103)) (And.intro (@szT103) (@arT103))))) (And.intro (And.intro (And.intro (And.intro (@conc103) (@zT104)) (And.intro (@szT104) (@arT104))) (And.intro (And.intro (@conc104) (@zT105)) (And.intro (@szT105) (@arT105)))) (And.intro (And.intro (And.intro (@conc105) (@zT106)) (And.intro (@szT106) (@arT106))) (And.intro (And.intro (@conc106) (@zT107)) (And.intro (@szT107) (@arT107)))))) (And.intro (And.intro (And.intro (And.intro (And.intro (@conc107) (@zT108)) (And.intro (@szT108) (@arT108))) (And.intro (And.intro (@conc108) (@undS108)) (And.intro (@elT108) (@azT108)))) (And.intro (And.intro (And.intro (@zeroT108) (@bT108)) (And.intro (@fldT108_0) (@fldT108_1))) (And.intro (And.intro (@zT109) (@szT109)) (And.intro (@arT109) (@conc109))))) (And.intro (And.intro (And.intro (And.intro (@undS109) (@elT109)) (And.intro (@azT109) (@zeroT109))) (And.intro (And.intro (@bT109) (@fldT109_0)) (And.intro (@fldT109_1) (@zT110)))) (And.intro (And.intro (And.intro (@szT110) (@arT110)) (And.intro (@conc110) (@zT111))) (And.intro (And.intro (@szT111) (@arT111)) (And.intro (@conc111) (@zT112)))))))) (And.intro (And.intro (And.intro (And.intro (And.intro (And.intro (@szT112) (And.intro (@arT112) (@conc112))) (And.intro (And.intro (@zT113) (@szT113)) (And.intro (@arT113) (@conc113)))) (And.intro (And.intro (And.intro (@undS113) (@intT113)) (And.intro (@elT113) (@azT113))) (And.intro (And.intro (@zeroT113) (@zT114)) (And.intro (@szT114) (@arT114))))) (And.intro (And.intro (And.intro (And.intro (@conc114) (@zT116)) (And.intro (@szT116) (@conc116))) (And.intro (And.intro (@undS116) (@elT116)) (And.intro (@arT116) (@azT116)))) (And.intro (And.intro (And.intro (@zeroT116) (@zT117)) (And.intro (@szT117) (@arT117))) (And.intro (And.intro (@conc117) (@zT118)) (And.intro (@szT118) (@arT118)))))) (And.intro (And.intro (And.intro (And.intro (And.intro (@conc118) (@zT119)) (And.intro (@szT119) (@arT119))) (And.intro (And.intro (@conc119) (@zT120)) (And.intro (@szT120) (@arT120)))) (And.intro (And.intro (And.intro (@conc120) (@zT121)) (And.intro (@szT121) (@arT121))) (And.intro (And.intro (@conc121) (@undS121)) (And.intro (@elT121) (@azT121))))) (And.intro (And.intro (And.intro (And.intro (@zeroT121) (@bT121)) (And.intro (@fldT121_0) (@fldT121_1))) (And.intro (And.intro (@fldT121_2) (@zT122)) (And.intro (@szT122) (@arT122)))) (And.intro (And.intro (And.intro (@conc122) (@undS122)) (And.intro (@elT122) (@azT122))) (And.intro (And.intro (@zeroT122) (@bT122)) (And.intro (@fldT122_0) (@fldT122_1))))))) (And.intro (And.intro (And.intro (And.intro (And.intro (And.intro (@fldT122_2) (@zT123)) (And.intro (@szT123) (@arT123))) (And.intro (And.intro (@conc123) (@undS123)) (And.intro (@intT123) (@elT123)))) (And.intro (And.intro (And.intro (@azT123) (@zeroT123)) (And.intro (@zT125) (@szT125))) (And.intro (And.intro (@arT125) (@conc125)) (And.intro (@zT126) (@szT126))))) (And.intro (And.intro (And.intro (And.intro (@arT126) (@conc126)) (And.intro (@undS126) (@elT126))) (And.intro (And.intro (@azT126) (@zeroT126)) (And.intro (@bT126) (@zT127)))) (And.intro (And.intro (And.intro (@szT127) (@arT127)) (And.intro (@conc127) (@zT128))) (And.intro (And.intro (@szT128) (@arT128)) (And.intro (@conc128) (@zT129)))))) (And.intro (And.intro (And.intro (And.intro (And.intro (@szT129) (@arT129)) (And.intro (@conc129) (@zT130))) (And.intro (And.intro (@szT130) (@arT130)) (And.intro (@conc130) (@zT131)))) (And.intro (And.intro (And.intro (@szT131) (@arT131)) (And.intro (@conc131) (@zT132))) (And.intro (And.intro (@szT132) (@arT132)) (And.intro (@conc132) (@zT133))))) (And.intro (And.intro (And.intro (And.intro (@szT133) (@arT133)) (And.intro (@conc133) (@zT134))) (And.intro (And.intro (@szT134) (@arT134)) (And.intro (@conc134) (@undS134)))) (And.intro (And.intro (And.intro (@intT134) (@elT134)) (And.intro (@azT134) (@zeroT134))) (And.intro (And.intro (@zT136) (@szT136)) (And.intro (@arT136) (@conc136))))))))) (And.intro (And.intro (And.intro (And.intro (And.intro (And.intro (And.intro (@zT137) (And.intro (@szT137) (@arT137))) (And.intro (And.intro (@conc137) (@undS137)) (And.intro (@elT137) (@azT137)))) (And.intro (And.intro (And.intro (@zeroT137) (@bT137)) (And.intro (@fldT137_0) (@fldT137_1))) (And.intro (And.intro (@zT138) (@szT138)) (And.intro (@arT138) (@conc138))))) (And.intro (And.intro (And.intro (And.intro (@undS138) (@elT138)) (And.intro (@azT138) (@zeroT138))) (And.intro (And.intro (@bT138) (@fldT138_0)) (And.intro (@fldT138_1) (@zT139)))) (And.intro (And.intro (And.intro (@szT139) (@arT139)) (And.intro (@conc139) (@zT140))) (And.intro (And.intro (@szT140) (@arT140)) (And.intro (@conc140) (@zT141)))))) (And.intro (And.intro (And.intro (And.intro (And.intro (@szT141) (@arT141)) (And.intro (@conc141) (@zT142))) (And.intro (And.intro (@szT142) (@arT142)) (And.intro (@conc142) (@undS142)))) (And.intro (And.intro (And.intro (@elT142) (@azT142)) (And.intro (@zeroT142) (@bT142))) (And.intro (And.intro (@fldT142_0) (@fldT142_1)) (And.intro (@zT143) (@szT143))))) (And.intro (And.intro (And.intro (And.intro (@arT143) (@conc143)) (And.intro (@undS143) (@elT143))) (And.intro (And.intro (@azT143) (@zeroT143)) (And.intro (@bT143) (@fldT143_0)))) (And.intro (And.intro (And.intro (@fldT143_1) (@zT145)) (And.intro (@szT145) (@arT145))) (And.intro (And.intro (@conc145) (@zT146)) (And.intro (@szT146) (@arT146))))))) (And.intro (And.intro (And.intro (And.intro (And.intro (@conc146) (And.intro (@zT147) (@szT147))) (And.intro (And.intro (@arT147) (@conc147)) (And.intro (@undS147) (@intT147)))) (And.intro (And.intro (And.intro (@elT147) (@azT147)) (And.intro (@zeroT147) (@zT148))) (And.intro (And.intro (@szT148) (@arT148)) (And.intro (@conc148) (@zT149))))) (And.intro (And.intro (And.intro (And.intro (@szT149) (@arT149)) (And.intro (@conc149) (@undS149))) (And.intro (And.intro (@intT149) (@elT149)) (And.intro (@azT149) (@zeroT149)))) (And.intro (And.intro (And.intro (@zT150) (@szT150)) (And.intro (@arT150) (@conc150))) (And.intro (And.intro (@zT151) (@szT151)) (And.intro (@arT151) (@conc151)))))) (And.intro (And.intro (And.intro (And.intro (And.intro (@zT152) (@szT152)) (And.intro (@arT152) (@conc152))) (And.intro (And.intro (@zT153) (@szT153)) (And.intro (@arT153) (@conc153)))) (And.intro (And.intro (And.intro (@undS153) (@elT153)) (And.intro (@azT153) (@zeroT153))) (And.intro (And.intro (@bT153) (@fldT153_0)) (And.intro (@zT154) (@szT154))))) (And.intro (And.intro (And.intro (And.intro (@arT154) (@conc154)) (And.intro (@undS154) (@elT154))) (And.intro (And.intro (@azT154) (@zeroT154)) (And.intro (@bT154) (@fldT154_0)))) (And.intro (And.intro (And.intro (@zT155) (@szT155)) (And.intro (@arT155) (@conc155))) (And.intro (And.intro (@zT156) (@szT156)) (And.intro (@arT156) (@zT157)))))))) (And.intro (And.intro (And.intro (And.intro (And.intro (And.intro (@szT157) (And.intro (@arT157) (@zT158))) (And.intro (And.intro (@szT158) (@arT158)) (And.intro (@conc158) (@zT159)))) (And.intro (And.intro (And.intro (@szT159) (@arT159)) (And.intro (@conc159) (@zT160))) (And.intro (And.intro (@szT160) (@arT160)) (And.intro (@conc160) (@zT161))))) (And.intro (And.intro (And.intro (And.intro (@szT161) (@arT161)) (And.intro (@conc161) (@zT162))) (And.intro (And.intro (@szT162) (@arT162)) (And.intro (@conc162) (@zT168)))) (And.intro (And.intro (And.intro (@szT168) (@arT168)) (And.intro (@conc168) (@zT171))) (And.intro (And.intro (@szT171) (@arT171)) (And.intro (@conc171) (@zT172)))))) (And.intro (And.intro (And.intro (And.intro (And.intro (@szT172) (@zeroT172)) (And.intro (@arT172) (@conc172))) (And.intro (And.intro (@zT177) (@szT177)) (And.intro (@arT177) (@conc177)))) (And.intro (And.intro (And.intro (@undS177) (@elT177)) (And.intro (@azT177) (@zeroT177))) (And.intro (And.intro (@bT177) (@fldT177_0)) (And.intro (@zT178) (@szT178))))) (And.intro (And.intro (And.intro (And.intro (@arT178) (@conc178)) (And.intro (@undS178) (@elT178))) (And.intro (And.intro (@azT178) (@zeroT178)) (And.intro (@bT178) (@fldT178_0)))) (And.intro (And.intro (And.intro (@zT179) (@szT179)) (And.intro (@arT179) (@conc179))) (And.intro (And.intro (@undS179) (@elT179)) (And.intro (@azT179) (@zeroT179))))))) (And.intro (And.intro (And.intro (And.intro (And.intro (And.intro (@bT179) (@fldT179_0)) (And.intro (@fldT179_1) (@zT180))) (And.intro (And.intro (@szT180) (@arT180)) (And.intro (@conc180) (@undS180)))) (And.intro (And.intro (And.intro (@elT180) (@azT180)) (And.intro (@zeroT180) (@bT180))) (And.intro (And.intro (@fldT180_0) (@fldT180_1)) (And.intro (@zT181) (@szT181))))) (And.intro (And.intro (And.intro (And.intro (@arT181) (@conc181)) (And.intro (@undS181) (@elT181))) (And.intro (And.intro (@azT181) (@zeroT181)) (And.intro (@bT181) (@fldT181_0)))) (And.intro (And.intro (And.intro (@fldT181_1) (@zT182)) (And.intro (@szT182) (@arT182))) (And.intro (And.intro (@conc182) (@undS182)) (And.intro (@elT182) (@azT182)))))) (And.intro (And.intro (And.intro (And.intro (And.intro (@zeroT182) (@bT182)) (And.intro (@fldT182_0) (@fldT182_1))) (And.intro (And.intro (@zT183) (@szT183)) (And.intro (@arT183) (@conc183)))) (And.intro (And.intro (And.intro (@zT184) (@szT184)) (And.intro (@arT184) (@conc184))) (And.intro (And.intro (@zT185) (@szT185)) (And.intro (@arT185) (@conc185))))) (And.intro (And.intro (And.intro (And.intro (@zT186) (@szT186)) (And.intro (@arT186) (@conc186))) (And.intro (And.intro (@zT187) (@szT187)) (And.intro (@arT187) (@conc187)))) (And.intro (And.intro (And.intro (@zT188) (@szT188)) (And.intro (@arT188) (@conc188))) (And.intro (And.intro (@undS188) (@elT188)) (And.intro (@azT188) (@zeroT188))))))))))) := And.intro (And.intro (And.intro (And.intro (And.intro (And.intro (And.intro (And.intro (And.intro (@boolT4) (And.intro (@ifcT20) (@ifcT96))) (And.intro (And.intro (@ifcT97) (@ifcT156)) (And.intro (@ifcT157) (@meth154)))) (And.intro (And.intro (And.intro (@meth182) (@meth81o)) (And.intro (@meth81s) (@meth126o))) (And.intro (And.intro (@meth126s) (@mapZ136)) (And.intro (@zT1) (@szT1))))) (And.intro (And.intro (And.intro (And.intro (@arT1) (@conc1)) (And.intro (@zT2) (@szT2))) (And.intro (And.intro (@arT2) (@conc2)) (And.intro (@undS2) (@intT2)))) (And.intro (And.intro (And.intro (@elT2) (@azT2)) (And.intro (@zeroT2) (@zT3))) (And.intro (And.intro (@szT3) (@arT3)) (And.intro (@conc3) (@undS3)))))) (And.intro (And.intro (And.intro (And.intro (And.intro (@intT3) (@elT3)) (And.intro (@azT3) (@zeroT3))) (And.intro (And.intro (@zT4) (@szT4)) (And.intro (@arT4) (@conc4)))) (And.intro (And.intro (And.intro (@undS4) (@elT4)) (And.intro (@azT4) (@zeroT4))) (And.intro (And.intro (@zT5) (@szT5)) (And.intro (@arT5) (@conc5))))) (And.intro (And.intro (And.intro (And.intro (@undS5) (@intT5)) (And.intro (@elT5) (@azT5))) (And.intro (And.intro (@zeroT5) (@zT12)) (And.intro (@szT12) (@arT12)))) (And.intro (And.intro (And.intro (@conc12) (@undS12)) (And.intro (@intT12) (@elT12))) (And.intro (And.intro (@azT12) (@zeroT12)) (And.intro (@zT13) (@szT13))))))) (And.intro (And.intro (And.intro (And.intro (And.intro (@arT13) (And.intro (@conc13) (@undS13))) (And.intro (And.intro (@elT13) (@azT13)) (And.intro (@zeroT13) (@bT13)))) (And.intro (And.intro (And.intro (@fldT13_0) (@fldT13_1)) (And.intro (@zT20) (@szT20))) (And.intro (And.intro (@arT20) (@zT21)) (And.intro (@szT21) (@arT21))))) (And.intro (And.intro (And.intro (And.intro (@conc21) (@undS21)) (And.intro (@intT21) (@elT21))) (And.intro (And.intro (@azT21) (@zeroT21)) (And.intro (@zT22) (@szT22)))) (And.intro (And.intro (And.intro (@arT22) (@conc22)) (And.intro (@undS22) (@elT22))) (And.intro (And.intro (@elB22) (@bsT22)) (And.intro (@mkT22) (@azT22)))))) (And.intro (And.intro (And.intro (And.intro (And.intro (@zeroT22) (@zT23)) (And.intro (@szT23) (@arT23))) (And.intro (And.intro (@conc23) (@undS23)) (And.intro (@elT23) (@elB23)))) (And.intro (And.intro (And.intro (@bsT23) (@mkT23)) (And.intro (@azT23) (@zeroT23))) (And.intro (And.intro (@zT24) (@szT24)) (And.intro (@arT24) (@conc24))))) (And.intro (And.intro (And.intro (And.intro (@undS24) (@elT24)) (And.intro (@elB24) (@bsT24))) (And.intro (And.intro (@mkT24) (@azT24)) (And.intro (@zeroT24) (@zT25)))) (And.intro (And.intro (And.intro (@szT25) (@arT25)) (And.intro (@conc25) (@undS25))) (And.intro (And.intro (@elT25) (@elB25)) (And.intro (@bsT25) (@mkT25)))))))) (And.intro (And.intro (And.intro (And.intro (And.intro (And.intro (@azT25) (And.intro (@zeroT25) (@zT26))) (And.intro (And.intro (@szT26) (@arT26)) (And.intro (@conc26) (@undS26)))) (And.intro (And.intro (And.intro (@elT26) (@azT26)) (And.intro (@zeroT26) (@bT26))) (And.intro (And.intro (@fldT26_0) (@fldT26_1)) (And.intro (@zT27) (@szT27))))) (And.intro (And.intro (And.intro (And.intro (@arT27) (@conc27)) (And.intro (@undS27) (@elT27))) (And.intro (And.intro (@azT27) (@zeroT27)) (And.intro (@bT27) (@fldT27_0)))) (And.intro (And.intro (And.intro (@fldT27_1) (@zT28)) (And.intro (@szT28) (@arT28))) (And.intro (And.intro (@conc28) (@undS28)) (And.intro (@elT28) (@azT28)))))) (And.intro (And.intro (And.intro (And.intro (And.intro (@zeroT28) (@bT28)) (And.intro (@fldT28_0) (@fldT28_1))) (And.intro (And.intro (@fldT28_2) (@fldT28_3)) (And.intro (@zT29) (@szT29)))) (And.intro (And.intro (And.intro (@arT29) (@conc29)) (And.intro (@undS29) (@elT29))) (And.intro (And.intro (@azT29) (@zeroT29)) (And.intro (@bT29) (@fldT29_0))))) (And.intro (And.intro (And.intro (And.intro (@fldT29_1) (@fldT29_2)) (And.intro (@fldT29_3) (@zT30))) (And.intro (And.intro (@szT30) (@arT30)) (And.intro (@conc30) (@zT31)))) (And.intro (And.intro (And.intro (@szT31) (@arT31)) (And.intro (@conc31) (@zT32))) (And.intro (And.intro (@szT32) (@arT32)) (And.intro (@conc32) (@undS32))))))) (And.intro (And.intro (And.intro (And.intro (And.intro (@intT32) (And.intro (@elT32) (@azT32))) (And.intro (And.intro (@zeroT32) (@zT34)) (And.intro (@szT34) (@arT34)))) (And.intro (And.intro (And.intro (@conc34) (@zT35)) (And.intro (@szT35) (@arT35))) (And.intro (And.intro (@conc35) (@undS35)) (And.intro (@elT35) (@azT35))))) (And.intro (And.intro (And.intro (And.intro (@zeroT35) (@bT35)) (And.intro (@fldT35_0) (@fldT35_1))) (And.intro (And.intro (@zT36) (@szT36)) (And.intro (@arT36) (@conc36)))) (And.intro (And.intro (And.intro (@undS36) (@elT36)) (And.intro (@azT36) (@zeroT36))) (And.intro (And.intro (@bT36) (@fldT36_0)) (And.intro (@fldT36_1) (@zT38)))))) (And.intro (And.intro (And.intro (And.intro (And.intro (@szT38) (@arT38)) (And.intro (@conc38) (@zT40))) (And.intro (And.intro (@szT40) (@arT40)) (And.intro (@conc40) (@zT41)))) (And.intro (And.intro (And.intro (@szT41) (@arT41)) (And.intro (@conc41) (@zT42))) (And.intro (And.intro (@szT42) (@arT42)) (And.intro (@conc42) (@zT43))))) (And.intro (And.intro (And.intro (And.intro (@szT43) (@arT43)) (And.intro (@conc43) (@undS43))) (And.intro (And.intro (@elT43) (@elB43)) (And.intro (@bsT43) (@mkT43)))) (And.intro (And.intro (And.intro (@azT43) (@zeroT43)) (And.intro (@zT44) (@szT44))) (And.intro (And.intro (@arT44) (@conc44)) (And.intro (@undS44) (@elT44))))))))) (And.intro (And.intro (And.intro (And.intro (And.intro (And.intro (And.intro (@elB44) (And.intro (@bsT44) (@mkT44))) (And.intro (And.intro (@azT44) (@zeroT44)) (And.intro (@zT45) (@szT45)))) (And.intro (And.intro (And.intro (@arT45) (@conc45)) (And.intro (@zT46) (@szT46))) (And.intro (And.intro (@arT46) (@conc46)) (And.intro (@zT47) (@szT47))))) (And.intro (And.intro (And.intro (And.intro (@arT47) (@conc47)) (And.intro (@zT48) (@szT48))) (And.intro (And.intro (@arT48) (@conc48)) (And.intro (@undS48) (@intT48)))) (And.intro (And.intro (And.intro (@elT48) (@azT48)) (And.intro (@zeroT48) (@zT49))) (And.intro (And.intro (@szT49) (@arT49)) (And.intro (@conc49) (@zT50)))))) (And.intro (And.intro (And.intro (And.intro (And.intro (@szT50) (@arT50)) (And.intro (@conc50) (@zT51))) (And.intro (And.intro (@szT51) (@arT51)) (And.intro (@conc51) (@undS51)))) (And.intro (And.intro (And.intro (@elT51) (@azT51)) (And.intro (@zeroT51) (@bT51))) (And.intro (And.intro (@fldT51_0) (@fldT51_1)) (And.intro (@fldT51_2) (@zT52))))) (And.intro (And.intro (And.intro (And.intro (@szT52) (@arT52)) (And.intro (@conc52) (@undS52))) (And.intro (And.intro (@elT52) (@azT52)) (And.intro (@zeroT52) (@bT52)))) (And.intro (And.intro (And.intro (@fldT52_0) (@fldT52_1)) (And.intro (@fldT52_2) (@zT53))) (And.intro (And.intro (@szT53) (@arT53)) (And.intro (@conc53) (@zT54))))))) (And.intro (And.intro (And.intro (And.intro (And.intro (@szT54) (And.intro (@arT54) (@conc54))) (And.intro (And.intro (@zT56) (@szT56)) (And.intro (@arT56) (@conc56)))) (And.intro (And.intro (And.intro (@zT57) (@szT57)) (And.intro (@arT57) (@conc57))) (And.intro (And.intro (@zT59) (@szT59)) (And.intro (@arT59) (@conc59))))) (And.intro (And.intro (And.intro (And.intro (@zT60) (@szT60)) (And.intro (@arT60) (@conc60))) (And.intro (And.intro (@zT61) (@szT61)) (And.intro (@arT61) (@conc61)))) (And.intro (And.intro (And.intro (@zT62) (@szT62)) (And.intro (@arT62) (@conc62))) (And.intro (And.intro (@zT63) (@szT63)) (And.intro (@arT63) (@conc63)))))) (And.intro (And.intro (And.intro (And.intro (And.intro (@zT64) (@szT64)) (And.intro (@arT64) (@conc64))) (And.intro (And.intro (@zT65) (@szT65)) (And.intro (@arT65) (@conc65)))) (And.intro (And.intro (And.intro (@zT66) (@szT66)) (And.intro (@zeroT66) (@arT66))) (And.intro (And.intro (@conc66) (@zT67)) (And.intro (@szT67) (@zeroT67))))) (And.intro (And.intro (And.intro (And.intro (@arT67) (@conc67)) (And.intro (@zT68) (@szT68))) (And.intro (And.intro (@arT68) (@conc68)) (And.intro (@zT69) (@szT69)))) (And.intro (And.intro (And.intro (@arT69) (@conc69)) (And.intro (@undS69) (@elT69))) (And.intro (And.intro (@elB69) (@bsT69)) (And.intro (@mkT69) (@azT69)))))))) (And.intro (And.intro (And.intro (And.intro (And.intro (And.intro (@zeroT69) (And.intro (@zT70) (@szT70))) (And.intro (And.intro (@arT70) (@conc70)) (And.intro (@zT71) (@szT71)))) (And.intro (And.intro (And.intro (@arT71) (@conc71)) (And.intro (@zT72) (@szT72))) (And.intro (And.intro (@arT72) (@conc72)) (And.intro (@zT73) (@szT73))))) (And.intro (And.intro (And.intro (And.intro (@zeroT73) (@arT73)) (And.intro (@conc73) (@zT74))) (And.intro (And.intro (@szT74) (@zeroT74)) (And.intro (@arT74) (@conc74)))) (And.intro (And.intro (And.intro (@zT75) (@szT75)) (And.intro (@arT75) (@conc75))) (And.intro (And.intro (@zT76) (@szT76)) (And.intro (@arT76) (@conc76)))))) (And.intro (And.intro (And.intro (And.intro (And.intro (@zT77) (@szT77)) (And.intro (@arT77) (@conc77))) (And.intro (And.intro (@zT78) (@szT78)) (And.intro (@arT78) (@conc78)))) (And.intro (And.intro (And.intro (@zT79) (@szT79)) (And.intro (@arT79) (@conc79))) (And.intro (And.intro (@zT80) (@szT80)) (And.intro (@arT80) (@conc80))))) (And.intro (And.intro (And.intro (And.intro (@undS80) (@elT80)) (And.intro (@azT80) (@zeroT80))) (And.intro (And.intro (@bT80) (@zT81)) (And.intro (@szT81) (@arT81)))) (And.intro (And.intro (And.intro (@conc81) (@undS81)) (And.intro (@elT81) (@azT81))) (And.intro (And.intro (@zeroT81) (@bT81)) (And.intro (@zT82) (@szT82))))))) (And.intro (And.intro (And.intro (And.intro (And.intro (And.intro (@arT82) (@conc82)) (And.intro (@zT83) (@szT83))) (And.intro (And.intro (@arT83) (@conc83)) (And.intro (@undS83) (@elT83)))) (And.intro (And.intro (And.intro (@azT83) (@zeroT83)) (And.intro (@bT83) (@fldT83_0))) (And.intro (And.intro (@fldT83_1) (@zT84)) (And.intro (@szT84) (@arT84))))) (And.intro (And.intro (And.intro (And.intro (@conc84) (@undS84)) (And.intro (@elT84) (@azT84))) (And.intro (And.intro (@zeroT84) (@bT84)) (And.intro (@fldT84_0) (@fldT84_1)))) (And.intro (And.intro (And.intro (@zT85) (@szT85)) (And.intro (@conc85) (@undS85))) (And.intro (And.intro (@elT85) (@arT85)) (And.intro (@azT85) (@zeroT85)))))) (And.intro (And.intro (And.intro (And.intro (And.intro (@zT86) (@szT86)) (And.intro (@arT86) (@conc86))) (And.intro (And.intro (@undS86) (@elT86)) (And.intro (@azT86) (@zeroT86)))) (And.intro (And.intro (And.intro (@bT86) (@fldT86_0)) (And.intro (@fldT86_1) (@fldT86_2))) (And.intro (And.intro (@zT87) (@szT87)) (And.intro (@arT87) (@conc87))))) (And.intro (And.intro (And.intro (And.intro (@undS87) (@elT87)) (And.intro (@azT87) (@zeroT87))) (And.intro (And.intro (@bT87) (@fldT87_0)) (And.intro (@fldT87_1) (@fldT87_2)))) (And.intro (And.intro (And.intro (@zT88) (@szT88)) (And.intro (@arT88) (@conc88))) (And.intro (And.intro (@zT89) (@szT89)) (And.intro (@arT89) (@conc89)))))))))) (And.intro (And.intro (And.intro (And.intro (And.intro (And.intro (And.intro (And.intro (@zT90) (And.intro (@szT90) (@arT90))) (And.intro (And.intro (@conc90) (@zT91)) (And.intro (@szT91) (@arT91)))) (And.intro (And.intro (And.intro (@conc91) (@zT92)) (And.intro (@szT92) (@arT92))) (And.intro (And.intro (@conc92) (@zT93)) (And.intro (@szT93) (@arT93))))) (And.intro (And.intro (And.intro (And.intro (@conc93) (@zT94)) (And.intro (@szT94) (@arT94))) (And.intro (And.intro (@conc94) (@zT95)) (And.intro (@szT95) (@arT95)))) (And.intro (And.intro (And.intro (@conc95) (@zT96)) (And.intro (@szT96) (@arT96))) (And.intro (And.intro (@zT97) (@szT97)) (And.intro (@arT97) (@zT98)))))) (And.intro (And.intro (And.intro (And.intro (And.intro (@szT98) (@arT98)) (And.intro (@conc98) (@undS98))) (And.intro (And.intro (@elT98) (@azT98)) (And.intro (@zeroT98) (@bT98)))) (And.intro (And.intro (And.intro (@fldT98_0) (@fldT98_1)) (And.intro (@fldT98_2) (@fldT98_3))) (And.intro (And.intro (@zT99) (@szT99)) (And.intro (@arT99) (@conc99))))) (And.intro (And.intro (And.intro (And.intro (@undS99) (@elT99)) (And.intro (@azT99) (@zeroT99))) (And.intro (And.intro (@bT99) (@fldT99_0)) (And.intro (@fldT99_1) (@fldT99_2)))) (And.intro (And.intro (And.intro (@fldT99_3) (@zT100)) (And.intro (@szT100) (@conc100))) (And.intro (And.intro (@undS100) (@elT100)) (And.intro (@arT100) (@azT100))))))) (And.intro (And.intro (And.intro (And.intro (And.intro (@zT101) (And.intro (@szT101) (@conc101))) (And.intro (And.intro (@undS101) (@elT101)) (And.intro (@arT101) (@azT101)))) (And.intro (And.intro (And.intro (@zT102) (@szT102)) (And.intro (@zeroT102) (@arT102))) (And.intro (And.intro (@conc102) (@zT103)) (And.intro (@szT103) (@arT103))))) (And.intro (And.intro (And.intro (And.intro (@conc103) (@zT104)) (And.intro (@szT104) (@arT104))) (And.intro (And.intro (@conc104) (@zT105)) (And.intro (@szT105) (@arT105)))) (And.intro (And.intro (And.intro (@conc105) (@zT106)) (And.intro (@szT106) (@arT106))) (And.intro (And.intro (@conc106) (@zT107)) (And.intro (@szT107) (@arT107)))))) (And.intro (And.intro (And.intro (And.intro (And.intro (@conc107) (@zT108)) (And.intro (@szT108) (@arT108))) (And.intro (And.intro (@conc108) (@undS108)) (And.intro (@elT108) (@azT108)))) (And.intro (And.intro (And.intro (@zeroT108) (@bT108)) (And.intro (@fldT108_0) (@fldT108_1))) (And.intro (And.intro (@zT109) (@szT109)) (And.intro (@arT109) (@conc109))))) (And.intro (And.intro (And.intro (And.intro (@undS109) (@elT109)) (And.intro (@azT109) (@zeroT109))) (And.intro (And.intro (@bT109) (@fldT109_0)) (And.intro (@fldT109_1) (@zT110)))) (And.intro (And.intro (And.intro (@szT110) (@arT110)) (And.intro (@conc110) (@zT111))) (And.intro (And.intro (@szT111) (@arT111)) (And.intro (@conc111) (@zT112)))))))) (And.intro (And.intro (And.intro (And.intro (And.intro (And.intro (@szT112) (And.intro (@arT112) (@conc112))) (And.intro (And.intro (@zT113) (@szT113)) (And.intro (@arT113) (@conc113)))) (And.intro (And.intro (And.intro (@undS113) (@intT113)) (And.intro (@elT113) (@azT113))) (And.intro (And.intro (@zeroT113) (@zT114)) (And.intro (@szT114) (@arT114))))) (And.intro (And.intro (And.intro (And.intro (@conc114) (@zT116)) (And.intro (@szT116) (@conc116))) (And.intro (And.intro (@undS116) (@elT116)) (And.intro (@arT116) (@azT116)))) (And.intro (And.intro (And.intro (@zeroT116) (@zT117)) (And.intro (@szT117) (@arT117))) (And.intro (And.intro (@conc117) (@zT118)) (And.intro (@szT118) (@arT118)))))) (And.intro (And.intro (And.intro (And.intro (And.intro (@conc118) (@zT119)) (And.intro (@szT119) (@arT119))) (And.intro (And.intro (@conc119) (@zT120)) (And.intro (@szT120) (@arT120)))) (And.intro (And.intro (And.intro (@conc120) (@zT121)) (And.intro (@szT121) (@arT121))) (And.intro (And.intro (@conc121) (@undS121)) (And.intro (@elT121) (@azT121))))) (And.intro (And.intro (And.intro (And.intro (@zeroT121) (@bT121)) (And.intro (@fldT121_0) (@fldT121_1))) (And.intro (And.intro (@fldT121_2) (@zT122)) (And.intro (@szT122) (@arT122)))) (And.intro (And.intro (And.intro (@conc122) (@undS122)) (And.intro (@elT122) (@azT122))) (And.intro (And.intro (@zeroT122) (@bT122)) (And.intro (@fldT122_0) (@fldT122_1))))))) (And.intro (And.intro (And.intro (And.intro (And.intro (And.intro (@fldT122_2) (@zT123)) (And.intro (@szT123) (@arT123))) (And.intro (And.intro (@conc123) (@undS123)) (And.intro (@intT123) (@elT123)))) (And.intro (And.intro (And.intro (@azT123) (@zeroT123)) (And.intro (@zT125) (@szT125))) (And.intro (And.intro (@arT125) (@conc125)) (And.intro (@zT126) (@szT126))))) (And.intro (And.intro (And.intro (And.intro (@arT126) (@conc126)) (And.intro (@undS126) (@elT126))) (And.intro (And.intro (@azT126) (@zeroT126)) (And.intro (@bT126) (@zT127)))) (And.intro (And.intro (And.intro (@szT127) (@arT127)) (And.intro (@conc127) (@zT128))) (And.intro (And.intro (@szT128) (@arT128)) (And.intro (@conc128) (@zT129)))))) (And.intro (And.intro (And.intro (And.intro (And.intro (@szT129) (@arT129)) (And.intro (@conc129) (@zT130))) (And.intro (And.intro (@szT130) (@arT130)) (And.intro (@conc130) (@zT131)))) (And.intro (And.intro (And.intro (@szT131) (@arT131)) (And.intro (@conc131) (@zT132))) (And.intro (And.intro (@szT132) (@arT132)) (And.intro (@conc132) (@zT133))))) (And.intro (And.intro (And.intro (And.intro (@szT133) (@arT133)) (And.intro (@conc133) (@zT134))) (And.intro (And.intro (@szT134) (@arT134)) (And.intro (@conc134) (@undS134)))) (And.intro (And.intro (And.intro (@intT134) (@elT134)) (And.intro (@azT134) (@zeroT134))) (And.intro (And.intro (@zT136) (@szT136)) (And.intro (@arT136) (@conc136))))))))) (And.intro (And.intro (And.intro (And.intro (And.intro (And.intro (And.intro (@zT137) (And.intro (@szT137) (@arT137))) (And.intro (And.intro (@conc137) (@undS137)) (And.intro (@elT137) (@azT137)))) (And.intro (And.intro (And.intro (@zeroT137) (@bT137)) (And.intro (@fldT137_0) (@fldT137_1))) (And.intro (And.intro (@zT138) (@szT138)) (And.intro (@arT138) (@conc138))))) (And.intro (And.intro (And.intro (And.intro (@undS138) (@elT138)) (And.intro (@azT138) (@zeroT138))) (And.intro (And.intro (@bT138) (@fldT138_0)) (And.intro (@fldT138_1) (@zT139)))) (And.intro (And.intro (And.intro (@szT139) (@arT139)) (And.intro (@conc139) (@zT140))) (And.intro (And.intro (@szT140) (@arT140)) (And.intro (@conc140) (@zT141)))))) (And.intro (And.intro (And.intro (And.intro (And.intro (@szT141) (@arT141)) (And.intro (@conc141) (@zT142))) (And.intro (And.intro (@szT142) (@arT142)) (And.intro (@conc142) (@undS142)))) (And.intro (And.intro (And.intro (@elT142) (@azT142)) (And.intro (@zeroT142) (@bT142))) (And.intro (And.intro (@fldT142_0) (@fldT142_1)) (And.intro (@zT143) (@szT143))))) (And.intro (And.intro (And.intro (And.intro (@arT143) (@conc143)) (And.intro (@undS143) (@elT143))) (And.intro (And.intro (@azT143) (@zeroT143)) (And.intro (@bT143) (@fldT143_0)))) (And.intro (And.intro (And.intro (@fldT143_1) (@zT145)) (And.intro (@szT145) (@arT145))) (And.intro (And.intro (@conc145) (@zT146)) (And.intro (@szT146) (@arT146))))))) (And.intro (And.intro (And.intro (And.intro (And.intro (@conc146) (And.intro (@zT147) (@szT147))) (And.intro (And.intro (@arT147) (@conc147)) (And.intro (@undS147) (@intT147)))) (And.intro (And.intro (And.intro (@elT147) (@azT147)) (And.intro (@zeroT147) (@zT148))) (And.intro (And.intro (@szT148) (@arT148)) (And.intro (@conc148) (@zT149))))) (And.intro (And.intro (And.intro (And.intro (@szT149) (@arT149)) (And.intro (@conc149) (@undS149))) (And.intro (And.intro (@intT149) (@elT149)) (And.intro (@azT149) (@zeroT149)))) (And.intro (And.intro (And.intro (@zT150) (@szT150)) (And.intro (@arT150) (@conc150))) (And.intro (And.intro (@zT151) (@szT151)) (And.intro (@arT151) (@conc151)))))) (And.intro (And.intro (And.intro (And.intro (And.intro (@zT152) (@szT152)) (And.intro (@arT152) (@conc152))) (And.intro (And.intro (@zT153) (@szT153)) (And.intro (@arT153) (@conc153)))) (And.intro (And.intro (And.intro (@undS153) (@elT153)) (And.intro (@azT153) (@zeroT153))) (And.intro (And.intro (@bT153) (@fldT153_0)) (And.intro (@zT154) (@szT154))))) (And.intro (And.intro (And.intro (And.intro (@arT154) (@conc154)) (And.intro (@undS154) (@elT154))) (And.intro (And.intro (@azT154) (@zeroT154)) (And.intro (@bT154) (@fldT154_0)))) (And.intro (And.intro (And.intro (@zT155) (@szT155)) (And.intro (@arT155) (@conc155))) (And.intro (And.intro (@zT156) (@szT156)) (And.intro (@arT156) (@zT157)))))))) (And.intro (And.intro (And.intro (And.intro (And.intro (And.intro (@szT157) (And.intro (@arT157) (@zT158))) (And.intro (And.intro (@szT158) (@arT158)) (And.intro (@conc158) (@zT159)))) (And.intro (And.intro (And.intro (@szT159) (@arT159)) (And.intro (@conc159) (@zT160))) (And.intro (And.intro (@szT160) (@arT160)) (And.intro (@conc160) (@zT161))))) (And.intro (And.intro (And.intro (And.intro (@szT161) (@arT161)) (And.intro (@conc161) (@zT162))) (And.intro (And.intro (@szT162) (@arT162)) (And.intro (@conc162) (@zT168)))) (And.intro (And.intro (And.intro (@szT168) (@arT168)) (And.intro (@conc168) (@zT171))) (And.intro (And.intro (@szT171) (@arT171)) (And.intro (@conc171) (@zT172)))))) (And.intro (And.intro (And.intro (And.intro (And.intro (@szT172) (@zeroT172)) (And.intro (@arT172) (@conc172))) (And.intro (And.intro (@zT177) (@szT177)) (And.intro (@arT177) (@conc177)))) (And.intro (And.intro (And.intro (@undS177) (@elT177)) (And.intro (@azT177) (@zeroT177))) (And.intro (And.intro (@bT177) (@fldT177_0)) (And.intro (@zT178) (@szT178))))) (And.intro (And.intro (And.intro (And.intro (@arT178) (@conc178)) (And.intro (@undS178) (@elT178))) (And.intro (And.intro (@azT178) (@zeroT178)) (And.intro (@bT178) (@fldT178_0)))) (And.intro (And.intro (And.intro (@zT179) (@szT179)) (And.intro (@arT179) (@conc179))) (And.intro (And.intro (@undS179) (@elT179)) (And.intro (@azT179) (@zeroT179))))))) (And.intro (And.intro (And.intro (And.intro (And.intro (And.intro (@bT179) (@fldT179_0)) (And.intro (@fldT179_1) (@zT180))) (And.intro (And.intro (@szT180) (@arT180)) (And.intro (@conc180) (@undS180)))) (And.intro (And.intro (And.intro (@elT180) (@azT180)) (And.intro (@zeroT180) (@bT180))) (And.intro (And.intro (@fldT180_0) (@fldT180_1)) (And.intro (@zT181) (@szT181))))) (And.intro (And.intro (And.intro (And.intro (@arT181) (@conc181)) (And.intro (@undS181) (@elT181))) (And.intro (And.intro (@azT181) (@zeroT181)) (And.intro (@bT181) (@fldT181_0)))) (And.intro (And.intro (And.intro (@fldT181_1) (@zT182)) (And.intro (@szT182) (@arT182))) (And.intro (And.intro (@conc182) (@undS182)) (And.intro (@elT182) (@azT182)))))) (And.intro (And.intro (And.intro (And.intro (And.intro (@zeroT182) (@bT182)) (And.intro (@fldT182_0) (@fldT182_1))) (And.intro (And.intro (@zT183) (@szT183)) (And.intro (@arT183) (@conc183)))) (And.intro (And.intro (And.intro (@zT184) (@szT184)) (And.intro (@arT184) (@conc184))) (And.intro (And.intro (@zT185) (@szT185)) (And.intro (@arT185) (@conc185))))) (And.intro (And.intro (And.intro (And.intro (@zT186) (@szT186)) (And.intro (@arT186) (@conc186))) (And.intro (And.intro (@zT187) (@szT187)) (And.intro (@arT187) (@conc187)))) (And.intro (And.intro (And.intro (@zT188) (@szT188)) (And.intro (@arT188) (@conc188))) (And.intro (And.intro (@undS188) (@elT188)) (And.intro (@azT188) (@zeroT188))))))))))

end Go.Proofs.Ytkcgocmjaggdiaa
end
section
set_option linter.unusedVariables false
set_option linter.unusedSimpArgs false
namespace Go.V
set_option linter.unusedSectionVars false
variable [Inhabited GivT]
theorem mapM_move {α β : Type} {f g : α → Option β} {Q : β → Prop} : ∀ (l : List α) (ys : List β), (∀ x ∈ l, ∀ y, f x = some y → Q y → g x = some y) → l.mapM f = some ys → (∀ y ∈ ys, Q y) → l.mapM g = some ys
 | [], ys, _, h, _ => by simpa using h
 | x :: l, ys, hfg, h, hq => by
   rw [List.mapM_cons] at h ⊢
   simp only [Option.bind_eq_bind, Option.bind_eq_some_iff, Option.pure_def, Option.some.injEq] at h ⊢
   obtain ⟨y, hy, zs, hz, rfl⟩ := h
   exact ⟨y, hfg x (by simp) y hy (hq y (by simp)), zs, mapM_move l zs (fun a ha => hfg a (by simp [ha])) hz (fun a ha => hq a (by simp [ha])), rfl⟩

theorem mapM_get {α β : Type} {f : α → Option β} : ∀ (l : List α) (ys : List β), l.mapM f = some ys → ys.length = l.length ∧ ∀ (i : Nat) (x : α), l[i]? = some x → ∃ y, ys[i]? = some y ∧ f x = some y
 | [], ys, h => by
   simp at h; subst h; simp
 | x :: l, ys, h => by
   rw [List.mapM_cons] at h
   simp only [Option.bind_eq_bind, Option.bind_eq_some_iff, Option.pure_def, Option.some.injEq] at h
   obtain ⟨y, hy, zs, hz, rfl⟩ := h
   obtain ⟨h1, h2⟩ := mapM_get l zs hz
   refine ⟨by simp [h1], fun i a ha => ?_⟩
   cases i with
   | zero => simp at ha; subst ha; exact ⟨y, by simp, hy⟩
   | succ i => simpa using h2 i a (by simpa using ha)

/-- Types of numbers, truths, structs and slices of such. -/
def goodT (P : Program) : Nat → TypeId → Bool
 | 0, _ => false
 | d + 1, t => match P.underlying t with
   | some .bool => true
   | some (.int _) => true
   | some (.struct fs) => fs.toList.all fun f => goodT P d f.type
   | some (.slice e) => decide (0 < P.cellsOf e) && goodT P d e
   | _ => false

theorem cell_move {W W' : World} (hh : ∀ b, b < W.heap.size → W'.heap[b]? = W.heap[b]?) {a : Addr} {v : Value} (h : W.cell? a = some v) : W'.cell? a = some v := by
 unfold World.cell? at h ⊢
 split at h
 ·rename_i c e fz hb
  rw [hh _ (Array.getElem?_eq_some_iff.1 hb).1, hb]
  exact h
 ·cases h

theorem cells_move {W W' : World} (hh : ∀ b, b < W.heap.size → W'.heap[b]? = W.heap[b]?) {base : Nat} {a : Addr} {n : Nat} {vs : List Value} (h : W.cells? base a n = some vs) : W'.cells? base a n = some vs := by
 unfold World.cells? at h ⊢
 split at h
 ·rename_i hb
  rw [if_pos hb]
  exact mapM_move (Q := fun _ => True) _ _ (fun i _ y hy _ => cell_move hh hy) h (fun _ _ => trivial)
 ·cases h

theorem trod_move {H : Type} {enc : TypeId × Value → H} {P : Program} {W W' : World} {held : Bool} (hh : ∀ b, b < W.heap.size → W'.heap[b]? = W.heap[b]?) {sp : Nat → Bool} :
 ∀ (d fuel : Nat) (t : TypeId) (cs : List Value) (x : DataW H × List MemPlace), goodT P d t = true → DataW.trod enc P W 0 (fun _ => true) held fuel t cs = some x → (∀ p ∈ x.2, sp p.block = true) →
   DataW.trod enc P W' 0 sp held fuel t cs = some x := by
 intro d
 induction d with
 | zero => intro fuel t cs x hg; cases hg
 | succ d ih =>
   intro fuel t cs x hg h hs
   cases fuel with
   | zero => cases h
   | succ fuel =>
     unfold goodT at hg
     unfold DataW.trod at h ⊢
     cases hu : P.underlying t with
     | none => rw [hu] at hg; cases hg
     | some td =>
       rw [hu] at hg h
       cases td <;> simp only at hg <;> try (exact absurd hg Bool.false_ne_true)
       case bool =>
        split at h <;> simp_all
       case int k =>
        split at h <;> simp_all
       case struct fs =>
        split at h <;> try (simp_all; done)
        case _ fs' heq =>
         simp only [Option.some.injEq, TypeDesc.struct.injEq] at heq
         subst heq
         split at h
         case isTrue hl =>
          rw [if_pos hl]
          rw [Option.map_eq_some_iff] at h ⊢
          obtain ⟨ys, hy, rfl⟩ := h
          refine ⟨ys, ?_, rfl⟩
          refine mapM_move (Q := fun y => ∀ p ∈ y.2, sp p.block = true) _ _ (fun f hf y hy hq => ?_) hy (fun y hy p hp => hs p (List.mem_flatMap.2 ⟨y, hy, hp⟩))
          exact ih fuel f.type _ y (List.all_eq_true.1 hg f hf) hy hq
         case isFalse hl => cases h
       case slice e =>
        simp only [Bool.and_eq_true, decide_eq_true_eq] at hg
        obtain ⟨hpos, hg⟩ := hg
        split at h <;> try (simp_all; done)
        case _ e' a len cap heq =>
         simp only [Option.some.injEq, TypeDesc.slice.injEq] at heq
         subst heq
         have hel : ∀ i y, (W.cells? 0 (a.add (i * P.cellsOf e)) (P.cellsOf e)).bind (DataW.trod enc P W 0 (fun _ => true) held fuel e) = some y → (∀ p ∈ y.2, sp p.block = true) →
          (W'.cells? 0 (a.add (i * P.cellsOf e)) (P.cellsOf e)).bind (DataW.trod enc P W' 0 sp held fuel e) = some y := by
          intro i y hy hq
          rw [Option.bind_eq_some_iff] at hy ⊢
          obtain ⟨c, h1, h2⟩ := hy
          exact ⟨c, cells_move hh h1, ih fuel e c y hg h2 hq⟩
         simp only at h ⊢
         split at h
         case isFalse hl => cases h
         case isTrue hl =>
          rw [if_pos hl]
          rw [Option.bind_eq_some_iff] at h ⊢
          obtain ⟨es, he, h⟩ := h
          rw [if_pos trivial, Option.map_eq_some_iff] at h
          obtain ⟨rs, hr, rfl⟩ := h
          have hs2 : ∀ y ∈ es ++ rs, ∀ p ∈ y.2, sp p.block = true := fun y hy p hp => hs p (List.mem_append.2 (.inr (List.mem_flatMap.2 ⟨y, hy, hp⟩)))
          refine ⟨es, mapM_move (Q := fun y => ∀ p ∈ y.2, sp p.block = true) _ _ (fun i _ y hy hq => hel i y hy hq) he (fun y hy => hs2 y (by simp [hy])), ?_⟩
          rw [Option.map_eq_some_iff]
          refine ⟨rs, ?_, rfl⟩
          have hrl := (mapM_get _ _ hr).1
          by_cases hz : es.length + rs.length = 0
          ·have : rs = [] := List.eq_nil_of_length_eq_zero (by omega)
           subst this
           have hc : cap - len = 0 := by simpa using hrl.symm
           split
           ·rw [hc]; rfl
           ·rfl
          ·have hsp : sp a.block = true := by
            refine hs (.cell a.block (a.off + 0)) (List.mem_append.2 (.inl ?_))
            unfold MemPlace.row
            refine List.mem_map.2 ⟨0, List.mem_range.2 ?_, rfl⟩
            exact Nat.mul_pos (by omega) hpos
           rw [if_pos hsp]
           exact mapM_move (Q := fun y => ∀ p ∈ y.2, sp p.block = true) _ _ (fun j _ y hy hq => hel _ y hy hq) hr (fun y hy => hs2 y (by simp [hy]))

theorem trodAll_move {H : Type} {enc : TypeId × Value → H} {P : Program} {W W' : World} {held : Bool} (hh : ∀ b, b < W.heap.size → W'.heap[b]? = W.heap[b]?) {sp : Nat → Bool} (d : Nat) :
 ∀ (ts : List TypeId) (vs : List Value) (ds : List (DataW H)) (ps : List MemPlace), (∀ t ∈ ts, goodT P d t = true) → DataW.TrodAll enc P W 0 (fun _ => true) held ts vs ds ps → (∀ p ∈ ps, sp p.block = true) →
   DataW.TrodAll enc P W' 0 sp held ts vs ds ps
 | [], [], [], ps, _, h, _ => h
 | t :: ts, v :: vs, x :: ds, ps, hg, h, hs => by
   obtain ⟨p, q, ⟨fuel, h1⟩, h2, rfl⟩ := h
   exact ⟨p, q, ⟨fuel, trod_move hh d fuel t _ (x, p) (hg t (by simp)) h1 (fun z hz => hs z (by simp [hz]))⟩, trodAll_move hh d ts vs ds q (fun u hu => hg u (by simp [hu])) h2 (fun z hz => hs z (by simp [hz])), rfl⟩
 | [], _ :: _, _, _, _, h, _ => h.elim
 | [], [], _ :: _, _, _, h, _ => h.elim
 | _ :: _, [], _, _, _, h, _ => h.elim
 | _ :: _, _ :: _, [], _, _, h, _ => h.elim

/-- The state in which a call begins: all memory that is there is never written. -/
def st0 (W : World) : St := { w := W, imm := fun b => b < W.heap.size, loc := fun _ _ => .unk, next := 0 }
def H0 : Hp := fun _ => none
theorem st0_rel (W : World) (hg : ∀ p ∈ (default : GivT).l, VRel (st0 W) p.1 p.2) : HRel (st0 W) H0 := ⟨fun i _ => ⟨rfl, fun _ => rfl⟩, fun b h => h, fun i o h => (by cases h), fun i j o o' b h => (by cases h), hg⟩

inductive LitK where
 | int (k : IntKind)
 | bool
 deriving DecidableEq

def LitK.ok : LitK → Value → Prop
 | .int k, v => ∃ n, v = .int k n ∧ (Lit.int k n).wf = true
 | .bool, v => ∃ b, v = .bool b

/-- A type whose values are so many numbers and truths. -/
def litsT (P : Program) : Nat → TypeId → Option (List LitK)
 | 0, _ => none
 | d + 1, t => match P.underlying t with
   | some .bool => some [.bool]
   | some (.int k) => some [.int k]
   | some (.struct fs) => match fs.toList.foldl (fun acc f => match acc with
    | some ks => match litsT P d f.type with
      | some l => if f.offset = ks.length ∧ P.cellsOf f.type = l.length then some (ks ++ l) else none
      | none => none
    | none => none) (some []) with
     | some ks => if P.cellsOf t = ks.length then some ks else none
     | none => none
   | _ => none

def LitsOk (ks : List LitK) (cs : List Value) : Prop := cs.length = ks.length ∧ ∀ (i : Nat) (k : LitK) (v : Value), ks[i]? = some k → cs[i]? = some v → k.ok v

theorem LitsOk.append {ks ls : List LitK} {cs ds : List Value} (h : LitsOk ks cs) (h' : LitsOk ls ds) : LitsOk (ks ++ ls) (cs ++ ds) := by
 refine ⟨by simp [h.1, h'.1], fun i k v hk hv => ?_⟩
 by_cases hi : i < ks.length
 ·rw [List.getElem?_append_left hi] at hk
  rw [List.getElem?_append_left (by rw [h.1]; exact hi)] at hv
  exact h.2 i k v hk hv
 ·rw [List.getElem?_append_right (by omega)] at hk
  rw [List.getElem?_append_right (by rw [h.1]; omega), h.1] at hv
  exact h'.2 _ k v hk hv

theorem trod_lits {H : Type} {enc : TypeId × Value → H} {P : Program} {W : World} {held : Bool} {sp : Nat → Bool} :
 ∀ (d fuel : Nat) (t : TypeId) (cs : List Value) (x : DataW H × List MemPlace) (ks : List LitK), litsT P d t = some ks → DataW.trod enc P W 0 sp held fuel t cs = some x → LitsOk ks cs := by
 intro d
 induction d with
 | zero => intro fuel t cs x ks hg; cases hg
 | succ d ih =>
   intro fuel t cs x ks hg h
   cases fuel with
   | zero => cases h
   | succ fuel =>
     unfold litsT at hg
     unfold DataW.trod at h
     cases hu : P.underlying t with
     | none => rw [hu] at hg; cases hg
     | some td =>
       rw [hu] at hg h
       cases td <;> simp only at hg <;> try (cases hg; done)
       case bool =>
        cases hg
        split at h <;> simp_all
        rename_i b
        exact ⟨rfl, fun i k v hk hv => by cases i <;> simp at hk hv; subst hk hv; exact ⟨_, rfl⟩⟩
       case int k =>
        cases hg
        split at h <;> simp_all
        rename_i n hh
        exact ⟨rfl, fun i k v hk hv => by cases i <;> simp at hk hv; subst hk hv; exact ⟨_, rfl, h.1.2⟩⟩
       case struct fs =>
        split at h <;> try (simp_all; done)
        case _ fs' heq =>
         simp only [Option.some.injEq, TypeDesc.struct.injEq] at heq
         subst heq
         split at h
         case isFalse hl => cases h
         case isTrue hl =>
          rw [Option.map_eq_some_iff] at h
          obtain ⟨ys, hy, rfl⟩ := h
          have key : ∀ (c : List Value) (l : List Field) (acc ks : List LitK), (∀ f ∈ l, ∃ y, DataW.trod enc P W 0 sp held fuel f.type ((c.drop f.offset).take (P.cellsOf f.type)) = some y) → LitsOk acc (c.take acc.length) →
           l.foldl (fun acc f => match acc with
            | some ks => match litsT P d f.type with
              | some l => if f.offset = ks.length ∧ P.cellsOf f.type = l.length then some (ks ++ l) else none
              | none => none
            | none => none) (some acc) = some ks → LitsOk ks (c.take ks.length) := by
           intro c l
           induction l with
           | nil => intro acc ks _ ha he; simp at he; subst he; exact ha
           | cons f l ih2 =>
             intro acc ks hf ha he
             simp only [List.foldl_cons] at he
             have hnone : ∀ l : List Field, l.foldl (fun acc f => match acc with
              | some ks => match litsT P d f.type with
                | some l => if f.offset = ks.length ∧ P.cellsOf f.type = l.length then some (ks ++ l) else none
                | none => none
              | none => none) none = (none : Option (List LitK)) := by
              intro l; induction l with
              | nil => rfl
              | cons a l ih => simpa using ih
             cases hl2 : litsT P d f.type with
             | none => rw [hl2] at he; simp only at he; rw [hnone] at he; cases he
             | some lk =>
               rw [hl2] at he
               simp only at he
               by_cases hc : f.offset = acc.length ∧ P.cellsOf f.type = lk.length
               ·rw [if_pos hc] at he
                obtain ⟨y, hy⟩ := hf f (by simp)
                have := ih fuel f.type _ y lk hl2 hy
                rw [hc.1, hc.2] at this
                have hap := ha.append this
                refine ih2 (acc ++ lk) ks (fun g hg => hf g (by simp [hg])) ?_ he
                rw [List.length_append, List.take_add]
                exact hap
               ·rw [if_neg hc, hnone] at he; cases he
          split at hg
          case h_2 => cases hg
          case h_1 ks' he =>
           split at hg
           case isFalse => cases hg
           case isTrue hc =>
            cases hg
            have := key _ fs.toList [] ks (fun f hf => by
             obtain ⟨i, hi⟩ := List.getElem?_of_mem hf
             obtain ⟨y, _, h2⟩ := (mapM_get _ _ hy).2 i f hi
             exact ⟨y, h2⟩) ⟨by simp, fun i k v hk => by simp at hk⟩ he
            rw [List.take_of_length_le (by rw [hl, hc]; exact Nat.le_refl _)] at this
            exact this

end Go.V
end
section
set_option linter.unusedVariables false
set_option linter.unusedSimpArgs false
namespace Go.V
set_option linter.unusedSectionVars false
variable [Inhabited GivT]
theorem trod_slice_rel {H : Type} {enc : TypeId × Value → H} {P : Program} {W : World} {held : Bool} {sp : Nat → Bool} {d fuel : Nat} {t e : TypeId} {v : Value} {x : DataW H × List MemPlace} {ks : List LitK}
 (ht : P.underlying t = some (.slice e)) (hk : litsT P d e = some ks) (hsz : P.cellsOf e = ks.length) (hpos : 0 < ks.length) (h : DataW.trod enc P W 0 sp held fuel t [v] = some x) :
 ∃ (n : Nat) (g : Nat → List Value), n ≤ maxLen ∧ (∀ i, i < n → LitsOk ks (g i)) ∧ VRel (st0 W) (.rsl n ks.length (fun i => (g i).map AV.lit)) v := by
 cases fuel with
 | zero => cases h
 | succ fuel =>
   unfold DataW.trod at h
   rw [ht] at h
   split at h <;> try (simp_all; done)
   ·rename_i heq heq2
    simp only [List.cons.injEq, and_true] at heq2
    subst heq2
    exact ⟨0, fun _ => [], Nat.zero_le _, fun i hi => by omega, .rsl0⟩
   ·rename_i e' a len cap heq heq2
    simp only [Option.some.injEq, TypeDesc.slice.injEq] at heq
    simp only [List.cons.injEq, and_true] at heq2
    subst heq heq2
    simp only at h
    split at h
    case isFalse hl => cases h
    case isTrue hl =>
     rw [Option.bind_eq_some_iff] at h
     obtain ⟨es, he, -⟩ := h
     let g : Nat → List Value := fun i => match W.cells? 0 (a.add (i * P.cellsOf e)) (P.cellsOf e) with
      | some c => c
      | none => []
     have hel : ∀ i, i < len → W.cells? 0 (a.add (i * P.cellsOf e)) (P.cellsOf e) = some (g i) ∧ LitsOk ks (g i) := by
      intro i hi
      obtain ⟨y, _, hy⟩ := (mapM_get _ _ he).2 i i (by simp [hi])
      rw [Option.bind_eq_some_iff] at hy
      obtain ⟨c, h1, h2⟩ := hy
      have : g i = c := by simp only [g, h1]
      rw [this]
      exact ⟨h1, trod_lits d fuel _ c y ks hk h2⟩
     refine ⟨len, g, Nat.le_trans hl.2.1 hl.2.2, fun i hi => (hel i hi).2, ?_⟩
     by_cases h0 : len = 0
     ·subst h0; exact .rsl0
     have hcell : ∀ i j, i < len → j < ks.length → ∃ u, (g i)[j]? = some u ∧ W.cell? ((a.add (i * P.cellsOf e)).add j) = some u := by
      intro i j hi hj
      have h1 := (hel i hi).1
      unfold World.cells? at h1
      rw [if_pos (Nat.zero_le _)] at h1
      exact (mapM_get _ _ h1).2 j j (by simp [hsz, hj])
     obtain ⟨b, off, spot⟩ := a
     obtain ⟨u0, _, hc0⟩ := hcell 0 0 (by omega) hpos
     rw [show ((⟨b, off, spot⟩ : Addr).add (0 * P.cellsOf e)).add 0 = ⟨b, off, spot⟩ from by simp [Addr.add]] at hc0
     unfold World.cell? at hc0
     split at hc0
     case h_2 => cases hc0
     case h_1 c ct fz hb =>
      have hspot : spot = none := by
       cases spot with
       | none => rfl
       | some s => simp at hc0
      subst hspot
      have hadd : ∀ i j, (((⟨b, off, none⟩ : Addr).add (i * P.cellsOf e)).add j) = ⟨b, off + i * P.cellsOf e + j, none⟩ := fun i j => by rw [addr_add, addr_add]
      have hall : ∀ i j, i < len → j < ks.length → ∃ u, (g i)[j]? = some u ∧ c[off + i * ks.length + j]? = some u := by
       intro i j hi hj
       obtain ⟨u, h1, h2⟩ := hcell i j hi hj
       rw [hadd] at h2
       unfold World.cell? at h2
       simp only at hb
       rw [show W.heap[(⟨b, off + i * P.cellsOf e + j, none⟩ : Addr).block]? = some (.cells c ct fz) from hb] at h2
       simp only [Option.isSome_none, Bool.false_eq_true, if_false, hsz] at h2
       exact ⟨u, h1, h2⟩
      refine .rsl (c := c) (e := ct) (fz := fz) ?_ hb ?_ (fun i hi => by simpa using (hel i hi).2.1) (fun i j hi hj => ?_) hl.2.1
      ·exact (Array.getElem?_eq_some_iff.1 hb).1
      ·obtain ⟨u, _, h2⟩ := hall (len - 1) (ks.length - 1) (by omega) (by omega)
       have := (Array.getElem?_eq_some_iff.1 h2).1
       have e1 : len * ks.length = (len - 1) * ks.length + ks.length := by
        obtain ⟨q, rfl⟩ : ∃ q, len = q + 1 := ⟨len - 1, by omega⟩
        rw [Nat.add_sub_cancel, Nat.succ_mul]
       omega
      ·obtain ⟨u, h1, h2⟩ := hall i j hi hj
       rw [List.getD_eq_getElem?_getD, List.getElem?_map, h1, Array.getD_eq_getD_getElem?, h2]
       exact .lit _

end Go.V
end
section
set_option linter.unusedVariables false
set_option linter.unusedSimpArgs false
namespace Go.V
set_option linter.unusedSectionVars false
variable [Inhabited GivT]
open Go.ChangeShapes Go.WideShapes
theorem law_post {H : Type} {enc : TypeId × Value → H} {P : Program} {f : Func} {s : ChangeSpec} {apart fresh handsOn again : Bool} {W W' : World} {args : Array Value} {ds gs : List (DataW H)} {before : List MemPlace} {tb : TypeId} {d : Nat}
 (hv0 : s.vars = []) (hrt : f.resultTypes = #[tb]) (hb : P.underlying tb = some .bool) (hgood : ∀ t ∈ f.params.toList, goodT P d t = true)
 (hW : DataW.Whole enc P f.params.toList s.vars apart W args.toList ds gs before)
 (hfn : s.fn H (ds ++ gs) = { results := [.lit (.bool true)], args := ds })
 (hh : ∀ b, b < W.heap.size → W'.heap[b]? = W.heap[b]?) (hos : W'.os = W.os) (hout : W'.output = W.output) : s.post enc P f apart fresh handsOn again W args (.bool true) W' := by
 have hW' := hW
 obtain ⟨p, q, hA, hV, rfl, hz, hn⟩ := hW
 rw [hv0] at hV
 have hgq : gs = [] ∧ q = [] := by
  cases gs with
  | nil => exact ⟨rfl, hV⟩
  | cons _ _ => exact hV.elim
 obtain ⟨rfl, rfl⟩ := hgq
 have hlt : ∀ z ∈ p ++ [], z.block < W.heap.size := fun z hz => hW'.lt z hz
 have hold : ∀ z ∈ p, (fun b => decide (b < W.heap.size)) z.block = true := fun z hz => by simpa using hlt z (by simpa using hz)
 have hres : ∀ (b : Nat) (sp : Nat → Bool) (hd : Bool), DataW.TrodAll enc P W' b sp hd f.resultTypes.toList ((Value.bool true).resultList f.resultTypes.size) (s.fn H (ds ++ [])).results [] := by
  intro b sp hd
  rw [hfn, hrt]
  exact ⟨[], [], ⟨1, by simp [DataW.trod, hb, Value.cells]⟩, rfl, rfl⟩
 have hargs : ∀ sp : Nat → Bool, (∀ z ∈ p, sp z.block = true) → DataW.TrodAll enc P W' 0 sp true f.params.toList args.toList (s.fn H (ds ++ [])).args p := by
  intro sp hs
  rw [hfn]
  exact trodAll_move hh d _ _ _ _ hgood hA hs
 refine ⟨ds, [], p ++ [], [], p, [], hW', hres _ _ _, hargs _ hold, ?_, ⟨hos, hout, fun i hi => ?_⟩, fun _ => ?_⟩
 ·rw [hv0, hfn]; exact rfl
 ·rw [hh i hi]
  cases W.heap[i]? with
  | none => rfl
  | some o => cases o <;> first | exact ⟨rfl, rfl, rfl, fun _ _ => rfl⟩ | exact .inr ⟨rfl, rfl⟩ | rfl
 ·refine ⟨fun j t r h1 h2 => ?_, _, [], ([] ++ p) ++ [], ⟨[] ++ p, [], trodAll_append (hargs _ (fun _ _ => rfl)) (hres _ _ _), ?_, rfl, ?_, ?_⟩, ?_⟩
  ·rw [hrt] at h1 h2
   have hj : j = 0 := by
    have := (Array.getElem?_eq_some_iff.1 h1).1
    simp at this; omega
   subst hj
   simp [Value.resultList] at h1 h2
   subst h1 h2
   simp [Value.okWide, hb, Cell.okWide, Cell.ok]
  ·rw [hv0]; exact rfl
  ·intro b off hm
   have hm' : MemPlace.cell b off ∈ p ++ [] := by simpa using hm
   have := hz b off hm'
   have hb' : b < W.heap.size := hlt _ hm'
   unfold World.frozen? at this ⊢
   simp only [hh b hb']
   exact this
  ·intro ha
   have := hn ha
   simpa using this
  ·intro z hz _
   simpa using hz

end Go.V
end
section
set_option linter.unusedVariables false
set_option linter.unusedSimpArgs false
namespace Go.V
set_option linter.unusedSectionVars false
variable [Inhabited GivT]
theorem law_calls {P : Program} {f : FuncId} {fn : Func} {c : Code} {W : World} {args : Array Value} {avs : List AV} (hf : P.funcs[f]? = some fn) (hname : (fn.name == "runtime.NumGoroutine") = false) (hb : fn.body = some c)
 (hT : Tri P (.func (.func f) [] []) avs H0 fun r _ => r = .ret (.lit (.bool true))) (hg : ∀ p ∈ (default : GivT).l, VRel (st0 W) p.1 p.2) (ha : VRels (st0 W) avs args.toList) :
 Calls P f args W fun e W' => e = .returned (.bool true) ∧ (∀ b, b < W.heap.size → W'.heap[b]? = W.heap[b]?) ∧ W'.os = W.os ∧ W'.output = W.output := by
 obtain ⟨nx, h1, h2⟩ := hT (st0 W) (.func (.func f) #[] #[]) args.toList (st0_rel W hg) (.func rfl rfl (fun k hk => absurd hk (by simp)) (fun k hk => absurd hk (by simp))) ha
 have hcf : (callFunc f args).run P W = .ok (.enter f args) W := by
  simp only [callFunc, Sem.run_bind, run_program, Result.andThen_ok, hf, hname, hb]
  simp
 simp only [Deferred.ofValue, Sem.run_bind, Sem.run_pure, Result.andThen_ok, invoke] at h1
 have e : (#[] : Array Value) ++ args.toList.toArray ++ #[] = args := by simp
 rw [e] at h1
 have h1' : (callFunc f args).run P W = .ok nx W := h1
 rw [hcf] at h1'
 injection h1' with h1' _
 subst h1'
 refine Calls.mono h2 ?_
 rintro e w ⟨S', r, H', rfl, hle, hH', hrr, hr⟩
 subst hr
 refine ⟨?_, fun b hb => hle.keep b hb, hle.os, hle.output⟩
 cases e with
 | returned v => rw [VRel.lit_inv hrr]
 | panicked ch => exact hrr.elim
 | outgrown => exact hrr.elim

end Go.V
end
section
set_option linter.unusedVariables false
set_option linter.unusedSimpArgs false
namespace Go.V
set_option linter.unusedSectionVars false
variable [Inhabited GivT]
open Go.ChangeShapes
def st2 (P : Program) (t a oa b ob : Nat) : Bool := match P.underlying t with
 | some (.struct fs) => (match fs.toList with
   | [f0, f1] => f0.type == a && f0.offset == oa && f1.type == b && f1.offset == ob
   | _ => false)
 | _ => false
end Go.V
end
section
set_option linter.unusedVariables false
namespace Go.V
set_option linter.unusedSectionVars false
variable [Inhabited GivT]
theorem frz_step {S : St} {H : Hp} {id st n : Nat} {f : Nat → List AV} (hH : HRel S H) (ho : H id = some (.row st n f)) :
 ∃ S2, S2.w = S.w ∧ Le S S2 ∧ HRel S2 (H.del id) ∧ ∀ v, VRel S (.sl id st n) v → VRel S2 (.rsl n st f) v := by
 obtain ⟨hg, hcase⟩ := hH.obj id _ ho
 rcases hcase with ⟨rfl, hnil⟩ | ⟨b, c, e, hl, hb, hni, hc⟩
 ·refine ⟨S, rfl, Le.refl S, hH.sub ?_, ?_⟩
  ·intro j o' hj
   by_cases ej : j = id
   ·simp [Hp.del, ej] at hj
   ·exact ⟨o', by rw [Hp.del_ne _ ej] at hj; exact hj, .refl _⟩
  ·intro v this
   cases this with
   | sl hl => rw [hnil] at hl; cases hl
   | slnil _ => exact .rsl0
 ·have hle := S.frz_le b
  refine ⟨S.frz b, rfl, hle, ?_, ?_⟩
  ·refine ⟨fun i hi => ⟨?_, (hH.fresh i hi).2⟩, ?_, ?_, ?_, fun p hp => (hH.giv p hp).mono hle⟩
   ·simp only [Hp.del]; split
    ·rfl
    ·exact (hH.fresh i hi).1
   ·rintro x (hx | rfl)
    ·exact hH.immlt x hx
    ·exact (Array.getElem?_eq_some_iff.1 hb).1
   ·intro i o hi
    have ne : i ≠ id := by intro e; simp [Hp.del, e] at hi
    rw [Hp.del_ne _ ne] at hi
    have old := hH.obj i o hi
    have hne : ∀ x, S.loc i o.gen = .blk x → x ≠ b := fun x hx e => ne (hH.inj i id o _ x hi ho hx (by subst e; exact hl))
    cases o with
    | box st' n' f' =>
      obtain ⟨b', c', e', h1, h2, h3, h4⟩ := old
      exact ⟨b', c', e', h1, h2, fun hx => hx.elim h3 (hne b' h1), h4.1, h4.2.1, fun i j hi hj => (h4.2.2 i j hi hj).mono hle⟩
    | row st' n' f' =>
      obtain ⟨g1, old⟩ := old
      refine ⟨g1, old.imp (fun x => x) ?_⟩
      rintro ⟨b', c', e', h1, h2, h3, h4⟩
      exact ⟨b', c', e', h1, h2, fun hx => hx.elim h3 (hne b' h1), h4.1, h4.2.1, fun i j hi hj => (h4.2.2 i j hi hj).mono hle⟩
    | memo F =>
      obtain ⟨b', es, k, h1, h2, h3, h4⟩ := old
      exact ⟨b', es, k, h1, h2, fun hx => hx.elim h3 (hne b' h1), h4⟩
    | raw o =>
      obtain ⟨b', h1, h2, h3, h4⟩ := old
      exact ⟨b', h1, h2, h3, fun hx => hx.elim h4 (hne b' h1)⟩
    | loop l n s ps assign body st pend did =>
      obtain ⟨h1, h2, fn, tmps, D, h3, h4, h5, h6⟩ := old
      exact ⟨h1, fun hx => hx.elim h2 (hne l h1), fn, tmps, D, h3, h4, h5.mono hle, h6⟩
   ·intro i j o o' x hi hj
    have ne : i ≠ id := by intro e; simp [Hp.del, e] at hi
    have ne' : j ≠ id := by intro e; simp [Hp.del, e] at hj
    rw [Hp.del_ne _ ne] at hi
    rw [Hp.del_ne _ ne'] at hj
    exact hH.inj i j o o' x hi hj
  ·intro v this
   cases this with
   | sl hl' hb' _ hlen' =>
     rw [hl] at hl'; cases hl'
     exact .rsl (off := 0) (.inr rfl) hb (by rw [Nat.zero_add]; exact hc.1) hc.2.1 (fun i j hi hj => by rw [Nat.zero_add]; exact (hc.2.2 i j hi hj).mono hle) hlen'
   | slnil hl' => rw [hl] at hl'; cases hl'

/-- What is frozen: the row's slices become its data. -/
def Frz (id st n : Nat) (f : Nat → List AV) (x y : AV) : Prop := y = x ∨ (x = .sl id st n ∧ y = .rsl n st f)
theorem Frz.rfl {id st n : Nat} {f : Nat → List AV} {x : AV} : Frz id st n f x x := .inl (Eq.refl x)
theorem Frz.hit {id st n : Nat} {f : Nat → List AV} : Frz id st n f (.sl id st n) (.rsl n st f) := .inr ⟨Eq.refl _, Eq.refl _⟩

/-- A row that is written no more, of which a box tells. -/
theorem Ent.freezeBox {s s' : Fr} {ds : List AD} {H : Hp} {K : Fr → List AD → Hp → Prop} {id st n j st' n' : Nat} {f g g' : Nat → List AV} (ho : H id = some (.row st n f)) (hj : H j = some (.box st' n' g))
 (hs : ∀ t, Frz id st n f (s t) (s' t)) (hl : ∀ k, k < n' → (g' k).length = st') (hg : ∀ k c, k < n' → c < st' → Frz id st n f ((g k).getD c .any) ((g' k).getD c .any))
 (h : K s' ds ((H.del id).set j (.box st' n' g'))) : Ent s ds H K := by
 intro S a hH hF hD
 obtain ⟨S2, hw, hle, h2, hc⟩ := frz_step hH ho
 have hne : j ≠ id := fun e => by rw [e, ho] at hj; cases hj
 have conv : ∀ x y v, Frz id st n f x y → VRel S x v → VRel S2 y v := fun x y v hxy hv => by
  rcases hxy with rfl | ⟨rfl, rfl⟩
  ·exact hv.mono hle
  ·exact hc v hv
 have hj2 : (H.del id) j = some (.box st' n' g) := by rw [Hp.del_ne _ hne]; exact hj
 refine ⟨S2, s', ds, _, hw, hle, ?_, fun t => conv _ _ _ (hs t) (hF t), hD.mono hle, h⟩
 obtain ⟨b, c, e, a1, a2, a3, a4⟩ := hH.obj j _ hj
 obtain ⟨b2, c2, e2, q1, q2, q3, q4⟩ := h2.obj j _ hj2
 have eb : b2 = b := by
  have := hle.locBlk a1
  rw [this] at q1
  cases q1; rfl
 subst eb
 rw [hw, a2] at q2
 cases q2
 refine ⟨fun i hi => ⟨?_, (h2.fresh i hi).2⟩, h2.immlt, ?_, ?_, h2.giv⟩
 ·have hi' := (h2.fresh i hi).1
  by_cases ei : i = j
  ·subst ei; rw [hj2] at hi'; cases hi'
  ·rw [Hp.set_ne _ _ ei]; exact hi'
 ·intro i o hi
  by_cases ei : i = j
  ·subst ei
   rw [Hp.set_same] at hi
   cases hi
   exact ⟨b2, c, e, q1, by rw [hw]; exact a2, q3, a4.1, hl, fun k d hk hd => conv _ _ _ (hg k d hk hd) (a4.2.2 k d hk hd)⟩
  ·rw [Hp.set_ne _ _ ei] at hi
   exact h2.obj i o hi
 ·intro i i' o o' x hi hi' hx hx'
  have back : ∀ k o, ((H.del id).set j (.box st' n' g')) k = some o → ∃ p, (H.del id) k = some p ∧ p.gen = o.gen := fun k o hk => by
   by_cases ek : k = j
   ·subst ek
    rw [Hp.set_same] at hk
    cases hk
    exact ⟨_, hj2, Eq.refl _⟩
   ·rw [Hp.set_ne _ _ ek] at hk
    exact ⟨o, hk, Eq.refl _⟩
  obtain ⟨p, p1, p2⟩ := back i o hi
  obtain ⟨p', p1', p2'⟩ := back i' o' hi'
  exact h2.inj i i' p p' x p1 p1' (by rw [p2]; exact hx) (by rw [p2']; exact hx')

end Go.V
end
section
set_option linter.unusedVariables false
namespace Go.V
set_option linter.unusedSectionVars false
variable [Inhabited GivT]
theorem HRel.boxUpd {S : St} {H : Hp} {j st n : Nat} {g g' : Nat → List AV} (hH : HRel S H) (hj : H j = some (.box st n g)) (hl : ∀ k, k < n → (g' k).length = st)
 (hg : ∀ k d v, k < n → d < st → VRel S ((g k).getD d .any) v → VRel S ((g' k).getD d .any) v) : HRel S (H.set j (.box st n g')) := by
 obtain ⟨b, c, e, q1, q2, q3, q4⟩ := hH.obj j _ hj
 refine ⟨fun i hi => ⟨?_, (hH.fresh i hi).2⟩, hH.immlt, ?_, ?_, hH.giv⟩
 ·have hi' := (hH.fresh i hi).1
  by_cases ei : i = j
  ·subst ei; rw [hj] at hi'; cases hi'
  ·rw [Hp.set_ne _ _ ei]; exact hi'
 ·intro i o hi
  by_cases ei : i = j
  ·subst ei
   rw [Hp.set_same] at hi
   cases hi
   exact ⟨b, c, e, q1, q2, q3, q4.1, hl, fun k d hk hd => hg k d _ hk hd (q4.2.2 k d hk hd)⟩
  ·rw [Hp.set_ne _ _ ei] at hi
   exact hH.obj i o hi
 ·intro i i' o o' x hi hi' hx hx'
  have back : ∀ k o, (H.set j (.box st n g')) k = some o → ∃ p, H k = some p ∧ p.gen = o.gen := fun k o hk => by
   by_cases ek : k = j
   ·subst ek
    rw [Hp.set_same] at hk
    cases hk
    exact ⟨_, hj, Eq.refl _⟩
   ·rw [Hp.set_ne _ _ ek] at hk
    exact ⟨o, hk, Eq.refl _⟩
  obtain ⟨p, p1, p2⟩ := back i o hi
  obtain ⟨p', p1', p2'⟩ := back i' o' hi'
  exact hH.inj i i' p p' x p1 p1' (by rw [p2]; exact hx) (by rw [p2']; exact hx')

/-- Nil becomes a row of none. -/
def Nld (id st : Nat) (x y : AV) : Prop := y = x ∨ (x = .lit (.slice none 0 0) ∧ y = .sl id st 0)
theorem Nld.rfl {id st : Nat} {x : AV} : Nld id st x x := .inl (Eq.refl x)
theorem Nld.hit {id st : Nat} : Nld id st (.lit (.slice none 0 0)) (.sl id st 0) := .inr ⟨Eq.refl _, Eq.refl _⟩

theorem Ent.nilBox {s : Fr} {ds : List AD} {H : Hp} {K : Fr → List AD → Hp → Prop} {j st' n' : Nat} {g : Nat → List AV} (st : Nat) (f : Nat → List AV) (g' : Nat → Nat → List AV) (hj : H j = some (.box st' n' g))
 (hl : ∀ id k, k < n' → (g' id k).length = st') (hg : ∀ id k c, k < n' → c < st' → Nld id st ((g k).getD c .any) ((g' id k).getD c .any))
 (h : ∀ id, H id = none → K s ds ((H.set id (.row st 0 f)).set j (.box st' n' (g' id)))) : Ent s ds H K := by
 intro S a hH hF hD
 have hnone := St.next_none hH
 have hle := S.layNil_le hH
 have hne : j ≠ S.next := fun e => by rw [← e, hj] at hnone; cases hnone
 have h2 := hH.layNil st f
 have hj2 : (H.set S.next (.row st 0 f)) j = some (.box st' n' g) := by rw [Hp.set_ne _ _ hne]; exact hj
 refine ⟨S.layNil, s, ds, _, rfl, hle, h2.boxUpd hj2 (hl S.next) (fun k d v hk hd hv => ?_), fun t => (hF t).mono hle, hD.mono hle, h S.next hnone⟩
 rcases hg S.next k d hk hd with e | ⟨e1, e2⟩
 ·rw [e]; exact hv
 ·rw [e2]
  rw [e1] at hv
  have := hv.lit_inv
  subst this
  exact .slnil (by simp [St.layNil])

end Go.V
end
section
set_option linter.unusedVariables false
namespace Go.V
set_option linter.unusedSectionVars false
variable [Inhabited GivT]
/-- A value in which a row is now data. -/
inductive FrzD (id st n : Nat) (f : Nat → List AV) : AV → AV → Prop
 | same (x : AV) : FrzD id st n f x x
 | hit {g : Nat → List AV} (h : ∀ i, i < n → f i = g i) : FrzD id st n f (.sl id st n) (.rsl n st g)
 | agg {cs cs' : List AV} (hl : cs'.length = cs.length) (h : ∀ k, k < cs.length → FrzD id st n f (cs.getD k .any) (cs'.getD k .any)) : FrzD id st n f (.agg cs) (.agg cs')
 | tuple {cs cs' : List AV} (hl : cs'.length = cs.length) (h : ∀ k, k < cs.length → FrzD id st n f (cs.getD k .any) (cs'.getD k .any)) : FrzD id st n f (.tuple cs) (.tuple cs')

theorem FrzD.conv {S S2 : St} {id st n : Nat} {f : Nat → List AV} (hle : Le S S2) (hc : ∀ v, VRel S (.sl id st n) v → VRel S2 (.rsl n st f) v) {x y : AV} (hxy : FrzD id st n f x y) : ∀ v, VRel S x v → VRel S2 y v := by
 induction hxy with
 | same x => intro v hv; exact hv.mono hle
 | hit h => intro v hv; exact AV.Le.rsl h _ _ (hc v hv)
 | agg hl h ih =>
   intro v hv
   cases hv with
   | agg hn hv => exact .agg (hn.trans hl.symm) fun k hk => ih k (by omega) _ (hv k (by omega))
 | tuple hl h ih =>
   intro v hv
   cases hv with
   | tuple hn hv => exact .tuple (hn.trans hl.symm) fun k hk => ih k (by omega) _ (hv k (by omega))

theorem tri_freezeD {P : Program} {fv : AV} {args args' : List AV} {H : Hp} {R : Res → Hp → Prop} {id st n : Nat} {f : Nat → List AV} (ho : H id = some (.row st n f)) (hl : args'.length = args.length)
 (hs : ∀ k, k < args.length → FrzD id st n f (args.getD k .any) (args'.getD k .any)) (h : Tri P fv args' (H.del id) R) : Tri P fv args H R := by
 intro S vf vs hH hvf ha
 obtain ⟨S2, hw, hle, h2, hc⟩ := frz_step hH ho
 have conv : ∀ x y, FrzD id st n f x y → ∀ v, VRel S x v → VRel S2 y v := fun x y hxy => hxy.conv hle hc
 obtain ⟨nx, h1, h3⟩ := h S2 vf vs h2 (hvf.mono hle) ⟨by rw [hl]; exact ha.1, fun k hk => conv _ _ (hs k (by omega)) _ (ha.2 k (by omega))⟩
 rw [hw] at h1
 have hout : ∀ e w, Out S2 R e w → Out S R e w := fun e w ⟨S3, r, H2, a, b, c, d, e'⟩ => ⟨S3, r, H2, a, hle.trans b, c, d, e'⟩
 refine ⟨nx, h1, ?_⟩
 cases nx <;> simp only [NextOk] at h3 ⊢
 ·rw [hw] at h3; exact Calls.mono h3 hout
 ·rw [hw] at h3; exact h3.mono hout

end Go.V
end
section
set_option linter.unusedVariables false
namespace Go.V
set_option linter.unusedSectionVars false
variable [Inhabited GivT]
section
variable {r : Option Nat} {P : Program} {m : Option Tmp → Bool} {n : Nat} {k : List It} {s : Fr} {ds : List AD} {H : Hp} {Q : Post}
theorem vs_entL {c : Code} (h : Ent s ds H fun s ds H => VS r P m n (.code (.loop c) :: k) s ds H Q) : VS r P m n (.code (.loop c) :: k) s ds H Q :=
 (wps_ent h : WPS r P n (.loop c) s ds H (TK r P m n k Q))
end
end Go.V
end
section
set_option linter.unusedVariables false
set_option linter.unusedSimpArgs false
namespace Go.V
set_option linter.unusedSectionVars false
variable [Inhabited GivT]
abbrev i64 (n : Int) : AV := .lit (.int .i64 n)
abbrev u64 (n : Int) : AV := .lit (.int .u64 n)
abbrev u8 (n : Int) : AV := .lit (.int .u8 n)
abbrev u16 (n : Int) : AV := .lit (.int .u16 n)
abbrev boo (b : Bool) : AV := .lit (.bool b)
abbrev bx (n : Int) : AV := .rptr 1 1 (fun _ => [i64 n]) 0 0

theorem getD_snoc {α : Type} (l : List α) (x d : α) (k : Nat) : (l ++ [x]).getD k d = if k = l.length then x else l.getD k d := by
 by_cases h : k = l.length
 ·subst h; simp
 ·rw [if_neg h]
  by_cases h2 : k < l.length
  ·rw [List.getD_eq_getElem?_getD, List.getD_eq_getElem?_getD, List.getElem?_append_left h2]
  ·rw [List.getD_eq_getElem?_getD, List.getD_eq_getElem?_getD, List.getElem?_eq_none (by simp; omega), List.getElem?_eq_none (by omega)]
theorem take_snoc {α : Type} (l : List α) (i : Nat) (d : α) (h : i < l.length) : l.take (i + 1) = l.take i ++ [l.getD i d] := by
 rw [List.take_add_one, List.getD_eq_getElem?_getD, List.getElem?_eq_getElem h]; rfl
theorem mem_getD {α : Type} (l : List α) (i : Nat) (d : α) (h : i < l.length) : l.getD i d ∈ l := by
 rw [List.getD_eq_getElem?_getD, List.getElem?_eq_getElem h]; exact List.getElem_mem h
theorem getD_mem {α : Type} {l : List α} {x : α} (d : α) (h : x ∈ l) : ∃ i, i < l.length ∧ l.getD i d = x := by
 obtain ⟨i, hi, e⟩ := List.getElem_of_mem h
 exact ⟨i, hi, by rw [List.getD_eq_getElem?_getD, List.getElem?_eq_getElem hi]; exact e⟩
/-- A list, each thing of which is so many cells. -/
def lF {α : Type} (en : α → List AV) (d : α) (l : List α) : Nat → List AV := fun i => en (l.getD i d)
theorem app_lF {α : Type} (en : α → List AV) (d : α) (l : List α) (x : α) (g : Nat → List AV) (hg : g 0 = en x) : appF l.length 1 (lF en d l) g = lF en d (l ++ [x]) := by
 funext k
 simp only [appF, lF, hg, getD_snoc]
 split <;> rfl
abbrev enI (z : Int) : List AV := [i64 z]
abbrev enN (z : Nat) : List AV := [i64 (z : Int)]
abbrev enU (z : Nat) : List AV := [u64 (z : Int)]
def intF (l : List Int) : Nat → List AV := fun i => [i64 (l.getD i 0)]
abbrev intsAV (l : List Int) : AV := .rsl l.length 1 (intF l)
theorem intF_at (l : List Int) (i : Nat) : intF l i = [i64 (l.getD i 0)] := rfl
theorem app_ints (l : List Int) (w : Int) (g : Nat → List AV) (hg : g 0 = [i64 w]) : appF l.length 1 (intF l) g = intF (l ++ [w]) := app_lF enI 0 l w g hg
def llF (l : List (List Int)) : Nat → List AV := fun i => [intsAV (l.getD i [])]
abbrev llAV (l : List (List Int)) : AV := .rsl l.length 1 (llF l)
theorem bit_eq (S i : Nat) : decide ((((S : Int) / 2 ^ i).toNat &&& Int.toNat 1 : Nat) = (1 : Int)) = S.testBit i := by
 have e : ((S : Int) / 2 ^ i).toNat = S / 2 ^ i := by
  have : (S : Int) / 2 ^ i = ((S / 2 ^ i : Nat) : Int) := by simp
  rw [this]; rfl
 rw [e, Nat.testBit_eq_decide_div_mod_eq]
 show decide (((S / 2 ^ i &&& 1 : Nat) : Int) = 1) = _
 rw [Nat.and_one_is_mod]
 congr 1
 apply propext
 omega
/-- How many bits there are. -/
def popN : Nat → Nat → Nat
 | 0, _ => 0
 | f + 1, s => s % 2 + popN f (s / 2)
def pop (s : Nat) : Nat := popN 64 s
end Go.V
end
section
set_option linter.unusedVariables false
namespace Go.V
set_option linter.unusedSectionVars false
variable [Inhabited GivT]
theorem AV.Le.nil (st : Nat) (f : Nat → List AV) : AV.Le (.lit (.slice none 0 0)) (.rsl 0 st f) := by
 intro S v hv
 have := hv.lit_inv
 subst this
 exact .rsl0
end Go.V
end
section
set_option linter.unusedVariables false
set_option linter.unusedSimpArgs false
namespace Go.V
set_option linter.unusedSectionVars false
variable [Inhabited GivT]
theorem tri_inv {P : Program} {T : TypeId} {nm : String} {f : FuncId} {recv : AV} {args : List AV} {H : Hp} {R : Res → Hp → Prop} (hm : methT P T nm f) (h : Tri P (fnA f) (recv :: args) H R) :
 Tri P (.func (.method nm) [] []) (.iface T recv :: args) H R := by
 intro S vf vs hH hvf ha
 cases hvf with
 | @func _ _ _ ws us hn hu h1 h2 =>
   have hws : ws = #[] := by simpa using hn
   subst hws
   have hus : us = #[] := by simpa using hu
   subst hus
   obtain ⟨hlen, hall⟩ := ha
   cases vs with
   | nil => simp at hlen
   | cons x vs =>
     have hx := hall 0 (by simp)
     simp only [List.getD_cons_zero] at hx
     cases hx with
     | @iface _ _ cv hcv =>
       obtain ⟨nx, e1, e2⟩ := h S (.func (.func f) #[] #[]) (cv :: vs) hH (.func rfl rfl (fun k hk => absurd hk (by simp)) (fun k hk => absurd hk (by simp)))
        ⟨by simpa using hlen, fun k hk => by
         cases k with
         | zero => exact hcv
         | succ k => simpa using hall (k+1) (by simpa using hk)⟩
       refine ⟨nx, ?_, e2⟩
       rw [← e1]
       simp only [Deferred.ofValue, Sem.run_bind, Sem.run_pure, Result.andThen_ok, invoke]
       have a1 : (#[] ++ (Value.iface T cv :: vs).toArray : Array Value)[0]? = some (.iface T cv) := by simp
       have a2 : (#[] ++ (Value.iface T cv :: vs).toArray : Array Value).extract 1 (#[] ++ (Value.iface T cv :: vs).toArray : Array Value).size = vs.toArray := by
        apply Array.toList_inj.1; simp
       simp only [a1, a2, hm cv vs.toArray S.w]
       congr 2
       simp
end Go.V
end
section
namespace Go.V
set_option linter.unusedSectionVars false
variable [Inhabited GivT]
variable {α : Type}
/-- What is told of two, where either may be missing. -/
def comb (join : α → α → α) : Option α → Option α → Option α
 | none, y => y
 | some a, none => some a
 | some a, some b => some (join a b)
/-- Of all of a list. -/
def foldJ (join : α → α → α) : List α → Option α
 | [] => none
 | a :: l => comb join (some a) (foldJ join l)
end Go.V
end
section
set_option linter.unusedVariables false
set_option linter.unusedSimpArgs false
namespace Go.V
set_option linter.unusedSectionVars false
/-- The first set of a size, from one on, that suits. -/
def inn (f : Nat → Bool) (z : Nat) : Nat → Nat → Option Nat
 | 0, _ => none
 | n + 1, j => if (decide (pop j = z) && f j) = true then some j else inn f z n (j + 1)
def outF (f : Nat → Bool) (m : Nat) : Nat → Nat → Option Nat
 | 0, _ => none
 | n + 1, z => match inn f z (2 ^ m) 0 with
   | some j => some j
   | none => outF f m n (z + 1)
def fewV (f : Nat → Bool) (m : Nat) : Option Nat := outF f m (m + 1) 0
/-- The last of all sets that are smaller than those before. -/
def bsN (f : Nat → Bool) (b : Nat) : Nat → Nat
 | 0 => b
 | j + 1 => if (decide (pop j < pop (bsN f b j)) && f j) = true then j else bsN f b j
def rset (f : Nat → Bool) (m : Nat) : Option Nat := if f (2 ^ m - 1) = true then some (bsN f (2 ^ m - 1) (2 ^ m)) else none
def setE (e : Int) (r : Option Nat) : Int := if e = 0 then (if r.isSome = true then 0 else 4) else e
def setV (e : Int) (r : Option Nat) : Nat := if setE e r = 0 then r.getD 0 else 0
/-- The least set that suits. -/
structure LeastSet (f : Nat → Bool) (m r : Nat) : Prop where
 lt : r < 2 ^ m
 is : f r = true
 le : ∀ i, i < 2 ^ m → f i = true → pop r < pop i ∨ pop r = pop i ∧ r ≤ i
theorem LeastSet.uniq {f : Nat → Bool} {m r r' : Nat} (h : LeastSet f m r) (h' : LeastSet f m r') : r = r' := by
 have h1 := h.le r' h'.lt h'.is
 have h2 := h'.le r h.lt h.is
 omega
section
variable [Inhabited GivT]
noncomputable def cdec (p : Prop) : Bool := @decide p (Classical.propDecidable p)
noncomputable def filP {α : Type} (p : α → Prop) (l : List α) : List α := l.filter fun a => cdec (p a)
/-- The least number with a property, if there is one. -/
structure MinS (o : Option Int) (S : Int → Prop) : Prop where
 le : ∀ x, S x → ∃ m, o = some m ∧ m ≤ x
 is : ∀ m, o = some m → S m
theorem MinS.uniq {o o' : Option Int} {S : Int → Prop} (h : MinS o S) (h' : MinS o' S) : o = o' := by
 cases ho : o with
 | none =>
   cases ho' : o' with
   | none => rfl
   | some m =>
     obtain ⟨q, hq, _⟩ := h.le m (h'.is m ho')
     rw [ho] at hq; cases hq
 | some m =>
   obtain ⟨q, hq, h1⟩ := h'.le m (h.is m ho)
   obtain ⟨q2, hq2, h2⟩ := h.le q (h'.is q hq)
   rw [ho] at hq2
   cases hq2
   rw [hq]
   congr 1
   omega
theorem MinS.congr {o : Option Int} {S S' : Int → Prop} (h : MinS o S) (e : ∀ x, S x ↔ S' x) : MinS o S' :=
 ⟨fun x hx => h.le x ((e x).2 hx), fun m hm => (e m).1 (h.is m hm)⟩
def mnG {α : Type} (f : α → Int) (L : List α) (d : α) : Nat → α
 | 0 => L.getD 0 d
 | i + 1 => if f (L.getD i d) < f (mnG f L d i) then L.getD i d else mnG f L d i
end
end Go.V
end
section
set_option linter.unusedVariables false
set_option linter.unusedSimpArgs false
namespace Go.V
set_option linter.unusedSectionVars false
variable [Inhabited GivT]
/-- What one cell holds. -/
inductive CK where
 | int (k : IntKind)
 | bool
 | sl (ks : List CK)

/-- The cells of a type. -/
def cellsT (P : Program) : Nat → TypeId → Option (List CK)
 | 0, _ => none
 | d + 1, t => match P.underlying t with
   | some .bool => some [.bool]
   | some (.int k) => some [.int k]
   | some (.slice e) => match cellsT P d e with
     | some ks => if P.cellsOf e = ks.length ∧ 0 < ks.length then some [.sl ks] else none
     | none => none
   | some (.array n e) => match cellsT P d e with
     | some ks => if P.cellsOf e = ks.length ∧ P.cellsOf t = n * ks.length then some ((List.replicate n ks).flatten) else none
     | none => none
   | some (.struct fs) => match fs.toList.foldl (fun acc f => match acc with
    | some ks => match cellsT P d f.type with
      | some l => if f.offset = ks.length ∧ P.cellsOf f.type = l.length then some (ks ++ l) else none
      | none => none
    | none => none) (some []) with
     | some ks => if P.cellsOf t = ks.length then some ks else none
     | none => none
   | _ => none

/-- Such an abstract value. -/
inductive CKA : CK → AV → Prop
 | int {k : IntKind} {z : Int} (h : (Lit.int k z).wf = true) : CKA (.int k) (.lit (.int k z))
 | bool {b : Bool} : CKA .bool (.lit (.bool b))
 | sl {ks : List CK} {n : Nat} {f : Nat → List AV} (hn : n ≤ maxLen) (hl : ∀ i, i < n → (f i).length = ks.length) (h : ∀ i j k, i < n → ks[j]? = some k → CKA k ((f i).getD j .any)) : CKA (.sl ks) (.rsl n ks.length f)

def CellIs (W : World) (k : CK) (v : Value) : Prop := ∃ av, CKA k av ∧ VRel (st0 W) av v
def CellsOk (W : World) (ks : List CK) (cs : List Value) : Prop := cs.length = ks.length ∧ ∀ (i : Nat) (k : CK) (v : Value), ks[i]? = some k → cs[i]? = some v → CellIs W k v

theorem CellsOk.append {W : World} {ks ls : List CK} {cs ds : List Value} (h : CellsOk W ks cs) (h' : CellsOk W ls ds) : CellsOk W (ks ++ ls) (cs ++ ds) := by
 refine ⟨by simp [h.1, h'.1], fun i k v hk hv => ?_⟩
 by_cases hi : i < ks.length
 ·rw [List.getElem?_append_left hi] at hk
  rw [List.getElem?_append_left (by rw [h.1]; exact hi)] at hv
  exact h.2 i k v hk hv
 ·rw [List.getElem?_append_right (by omega)] at hk
  rw [List.getElem?_append_right (by rw [h.1]; omega), h.1] at hv
  exact h'.2 _ k v hk hv

theorem trod_cells {H : Type} {enc : TypeId × Value → H} {P : Program} {W : World} {held : Bool} {sp : Nat → Bool} :
 ∀ (d fuel : Nat) (t : TypeId) (cs : List Value) (x : DataW H × List MemPlace) (ks : List CK), cellsT P d t = some ks → DataW.trod enc P W 0 sp held fuel t cs = some x → CellsOk W ks cs := by
 intro d
 induction d with
 | zero => intro fuel t cs x ks hg; cases hg
 | succ d ih =>
   intro fuel t cs x ks hg h
   cases fuel with
   | zero => cases h
   | succ fuel =>
     unfold cellsT at hg
     unfold DataW.trod at h
     cases hu : P.underlying t with
     | none => rw [hu] at hg; cases hg
     | some td =>
       rw [hu] at hg h
       cases td <;> simp only at hg <;> try (cases hg; done)
       case bool =>
        cases hg
        split at h <;> simp_all
        rename_i b
        exact ⟨rfl, fun i k v hk hv => by cases i <;> simp at hk hv; subst hk hv; exact ⟨_, .bool, .lit _⟩⟩
       case int k =>
        cases hg
        split at h <;> simp_all
        rename_i n hh
        exact ⟨rfl, fun i k v hk hv => by cases i <;> simp at hk hv; subst hk hv; exact ⟨_, .int h.1.2, .lit _⟩⟩
       case array n e =>
        cases hke : cellsT P d e with
        | none => rw [hke] at hg; cases hg
        | some lk =>
          rw [hke] at hg
          simp only at hg
          by_cases hc : P.cellsOf e = lk.length ∧ P.cellsOf t = n * lk.length
          case neg => rw [if_neg hc] at hg; cases hg
          rw [if_pos hc] at hg
          cases hg
          split at h <;> try (simp_all; done)
          case _ n' e' heq =>
           simp only [Option.some.injEq, TypeDesc.array.injEq] at heq
           obtain ⟨rfl, rfl⟩ := heq
           split at h
           case isFalse hl => cases h
           case isTrue hl =>
            rw [Option.map_eq_some_iff] at h
            obtain ⟨ys, hy, rfl⟩ := h
            have key : ∀ (c : List Value), (∀ i, i < n → ∃ y, DataW.trod enc P W 0 sp held fuel e ((c.drop (i * P.cellsOf e)).take (P.cellsOf e)) = some y) → ∀ m, m ≤ n → CellsOk W (List.replicate m lk).flatten (c.take (m * lk.length)) := by
             intro c hcy m
             induction m with
             | zero => intro _; exact ⟨by simp, fun i k v hk => by simp at hk⟩
             | succ m ihm =>
               intro hm
               have h0 := ihm (by omega)
               obtain ⟨y, h2⟩ := hcy m (by omega)
               have h3 := ih fuel e _ y lk hke h2
               rw [hc.1] at h3
               have := h0.append h3
               rw [List.replicate_succ', List.flatten_append, Nat.succ_mul, List.take_add]
               simpa using this
            have := key _ (fun i hi => by
             obtain ⟨y, _, h2⟩ := (mapM_get _ _ hy).2 i i (by simp [hi])
             exact ⟨y, h2⟩) n (Nat.le_refl _)
            rw [List.take_of_length_le (by rw [hl, hc.2]; exact Nat.le_refl _)] at this
            exact this
       case slice e =>
        cases hke : cellsT P d e with
        | none => rw [hke] at hg; cases hg
        | some lk =>
          rw [hke] at hg
          simp only at hg
          by_cases hc : P.cellsOf e = lk.length ∧ 0 < lk.length
          case neg => rw [if_neg hc] at hg; cases hg
          rw [if_pos hc] at hg
          cases hg
          obtain ⟨hsz, hpos⟩ := hc
          split at h <;> try (simp_all; done)
          ·rename_i heq
           refine ⟨rfl, fun i k v hk hv => ?_⟩
           cases i <;> simp at hk hv
           subst hk hv
           exact ⟨.rsl 0 lk.length fun _ => [], .sl (Nat.zero_le _) (fun i hi => by omega) (fun i j k hi => by omega), .rsl0⟩
          ·rename_i e' a len cap heq
           simp only [Option.some.injEq, TypeDesc.slice.injEq] at heq
           subst heq
           simp only at h
           split at h
           case isFalse hl => cases h
           case isTrue hl =>
            rw [Option.bind_eq_some_iff] at h
            obtain ⟨es, he, -⟩ := h
            let g : Nat → List Value := fun i => match W.cells? 0 (a.add (i * P.cellsOf e)) (P.cellsOf e) with
             | some c => c
             | none => []
            have hel : ∀ i, i < len → W.cells? 0 (a.add (i * P.cellsOf e)) (P.cellsOf e) = some (g i) ∧ CellsOk W lk (g i) := by
             intro i hi
             obtain ⟨y, _, hy⟩ := (mapM_get _ _ he).2 i i (by simp [hi])
             rw [Option.bind_eq_some_iff] at hy
             obtain ⟨c, h1, h2⟩ := hy
             have : g i = c := by simp only [g, h1]
             rw [this]
             exact ⟨h1, ih fuel e c y lk hke h2⟩
            -- the abstract cells
            have hch : ∀ i j, ∃ av, i < len → j < lk.length → ∃ k v, lk[j]? = some k ∧ (g i)[j]? = some v ∧ CKA k av ∧ VRel (st0 W) av v := by
             intro i j
             by_cases hi : i < len
             ·by_cases hj : j < lk.length
              ·obtain ⟨l1, l2⟩ := (hel i hi).2
               obtain ⟨av, c1, c2⟩ := l2 j lk[j] (g i)[j] (List.getElem?_eq_getElem hj) (List.getElem?_eq_getElem (by omega))
               exact ⟨av, fun _ _ => ⟨_, _, List.getElem?_eq_getElem hj, List.getElem?_eq_getElem (by omega), c1, c2⟩⟩
              ·exact ⟨.any, fun _ x => absurd x hj⟩
             ·exact ⟨.any, fun x => absurd x hi⟩
            have hf := fun i => Classical.axiomOfChoice (hch i)
            obtain ⟨F, hF⟩ := Classical.axiomOfChoice hf
            have hget : ∀ i j, j < lk.length → ((List.range lk.length).map (F i)).getD j .any = F i j := fun i j hj => by
             rw [List.getD_eq_getElem?_getD, List.getElem?_map, List.getElem?_range hj]; rfl
            refine ⟨rfl, fun i k v hk hv => ?_⟩
            cases i <;> simp at hk hv
            subst hk hv
            refine ⟨.rsl len lk.length fun i => (List.range lk.length).map (F i), .sl (Nat.le_trans hl.2.1 hl.2.2) (fun i hi => by simp) (fun i j k hi hk => ?_), ?_⟩
            ·have hj := (List.getElem?_eq_some_iff.1 hk).1
             rw [hget i j hj]
             obtain ⟨k', v, h1, h2, h3, h4⟩ := hF i j hi hj
             rw [hk] at h1; cases h1
             exact h3
            by_cases h0 : len = 0
            ·subst h0; exact .rsl0
            have hcell : ∀ i j, i < len → j < lk.length → ∃ u, (g i)[j]? = some u ∧ W.cell? ((a.add (i * P.cellsOf e)).add j) = some u := by
             intro i j hi hj
             have h1 := (hel i hi).1
             unfold World.cells? at h1
             rw [if_pos (Nat.zero_le _)] at h1
             exact (mapM_get _ _ h1).2 j j (by simp [hsz, hj])
            obtain ⟨b, off, spot⟩ := a
            obtain ⟨u0, _, hc0⟩ := hcell 0 0 (by omega) hpos
            rw [show ((⟨b, off, spot⟩ : Addr).add (0 * P.cellsOf e)).add 0 = ⟨b, off, spot⟩ from by simp [Addr.add]] at hc0
            unfold World.cell? at hc0
            split at hc0
            case h_2 => cases hc0
            case h_1 c ct fz hb =>
             have hspot : spot = none := by
              cases spot with
              | none => rfl
              | some s => simp at hc0
             subst hspot
             have hadd : ∀ i j, (((⟨b, off, none⟩ : Addr).add (i * P.cellsOf e)).add j) = ⟨b, off + i * P.cellsOf e + j, none⟩ := fun i j => by rw [addr_add, addr_add]
             have hall : ∀ i j, i < len → j < lk.length → ∃ u, (g i)[j]? = some u ∧ c[off + i * lk.length + j]? = some u := by
              intro i j hi hj
              obtain ⟨u, h1, h2⟩ := hcell i j hi hj
              rw [hadd] at h2
              unfold World.cell? at h2
              simp only at hb
              rw [show W.heap[(⟨b, off + i * P.cellsOf e + j, none⟩ : Addr).block]? = some (.cells c ct fz) from hb] at h2
              simp only [Option.isSome_none, Bool.false_eq_true, if_false, hsz] at h2
              exact ⟨u, h1, h2⟩
             refine .rsl (c := c) (e := ct) (fz := fz) ?_ hb ?_ (fun i hi => by simp) (fun i j hi hj => ?_) hl.2.1
             ·exact (Array.getElem?_eq_some_iff.1 hb).1
             ·obtain ⟨u, _, h2⟩ := hall (len - 1) (lk.length - 1) (by omega) (by omega)
              have := (Array.getElem?_eq_some_iff.1 h2).1
              have e1 : len * lk.length = (len - 1) * lk.length + lk.length := by
               obtain ⟨q, rfl⟩ : ∃ q, len = q + 1 := ⟨len - 1, by omega⟩
               rw [Nat.add_sub_cancel, Nat.succ_mul]
              omega
             ·obtain ⟨u, h1, h2⟩ := hall i j hi hj
              obtain ⟨k', v, q1, q2, q3, q4⟩ := hF i j hi hj
              rw [h1] at q2; cases q2
              rw [hget i j hj, Array.getD_eq_getD_getElem?, h2]
              exact q4
       case struct fs =>
        split at h <;> try (simp_all; done)
        case _ fs' heq =>
         simp only [Option.some.injEq, TypeDesc.struct.injEq] at heq
         subst heq
         split at h
         case isFalse hl => cases h
         case isTrue hl =>
          rw [Option.map_eq_some_iff] at h
          obtain ⟨ys, hy, rfl⟩ := h
          have key : ∀ (c : List Value) (l : List Field) (acc ks : List CK), (∀ f ∈ l, ∃ y, DataW.trod enc P W 0 sp held fuel f.type ((c.drop f.offset).take (P.cellsOf f.type)) = some y) → CellsOk W acc (c.take acc.length) →
           l.foldl (fun acc f => match acc with
            | some ks => match cellsT P d f.type with
              | some l => if f.offset = ks.length ∧ P.cellsOf f.type = l.length then some (ks ++ l) else none
              | none => none
            | none => none) (some acc) = some ks → CellsOk W ks (c.take ks.length) := by
           intro c l
           induction l with
           | nil => intro acc ks _ ha he; simp at he; subst he; exact ha
           | cons f l ih2 =>
             intro acc ks hf ha he
             simp only [List.foldl_cons] at he
             have hnone : ∀ l : List Field, l.foldl (fun acc f => match acc with
              | some ks => match cellsT P d f.type with
                | some l => if f.offset = ks.length ∧ P.cellsOf f.type = l.length then some (ks ++ l) else none
                | none => none
              | none => none) none = (none : Option (List CK)) := by
              intro l; induction l with
              | nil => rfl
              | cons a l ih => simpa using ih
             cases hl2 : cellsT P d f.type with
             | none => rw [hl2] at he; simp only at he; rw [hnone] at he; cases he
             | some lk =>
               rw [hl2] at he
               simp only at he
               by_cases hc : f.offset = acc.length ∧ P.cellsOf f.type = lk.length
               ·rw [if_pos hc] at he
                obtain ⟨y, hy⟩ := hf f (by simp)
                have := ih fuel f.type _ y lk hl2 hy
                rw [hc.1, hc.2] at this
                have hap := ha.append this
                refine ih2 (acc ++ lk) ks (fun g hg => hf g (by simp [hg])) ?_ he
                rw [List.length_append, List.take_add]
                exact hap
               ·rw [if_neg hc, hnone] at he; cases he
          split at hg
          case h_2 => cases hg
          case h_1 ks' he =>
           split at hg
           case isFalse => cases hg
           case isTrue hc =>
            cases hg
            have := key _ fs.toList [] ks (fun f hf => by
             obtain ⟨i, hi⟩ := List.getElem?_of_mem hf
             obtain ⟨y, _, h2⟩ := (mapM_get _ _ hy).2 i f hi
             exact ⟨y, h2⟩) ⟨by simp, fun i k v hk => by simp at hk⟩ he
            rw [List.take_of_length_le (by rw [hl, hc]; exact Nat.le_refl _)] at this
            exact this

end Go.V
end
section
set_option linter.unusedVariables false
set_option linter.unusedSimpArgs false
namespace Go.V
set_option linter.unusedSectionVars false
variable [Inhabited GivT]
open Go.ChangeShapes
theorem AV.Le.rslD {n st : Nat} {f g : Nat → List AV} (h : ∀ i, i < n → (g i).length = st ∧ ∀ j, j < st → AV.Le ((f i).getD j .any) ((g i).getD j .any)) : AV.Le (.rsl n st f) (.rsl n st g) := by
 intro S v hv
 cases hv with
 | rsl0 => exact .rsl0
 | rsl hi hb hsz hf hh hcap => exact .rsl hi hb hsz (fun i hi => (h i hi).1) (fun i j hi hj => (h i hi).2 j hj _ _ (hh i j hi hj)) hcap
theorem AV.Le.aggD {cs ds : List AV} (hl : ds.length = cs.length) (h : ∀ j, j < cs.length → AV.Le (cs.getD j .any) (ds.getD j .any)) : AV.Le (.agg cs) (.agg ds) := by
 intro S v hv
 cases hv with
 | agg hn hh => exact .agg (hn.trans hl.symm) fun k hk => h k (by omega) _ _ (hh k (by omega))

/-- Cells that are told. -/
def Told (ks : List CK) (cs : List AV) : Prop := cs.length = ks.length ∧ ∀ j k, ks[j]? = some k → CKA k (cs.getD j .any)

/-- A struct that is handed in. -/
theorem trod_agg {H : Type} {enc : TypeId × Value → H} {P : Program} {W : World} {held : Bool} {sp : Nat → Bool} {t dd : Nat} {v : Value} {d : DataW H} {ps : List MemPlace} {ks : List CK}
 (hk : cellsT P dd t = some ks) (hn : 2 ≤ ks.length) (h : DataW.Trod enc P W 0 sp held t v d ps) : ∃ cs : List AV, Told ks cs ∧ VRel (st0 W) (.agg cs) v := by
 obtain ⟨fuel, h⟩ := h
 obtain ⟨hl, hz⟩ := trod_cells dd fuel t _ _ ks hk h
 cases v with
 | agg vs =>
   simp only [Value.cells] at hl hz
   have hl2 : vs.size = ks.length := by simpa using hl
   have hch : ∀ j : Nat, ∃ av : AV, ∀ (k : CK) (u : Value), ks[j]? = some k → vs[j]? = some u → CKA k av ∧ VRel (st0 W) av u := fun j => by
    cases hkj : ks[j]? with
    | none => exact ⟨.any, fun k u h => by cases h⟩
    | some k =>
      cases hvj : vs[j]? with
      | none => exact ⟨.any, fun k u _ h => by cases h⟩
      | some u =>
        obtain ⟨av, h1, h2⟩ := hz j k u hkj (by simpa using hvj)
        exact ⟨av, fun k' u' e1 e2 => by cases e1; cases e2; exact ⟨h1, h2⟩⟩
   obtain ⟨F, hF⟩ := Classical.axiomOfChoice hch
   have hget : ∀ j, j < ks.length → ((List.range ks.length).map F).getD j .any = F j := fun j hj => by
    rw [List.getD_eq_getElem?_getD, List.getElem?_map, List.getElem?_range hj]; rfl
   refine ⟨(List.range ks.length).map F, ⟨by simp, fun j k hk => ?_⟩, .agg (by simpa using hl2) fun j hj => ?_⟩
   ·have hj := (List.getElem?_eq_some_iff.1 hk).1
    rw [hget j hj]
    exact (hF j k vs[j] hk (by simp [show j < vs.size by omega])).1
   ·have hj : j < ks.length := by simpa using hj
    rw [hget j hj, Array.getD_eq_getD_getElem?, Array.getElem?_eq_getElem (by omega)]
    exact (hF j ks[j] vs[j] (List.getElem?_eq_getElem hj) (by simp [show j < vs.size by omega])).2
 | _ => simp [Value.cells] at hl; omega
/-- A slice of what can be told. -/
theorem told_slice {α : Type} {ks : List CK} (en : α → List AV) (d0 : α) (hd : ∀ cs, Told ks cs → ∃ x : α, (en x).length = ks.length ∧ ∀ j, j < ks.length → AV.Le (cs.getD j .any) ((en x).getD j .any)) {av : AV} (h : CKA (.sl ks) av) :
 ∃ l : List α, l.length ≤ maxLen ∧ AV.Le av (.rsl l.length ks.length fun i => en (l.getD i d0)) := by
 cases h with
 | @sl _ n f hn hl hh =>
   have hch : ∀ i, ∃ x : α, i < n → (en x).length = ks.length ∧ ∀ j, j < ks.length → AV.Le ((f i).getD j .any) ((en x).getD j .any) := fun i => by
    by_cases hi : i < n
    ·obtain ⟨x, h1⟩ := hd (f i) ⟨hl i hi, fun j k hk => hh i j k hi hk⟩
     exact ⟨x, fun _ => h1⟩
    ·exact ⟨d0, fun x => absurd x hi⟩
   obtain ⟨F, hF⟩ := Classical.axiomOfChoice hch
   refine ⟨(List.range n).map F, by simpa using hn, ?_⟩
   rw [List.length_map, List.length_range]
   refine AV.Le.rslD fun i hi => ?_
   have e : ((List.range n).map F).getD i d0 = F i := by
    rw [List.getD_eq_getElem?_getD, List.getElem?_map, List.getElem?_range hi]; rfl
   rw [e]
   exact hF i hi
theorem told_int {cs : List AV} {k : IntKind} (j : Nat) {ks : List CK} (h : Told ks cs) (hk : ks[j]? = some (.int k)) : ∃ z : Int, cs.getD j .any = .lit (.int k z) ∧ (Lit.int k z).wf = true := by
 have := h.2 j _ hk
 generalize cs.getD j .any = x at *
 cases this with
 | int hw => exact ⟨_, rfl, hw⟩
end Go.V
end
section
set_option linter.unusedVariables false
set_option linter.unusedSimpArgs false
namespace Go.V
set_option linter.unusedSectionVars false
variable [Inhabited GivT]
theorem tri_bound {P : Program} {f : FuncId} {recv : AV} {args : List AV} {H : Hp} {R : Res → Hp → Prop} (h : Tri P (fnA f) (recv :: args) H R) :
 Tri P (.func (.func f) [recv] []) args H R := by
 intro S vf vs hH hvf ha
 cases hvf with
 | @func _ _ _ ws us hn hu h1 h2 =>
   have hw : ∃ x, ws = #[x] := by
    have : ws.size = 1 := by simpa using hn
    exact ⟨ws[0], Array.ext (by simp [this]) (fun i h1 h2 => by
     have : i = 0 := by simp at h2; omega
     subst this; rfl)⟩
   obtain ⟨x, rfl⟩ := hw
   have hus : us = #[] := by simpa using hu
   subst hus
   have hx := h1 0 (by simp)
   simp only [List.getD_cons_zero] at hx
   have hx' : VRel S recv x := by simpa [Array.getD_eq_getD_getElem?] using hx
   obtain ⟨nx, e1, e2⟩ := h S (.func (.func f) #[] #[]) (x :: vs) hH (.func rfl rfl (fun k hk => absurd hk (by simp)) (fun k hk => absurd hk (by simp)))
    ⟨by simp [ha.1], fun k hk => by
     cases k with
     | zero => exact hx'
     | succ k => simpa using ha.2 k (by simpa using hk)⟩
   refine ⟨nx, ?_, e2⟩
   rw [← e1]
   simp only [Deferred.ofValue, Sem.run_bind, Sem.run_pure, Result.andThen_ok, invoke]
   simp
end Go.V
end
section
set_option linter.unusedVariables false
set_option linter.unusedSimpArgs false
namespace Go.V
set_option linter.unusedSectionVars false
variable [Inhabited GivT]
theorem mapM_all {α β : Type} {f : α → Option β} {g : α → β} : ∀ {l : List α}, (∀ a ∈ l, f a = some (g a)) → l.mapM f = some (l.map g)
 | [], _ => rfl
 | a :: l, h => by
   rw [List.mapM_cons, h a (by simp), mapM_all (fun b hb => h b (by simp [hb]))]; rfl

def keyJ (P : Program) : Nat → TypeId → Option Nat
 | 0, _ => none
 | d + 1, T => match P.underlying T with
   | some (.int .i64) => if P.cellsOf T = 1 then some 1 else none
   | some (.array n e) => match d, P.underlying e with
     | _ + 1, some (.int .i64) => if P.cellsOf e = 1 ∧ P.cellsOf T = n then some n else none
     | _, _ => none
   | some (.struct fs) => match keyFs P (keyJ P d) fs.toList 0 with
     | some n => if P.cellsOf T = n then some n else none
     | none => none
   | _ => none

theorem keyJ_spec {P : Program} : ∀ (d : Nat) (T n : Nat), keyJ P d T = some n → P.cellsOf T = n ∧
 ∀ D, d ≤ D → ∀ l : List Int, l.length = n → (∀ x ∈ l, (Lit.int .i64 x).wf = true) → P.keyLits D T (l.map (Value.int .i64)) = some (l.map (Lit.int .i64))
 | 0, _, _, h => by simp [keyJ] at h
 | d + 1, T, n, h => by
   simp only [keyJ] at h
   split at h
   case h_4 => cases h
   case h_1 hu =>
    split at h
    case isFalse => cases h
    case isTrue hc =>
     cases h
     refine ⟨hc, fun D hD l hl hw => ?_⟩
     obtain ⟨D', rfl⟩ : ∃ D', D = D' + 1 := ⟨D - 1, by omega⟩
     match l, hl with
     | [a], _ =>
       have := hw a (by simp)
       simp [Program.keyLits, hu, this]
   case h_2 m e hu =>
    split at h
    case h_2 => cases h
    case h_1 hd he =>
     split at h
     case isFalse => cases h
     case isTrue hc =>
      cases h
      refine ⟨hc.2, fun D hD l hl hw => ?_⟩
      obtain ⟨D', rfl⟩ : ∃ D', D = D' + 2 := ⟨D - 2, by omega⟩
      subst hl
      have key : ∀ i ∈ List.range l.length, P.keyLits (D' + 1) e (((l.map (Value.int .i64)).drop (i * P.cellsOf e)).take (P.cellsOf e)) = some [Lit.int .i64 (l.getD i 0)] := fun i hi => by
       rw [List.mem_range] at hi
       have e1 : ((l.map (Value.int .i64)).drop (i * P.cellsOf e)).take (P.cellsOf e) = [Value.int .i64 (l.getD i 0)] := by
        rw [hc.1, Nat.mul_one, List.drop_eq_getElem_cons (by simpa using hi)]
        simp [List.getD, hi]
       have hm : l.getD i 0 ∈ l := by simp [List.getD, hi]
       rw [e1]
       have hw2 := hw _ hm
       unfold Program.keyLits
       simp only [he, hw2, and_self, if_true]
      rw [Program.keyLits]
      rotate_left 3
      ·exact hu
      simp only [List.length_map, hc.2, if_true]
      rw [mapM_all key, Option.map_some]
      congr 1
      have : ∀ l : List Int, ((List.range l.length).map fun i => [Lit.int .i64 (l.getD i 0)]).flatten = l.map (Lit.int .i64) := fun l => by
       rw [← List.flatMap_def]
       apply List.ext_getElem?
       intro j
       induction l generalizing j with
       | nil => simp
       | cons a l ih =>
         rw [List.length_cons, List.range_succ_eq_map, List.flatMap_cons, List.flatMap_map]
         cases j with
         | zero => simp
         | succ j => simpa using ih j
      exact this l
   case h_3 fs hu =>
    split at h
    case h_2 => cases h
    case h_1 n' hk =>
     split at h
     case isFalse => cases h
     case isTrue hc =>
      cases h
      refine ⟨hc, fun D hD l hl hw => ?_⟩
      obtain ⟨D', rfl⟩ : ∃ D', D = D' + 1 := ⟨D - 1, by omega⟩
      subst hl
      obtain ⟨hn, Ls, hm, hfl⟩ := keyFs_spec (P := P) (D := D') (g := keyJ P d) (l := l) (fun T n hT => by
       obtain ⟨g1, g2⟩ := keyJ_spec d T n hT
       refine ⟨g1, fun o ho => ?_⟩
       have := g2 D' (by omega) ((l.drop o).take n) (by simp; omega) (fun x hx => hw x (List.mem_of_mem_drop (List.mem_of_mem_take hx)))
       rw [← this, List.map_take, List.map_drop]) fs.toList 0 hk (by omega)
      have hall : fs.all (fun f => f.name != "_") = true := by
       rw [Array.all_eq_true_iff_forall_mem]
       intro f hf
       have := hn f (by simpa using hf)
       simpa using this
      simp only [Program.keyLits, hu, List.length_map, hc, hall, true_and, if_true, hm, Option.map_some, hfl, List.drop_zero]

end Go.V
end
section
set_option linter.unusedVariables false
set_option linter.unusedSimpArgs false
namespace Go.V
set_option linter.unusedSectionVars false
variable [Inhabited GivT]
/-- The same value, with some leaves told otherwise. -/
inductive FrzX (L : AV → AV → Prop) : AV → AV → Prop
 | same (x : AV) : FrzX L x x
 | leaf {x y : AV} (h : L x y) : FrzX L x y
 | agg {cs cs' : List AV} (hl : cs'.length = cs.length) (h : ∀ k, k < cs.length → FrzX L (cs.getD k .any) (cs'.getD k .any)) : FrzX L (.agg cs) (.agg cs')
 | tuple {cs cs' : List AV} (hl : cs'.length = cs.length) (h : ∀ k, k < cs.length → FrzX L (cs.getD k .any) (cs'.getD k .any)) : FrzX L (.tuple cs) (.tuple cs')
 | rptr {n st i j : Nat} {f g : Nat → List AV} (hl : ∀ k, k < n → (f k).length = st → (g k).length = st) (h : ∀ k l, k < n → l < st → FrzX L ((f k).getD l .any) ((g k).getD l .any)) : FrzX L (.rptr n st f i j) (.rptr n st g i j)
 | func {fn : Fn} {a b a' b' : List AV} (hl : a'.length = a.length) (hm : b'.length = b.length) (h : ∀ k, k < a.length → FrzX L (a.getD k .any) (a'.getD k .any)) (h' : ∀ k, k < b.length → FrzX L (b.getD k .any) (b'.getD k .any)) : FrzX L (.func fn a b) (.func fn a' b')

theorem FrzX.conv {L : AV → AV → Prop} {S S2 : St} (hle : Le S S2) (hc : ∀ x y, L x y → ∀ v, VRel S x v → VRel S2 y v) {x y : AV} (hxy : FrzX L x y) : ∀ v, VRel S x v → VRel S2 y v := by
 induction hxy with
 | same x => intro v hv; exact hv.mono hle
 | leaf h => intro v hv; exact hc _ _ h v hv
 | agg hl h ih =>
   intro v hv
   cases hv with
   | agg hn hv => exact .agg (hn.trans hl.symm) fun k hk => ih k (by omega) _ (hv k (by omega))
 | tuple hl h ih =>
   intro v hv
   cases hv with
   | tuple hn hv => exact .tuple (hn.trans hl.symm) fun k hk => ih k (by omega) _ (hv k (by omega))
 | @rptr n st i j f g hl h ih =>
   intro v hv
   cases hv with
   | rptr hi hb hsz hf hh =>
     exact .rptr (hle.imm _ hi) ((hle.keep _ hi).trans hb) hsz (fun k hk => hl k hk (hf k hk)) (fun k l hk hl2 => ih k l hk hl2 _ (hh k l hk hl2))
 | func hl hm h h' ih ih' =>
   intro v hv
   cases hv with
   | func hn hn' h1 h2 => exact .func (hn.trans hl.symm) (hn'.trans hm.symm) (fun k hk => ih k (by omega) _ (h1 k (by omega))) (fun k hk => ih' k (by omega) _ (h2 k (by omega)))

def Lb (id st n : Nat) (f : Nat → List AV) (x y : AV) : Prop := ∃ i j, x = .ref id 0 st i j ∧ y = .rptr n st f i j
def Lr (id st n : Nat) (f : Nat → List AV) (x y : AV) : Prop := x = .sl id st n ∧ ∃ g, (∀ i, i < n → f i = g i) ∧ y = .rsl n st g

end Go.V
end
section
set_option linter.unusedVariables false
set_option linter.unusedSimpArgs false
namespace Go.V
set_option linter.unusedSectionVars false
variable [Inhabited GivT]
theorem Ent.step {s : Fr} {ds : List AD} {H : Hp} {K : Fr → List AD → Hp → Prop} (h : Ent s ds H fun s ds H => Ent s ds H K) : Ent s ds H K := Ent.bind h fun _ _ _ h => h
end Go.V
end
section
set_option linter.unusedVariables false
namespace Go.V
set_option linter.unusedSectionVars false
variable [Inhabited GivT]
/-- l is an order of all operations that are not in 'done', each behind what B puts ahead of it. -/
structure TopoB (ops : Array Oper) (B : Nat → Nat → Bool) (done : Nat → Prop) (l : List Nat) : Prop where
 lt : ∀ i ∈ l, i < ops.size
 nodup : l.Nodup
 apart : ∀ i ∈ l, ¬ done i
 all : ∀ i, i < ops.size → done i ∨ i ∈ l
 edges : ∀ l1 i l2, l = l1 ++ i :: l2 → ∀ k, B i k = true → done k ∨ k ∈ l1
theorem TopoB.tail {ops : Array Oper} {B : Nat → Nat → Bool} {done : Nat → Prop} {i : Nat} {l : List Nat} (h : TopoB ops B done (i :: l)) : TopoB ops B (fun j => done j ∨ j = i) l where
 lt := fun j hj => h.lt j (by simp [hj])
 nodup := (List.nodup_cons.1 h.nodup).2
 apart := fun j hj hd => by
  rcases hd with hd | rfl
  ·exact h.apart j (by simp [hj]) hd
  ·exact (List.nodup_cons.1 h.nodup).1 hj
 all := fun j hj => by
  rcases h.all j hj with hd | hm
  ·exact .inl (.inl hd)
  ·rcases List.mem_cons.1 hm with rfl | hm
   ·exact .inl (.inr rfl)
   ·exact .inr hm
 edges := fun l1 j l2 hl k hb => by
  rcases h.edges (i :: l1) j l2 (by rw [hl]; rfl) k hb with hd | hm
  ·exact .inl (.inl hd)
  ·rcases List.mem_cons.1 hm with hm | hm
   ·exact .inl (.inr hm)
   ·exact .inr hm
theorem TopoB.head {ops : Array Oper} {B : Nat → Nat → Bool} {done : Nat → Prop} {i k : Nat} {l : List Nat} (h : TopoB ops B done (i :: l)) (hb : B i k = true) : done k := by
 rcases h.edges [] i l rfl k hb with hd | hm
 ·exact hd
 ·simp at hm

structure Plan3 (ops : Array Oper) (B : Nat → Nat → Bool) (sg : Nat → Nat) (stages : List Stg) (last : List Nat) : Prop where
 ssa : ∀ i k, i < ops.size → k < ops.size → ∀ d, (opAt ops.toList k).dst = some d → (d ∈ readsOf ops.toList (opAt ops.toList i) → B i k = true ∨ (B k i = true ∧ sg k % 2 = 1)) ∧ (k ≠ i → (opAt ops.toList i).dst ≠ some d)
 st : ∀ j st kp e, stages[j]? = some (st, kp, e) → st = (List.range ops.size).filter (fun i => sg i == 2 * j) ∧ e < ops.size ∧ (∀ i, i < ops.size → (sg i = 2 * j + 1 ↔ i = e)) ∧
  (∀ i, i < ops.size → 2 * j + 2 ≤ sg i → B i e = true) ∧
  (∀ i, i < ops.size → sg i % 2 = 0 → sg i ≤ 2 * j → B e i = true ∨ heapFree (opAt ops.toList i).op = true ∨ i ∈ kp)
 last : last = (List.range ops.size).filter (fun i => sg i == 2 * stages.length)
 le : ∀ i, i < ops.size → sg i ≤ 2 * stages.length
 ord : ∀ i k, i < ops.size → k < ops.size → B i k = true → sg k ≤ sg i
 lt : ∀ i k, i < ops.size → k < ops.size → B i k = true → sg i = sg k → sg i % 2 = 0 → k < i

/-- What the quiet operations of a stage give. -/
theorem stage_facts3 {r : Option Nat} {P : Program} {n : Nat} {ops : Array Oper} {B : Nat → Nat → Bool} {sg : Nat → Nat} {stages : List Stg} {last : List Nat} (pl : Plan3 ops B sg stages last) {H : Hp} {c : Nat} {s : Fr} {K : Fr → Prop}
 (hev : c % 2 = 0) (h : vcQ P n ops.toList H (pickO ops.toList ((List.range ops.size).filter fun i => sg i == c)) s K) :
 ∃ sF, K sF ∧ (∀ t, (∀ i, i < ops.size → sg i = c → (opAt ops.toList i).dst ≠ some t) → sF t = s t) ∧ ∀ i, i < ops.size → sg i = c → QF r P n ops.toList H sF (opAt ops.toList i) := by
 have hpw : ((List.range ops.size).filter fun i => sg i == c).Pairwise (· < ·) := List.Pairwise.filter _ List.pairwise_lt_range
 have hmem : ∀ k, k ∈ ((List.range ops.size).filter fun i => sg i == c) ↔ k < ops.size ∧ sg k = c := fun k => by simp
 obtain ⟨sF, k1, k2, k3⟩ := vcQ_facts2 (r := r) (readsOf ops.toList) (fun _ => rfl) _ s K (by
  intro i o ho k o' hik ho' d hd
  obtain ⟨x, hx, rfl⟩ := pickO_get ho
  obtain ⟨y, hy, rfl⟩ := pickO_get ho'
  obtain ⟨hx1, hx2⟩ := (hmem x).1 (List.mem_of_getElem? hx)
  obtain ⟨hy1, hy2⟩ := (hmem y).1 (List.mem_of_getElem? hy)
  have hle : x ≤ y ∧ (i < k → x < y) := by
   obtain ⟨hil, hxe⟩ := List.getElem?_eq_some_iff.1 hx
   obtain ⟨hkl, hye⟩ := List.getElem?_eq_some_iff.1 hy
   have hlt : i < k → x < y := fun hlt => by
    have := List.pairwise_iff_getElem.1 hpw i k hil hkl hlt
    rw [hxe, hye] at this; exact this
   refine ⟨?_, hlt⟩
   rcases Nat.lt_or_ge i k with hl | hl
   ·have := hlt hl; omega
   ·have e : i = k := by omega
    subst e
    rw [hx] at hy; cases hy; exact Nat.le_refl _
  obtain ⟨g1, g2⟩ := pl.ssa x y hx1 hy1 d hd
  refine ⟨fun hm => ?_, fun hlt => g2 (by have := hle.2 hlt; omega)⟩
  rcases g1 hm with g1 | ⟨_, g1⟩
  ·have := pl.lt x y hx1 hy1 g1 (by omega) (by omega)
   omega
  ·omega) h
 refine ⟨sF, k1, fun t ht => k2 t fun o ho => ?_, fun i hi hs => k3 _ ?_⟩
 ·obtain ⟨k, hk, rfl⟩ := pickO_mem ho
  obtain ⟨a, b⟩ := (hmem k).1 hk
  exact ht k a b
 ·exact List.mem_map.2 ⟨i, (hmem i).2 ⟨hi, hs⟩, rfl⟩

theorem draw_run3 {r : Option Nat} {P : Program} {mm : Option Tmp → Bool} {n : Nat} {ops : Array Oper} {B : Nat → Nat → Bool} {Q : Post} {sg : Nat → Nat} {stages : List Stg} {last : List Nat} (pl : Plan3 ops B sg stages last)
 (hr : r = none ∨ ops.toList.all (fun o => quietOk o.op) = true) :
 ∀ (l : List Nat) (done : Nat → Prop) (j : Nat) (s : Fr) (ds : List AD) (H : Hp) (S : St) (a : Act), TopoB ops B done l →
   (∀ i, i < ops.size → done i → sg i ≤ 2 * j) → (∀ i, i < ops.size → sg i % 2 = 1 → sg i < 2 * j → done i) →
   (∀ i, i < ops.size → sg i % 2 = 0 → sg i ≤ 2 * j → ¬ done i → QF r P n ops.toList H s (opAt ops.toList i)) →
   vcD' P mm n ops.toList (preOf stages j) (stages.drop j) last s ds H Q →
   a.tmps.size = n → HRel S H → DRel S ds a.defers → PFrame2 S ops sg j done s a → wpOpsIn (FW r) 0 P ops (Lift S n Q) l a S.w := by
 intro l
 induction l with
 | nil =>
   intro done j s ds H S a ht I1 I2 hfact hv hsz hH hD hP
   have hall : ∀ i, i < ops.size → done i := fun i hi => (ht.all i hi).resolve_right (by simp)
   have hj : stages.length ≤ j := by
    rcases Nat.lt_or_ge j stages.length with hlt | hge
    ·rcases hx : stages[j] with ⟨st, kp, e⟩
     have hs : stages[j]? = some (st, kp, e) := by rw [List.getElem?_eq_getElem hlt, hx]
     obtain ⟨_, g2, g3, _⟩ := pl.st j st kp e hs
     have := I1 e g2 (hall e g2)
     have := (g3 e g2).2 rfl
     omega
    ·exact hge
   have hF : FRel S s a := fun t => by
    rcases hP t with ⟨k, hk, _, hnd, _⟩ | h
    ·exact absurd (hall k hk) hnd
    ·exact h
   rw [List.drop_eq_nil_of_le hj] at hv
   exact ⟨S, .normal, s, ds, H, rfl, Le.refl S, hH, hF, hD, hsz, trivial, hv⟩
 | cons i l ih =>
   intro done j s ds H S a ht I1 I2 hfact hv hsz hH hD hP
   have hi := ht.lt i (by simp)
   have hni : ¬ done i := ht.apart i (by simp)
   have ho := opAt_get hi
   have hread : ∀ t, t ∈ readsOf ops.toList (opAt ops.toList i) → VRel S (s t) (a.tmps.getD t undef) := by
    intro t htr
    rcases hP t with ⟨k, hk, hkq, hnd, hd⟩ | h
    ·rcases (pl.ssa i k hi hk t hd).1 htr with g | ⟨_, g⟩
     ·exact absurd (ht.head g) hnd
     ·omega
    ·exact h
   have hops : ∀ x ∈ (opAt ops.toList i).op.operands.toList, VRel S (opA s x) (a.eval x) := by
    intro x hx
    cases x with
    | tmp t => exact hread t (mem_reads_op hx)
    | const v => exact .lit v
    | global g => exact .any _
    | func f => exact .func rfl rfl (fun k hk => absurd hk (by simp)) (fun k hk => absurd hk (by simp))
   by_cases hev : sg i % 2 = 0
   ·-- a quiet operation
    have hle : sg i ≤ 2 * j := by
     apply Classical.byContradiction
     intro hgt
     have := pl.le i hi
     have hlt : j < stages.length := by omega
     rcases hx : stages[j] with ⟨st, kp, e⟩
     have hs : stages[j]? = some (st, kp, e) := by rw [List.getElem?_eq_getElem hlt, hx]
     obtain ⟨_, g2, g3, g4, _⟩ := pl.st j st kp e hs
     have hde := ht.head (g4 i hi (by omega))
     have := I1 e g2 hde
     have := (g3 e g2).2 rfl
     omega
    obtain ⟨hd, v, hv', hg⟩ := (hfact i hi hev hle hni).fact
    have ih' : ∀ (S' : St) (cv : Value), Le S S' → HRel S' H → VRel S' v cv → wpOpsIn (FW r) 0 P ops (Lift S n Q) l (a.put (opAt ops.toList i).dst cv) S'.w := by
     intro S' cv hle' hH' hvr
     refine lift_wpOpsIn hle' l _ _ (ih (fun j => done j ∨ j = i) j s ds H S' _ ht.tail ?_ (fun x hx ho hl => .inl (I2 x hx ho hl)) ?_ hv ?_ hH' ?_ ?_)
     ·rintro x hx (hd | rfl)
      ·exact I1 x hx hd
      ·exact hle
     ·intro x hx he hl hnd
      exact hfact x hx he hl fun h => hnd (.inl h)
     ·have := put_size (a := a) (d := (opAt ops.toList i).dst) (cv := cv) (df := a.defers)
      exact this.trans hsz
     ·have := put_defers (a := a) (d := (opAt ops.toList i).dst) (cv := cv) (df := a.defers)
      have e : (a.put (opAt ops.toList i).dst cv).defers = a.defers := this
      rw [e]; exact hD.mono hle'
     ·intro t
      by_cases hdt : (opAt ops.toList i).dst = some t
      ·right
       rw [hv' t hdt]
       have ht' : t < a.tmps.size := by rw [hsz]; rw [hdt] at hd; exact hd
       rw [hdt]
       have := put_getD_same (a := a) (t := t) (cv := cv) (df := a.defers) ht'
       rw [show (a.put (some t) cv).tmps.getD t undef = cv from this]
       exact hvr
      ·rcases hP t with ⟨k, hk, hkq, hnd, hd'⟩ | h
       ·left
        refine ⟨k, hk, hkq, ?_, hd'⟩
        rintro (hx | rfl)
        ·exact hnd hx
        ·exact hdt hd'
       ·right
        rw [put_getD' hdt]
        exact h.mono hle'
    simp only [wpOpsIn, ho]
    generalize opAt ops.toList i = o at *
    cases hgd : o.guard with
    | none =>
      rw [hgd] at hg
      simp only [Region.wanted, hgd, if_true]
      exact hg S a _ _ hH hops ih'
    | some jw =>
      obtain ⟨jj, w⟩ := jw
      rw [hgd] at hg
      obtain ⟨b, v0, hb, rfl, hex⟩ := hg
      have hwant : Region.wanted o (yielded ops a.tmps) = b := wanted_rel hgd (fun q d hq hd' => hread d (mem_reads_guard hgd hq hd')) hb
      rw [hwant]
      cases hwb : b with
      | false =>
        simp only [Bool.false_eq_true, if_false]
        exact ⟨fun _ _ => trivial, ih' S undef (Le.refl S) hH (.under (fun x => by rw [hwb] at x; cases x) fun _ => rfl)⟩
      | true =>
        simp only [if_true]
        exact hex hwb S a _ _ hH hops fun S' cv hle hH' hvr => ih' S' cv hle hH' (.under (fun _ => hvr) fun x => by rw [hwb] at x; cases x)
   ·-- an effect
    have hlow : 2 * j < sg i := by
     apply Classical.byContradiction
     intro h
     exact hni (I2 i hi (by omega) (by omega))
    have hlt : j < stages.length := by have := pl.le i hi; omega
    rcases hx : stages[j] with ⟨st, kp, e⟩
    have hs : stages[j]? = some (st, kp, e) := by rw [List.getElem?_eq_getElem hlt, hx]
    obtain ⟨_, g2, g3, g4, g5⟩ := pl.st j st kp e hs
    have hsi : sg i = 2 * j + 1 := by
     apply Classical.byContradiction
     intro h
     have hde := ht.head (g4 i hi (by omega))
     have := I1 e g2 hde
     have := (g3 e g2).2 rfl
     omega
    have hei : i = e := (g3 i hi).1 hsi
    subst hei
    have hdrop : stages.drop j = (st, kp, i) :: stages.drop (j + 1) := by
     rw [List.drop_eq_getElem_cons hlt, hx]
    rw [hdrop] at hv
    obtain ⟨hd, hgn, heff⟩ := hv
    have hq : r = none ∨ ∀ c, (opAt ops.toList i).op ≠ .defer c := hr.imp (fun x => x) fun hall c e => by
     have hm : opAt ops.toList i ∈ ops.toList := List.mem_of_getElem? (i := i) (by simpa using ho)
     have := List.all_eq_true.1 hall _ hm
     rw [e] at this; cases this
    have hnext : hdS (stages.drop (j + 1)) last = (List.range ops.size).filter fun x => sg x == 2 * (j + 1) := by
     rcases Nat.lt_or_ge (j + 1) stages.length with h1 | h1
     ·rcases hx' : stages[j + 1] with ⟨st', kp', e'⟩
      have hs' : stages[j + 1]? = some (st', kp', e') := by rw [List.getElem?_eq_getElem h1, hx']
      rw [List.drop_eq_getElem_cons h1, hx']
      exact (pl.st (j + 1) st' kp' e' hs').1
     ·rw [List.drop_eq_nil_of_le h1]
      have : j + 1 = stages.length := by omega
      rw [this]; exact pl.last
    simp only [wpOpsIn, ho]
    have hw : Region.wanted (opAt ops.toList i) (yielded ops a.tmps) = true := by simp [Region.wanted, hgn]
    rw [hw]
    simp only [if_true]
    refine effA_sound heff hq hH hops hD _ _ ?_ ?_
    ·rintro S' cv v ds' df H' hle hH' hv' hD' ⟨hkp, hk⟩
     rw [vcD_eq, hnext, ← preOf_succ hs] at hk
     obtain ⟨sF, k1, k2, k3⟩ := stage_facts3 (r := r) pl (by omega) hk
     have hkf := vcRs_fact (r := r) _ hkp
     refine lift_wpOpsIn hle l _ _ (ih (fun x => done x ∨ x = i) (j + 1) sF ds' H' S' _ ht.tail ?_ ?_ ?_ k1 (by rw [put_size]; exact hsz) hH' (by rw [put_defers]; exact hD') ?_)
     ·rintro x hx (hd | rfl)
      ·have := I1 x hx hd; omega
      ·omega
     ·intro x hx ho hl
      by_cases h : sg x < 2 * j
      ·exact .inl (I2 x hx ho h)
      ·exact .inr ((g3 x hx).1 (by omega))
     ·intro x hx he hl hnd
      by_cases h : sg x = 2 * (j + 1)
      ·exact k3 x hx h
      ·have hxl : sg x ≤ 2 * j := by omega
       have hnx : ¬ done x := fun h => hnd (.inl h)
       have base : QF r P n ops.toList H' s (opAt ops.toList x) := by
        rcases g5 x hx he hxl with hb | hf | hm
        ·exact absurd (ht.head hb) hnx
        ·exact (hfact x hx he hxl hnx).move hf H'
        ·exact hkf _ (List.mem_map.2 ⟨x, hm, rfl⟩)
       have hpi : ∀ t, (opAt ops.toList i).dst ≠ some t → put s (opAt ops.toList i).dst v t = s t := fun t h => by
        cases hdd : (opAt ops.toList i).dst with
        | none => rfl
        | some d => simp only [put]; rw [if_neg]; intro e; exact h (by rw [hdd, e])
       refine base.congr (fun t htr => ?_) (fun d hd => ?_)
       ·rw [k2 t fun y hy hys hyd => ?_, hpi t fun hid => ?_]
        ·rcases (pl.ssa x i hx hi t hid).1 htr with g | ⟨g, _⟩
         ·have := pl.ord x i hx hi g; omega
         ·exact hnx (ht.head g)
        ·rcases (pl.ssa x y hx hy t hyd).1 htr with g | ⟨_, g⟩
         ·have := pl.ord x y hx hy g; omega
         ·omega
       ·rw [k2 d fun y hy hys hyd => ?_, hpi d fun hid => ?_]
        ·exact (pl.ssa x i hx hi d hid).2 (fun e => by rw [← e] at hxl; omega) hd
        ·exact (pl.ssa x y hx hy d hyd).2 (fun e => by rw [e] at hys; omega) hd
     ·intro t
      by_cases hex : ∃ k, k < ops.size ∧ (sg k % 2 = 0 ∧ sg k ≤ 2 * (j + 1)) ∧ ¬ (done k ∨ k = i) ∧ (opAt ops.toList k).dst = some t
      ·exact .inl hex
      ·right
       have hst : ∀ y, y < ops.size → sg y = 2 * (j + 1) → (opAt ops.toList y).dst ≠ some t := fun y hy hys hyd =>
        hex ⟨y, hy, ⟨by omega, by omega⟩, fun h => by
         rcases h with h | h
         ·have := I1 y hy h; omega
         ·rw [h] at hys; omega, hyd⟩
       rw [k2 t hst]
       by_cases hdt : (opAt ops.toList i).dst = some t
       ·rw [hdt]
        have ht' : t < a.tmps.size := by rw [hsz]; rw [hdt] at hd; exact hd
        rw [put_getD_same ht']
        simp only [put, if_true]
        exact hv'
       ·rw [put_getD hdt]
        have : put s (opAt ops.toList i).dst v t = s t := by
         cases hdd : (opAt ops.toList i).dst with
         | none => rfl
         | some d => simp only [put]; rw [if_neg]; intro e; exact hdt (by rw [hdd, e])
        rw [this]
        rcases hP t with ⟨k, hk, hkq, hnd, hd'⟩ | h
        ·exact absurd ⟨k, hk, ⟨hkq.1, by omega⟩, fun h => h.elim hnd fun e => hdt (by rw [← e]; exact hd'), hd'⟩ hex
        ·exact h.mono hle
    ·intro S' cv v H' hle hH' hv' hk
     refine ⟨S', .pan v, wipe (pickO ops.toList (preOf stages j ++ st)) s, ds, H', rfl, hle, hH', fun t => ?_, hD.mono hle, hsz, ⟨cv, rfl, hv'⟩, hk⟩
     simp only [wipe]
     split
     ·exact .any _
     ·rename_i hno
      rcases hP t with ⟨k, hk, hkq, hnd, hd'⟩ | h
      ·exfalso
       apply hno
       rw [List.any_eq_true]
       refine ⟨opAt ops.toList k, List.mem_map.2 ⟨k, ?_, rfl⟩, by rw [hd']; simp⟩
       rw [show st = (st, kp, i).1 from rfl, ← preOf_succ hs]
       obtain ⟨q, hq⟩ : ∃ q, sg k = 2 * q := ⟨sg k / 2, by omega⟩
       have hql : q < stages.length := by omega
       rcases hxq : stages[q] with ⟨st', kp', e'⟩
       have hsq : stages[q]? = some (st', kp', e') := by rw [List.getElem?_eq_getElem hql, hxq]
       have hst' := (pl.st q st' kp' e' hsq).1
       simp only [preOf, List.mem_flatMap]
       refine ⟨(st', kp', e'), List.mem_of_getElem? (i := q) (by rw [List.getElem?_take_of_lt (by omega)]; exact hsq), ?_⟩
       show k ∈ st'
       rw [hst', List.mem_filter, List.mem_range]
       exact ⟨hk, by simp [hq]⟩
      ·exact h.mono hle


def ordersOf (all : List Oper) : Nat → List Nat → List (List Nat)
 | 0, _ => [[]]
 | n + 1, rem => rem.flatMap fun e => if rem.any (fun k => bitM all e k) = true then [] else (ordersOf all n (rem.filter fun k => k != e)).map (e :: ·)
theorem ordersOf_mem (all : List Oper) : ∀ (n : Nat) (rem m : List Nat), m.length = n → m.Nodup → (∀ x, x ∈ m ↔ x ∈ rem) → (∀ m1 i m2, m = m1 ++ i :: m2 → ∀ k, k ∈ m → bitM all i k = true → k ∈ m1) → m ∈ ordersOf all n rem := by
 intro n
 induction n with
 | zero =>
   intro rem m hl _ _ _
   have : m = [] := List.length_eq_zero_iff.1 hl
   subst this
   simp [ordersOf]
 | succ n ih =>
   intro rem m hl hn hm ho
   cases m with
   | nil => simp at hl
   | cons e m =>
     simp only [ordersOf, List.mem_flatMap]
     refine ⟨e, (hm e).1 (by simp), ?_⟩
     rw [if_neg]
     ·refine List.mem_map.2 ⟨m, ih _ m (by simpa using hl) (List.nodup_cons.1 hn).2 (fun x => ?_) (fun m1 i m2 h k hk hb => ?_), rfl⟩
      ·rw [List.mem_filter]
       constructor
       ·intro hx
        exact ⟨(hm x).1 (by simp [hx]), by simp only [bne_iff_ne]; rintro rfl; exact (List.nodup_cons.1 hn).1 hx⟩
       ·rintro ⟨h1, h2⟩
        rcases List.mem_cons.1 ((hm x).2 h1) with h | h
        ·simp [h] at h2
        ·exact h
      ·have := ho (e :: m1) i m2 (by rw [h]; rfl) k (by simp [hk]) hb
       rcases List.mem_cons.1 this with h3 | h3
       ·subst h3; exact absurd hk (List.nodup_cons.1 hn).1
       ·exact h3
     ·intro hany
      rw [List.any_eq_true] at hany
      obtain ⟨k, hk, hb⟩ := hany
      have := ho [] e m rfl k ((hm k).2 hk) hb
      simp at this
/-- What stands ahead of an operation, where the effects come in this order. -/
def bitE (all : List Oper) (E : List Nat) (i k : Nat) : Bool := bitM all i k || E.any fun eb => (i == eb || bitM all i eb) && (E.takeWhile fun x => x != eb).any fun ea => k == ea || bitM all ea k
theorem Topo.before {ops : Array Oper} {l : List Nat} (h : Topo ops (fun _ => False) l) {j i : Nat} (ha : Anc ops j i) : ∀ l1 l2, l = l1 ++ i :: l2 → j ∈ l1 := by
 induction ha with
 | edge ho he hb hj =>
   intro l1 l2 hl
   subst hj
   exact (h.edges l1 _ l2 hl _ ho _ he hb).resolve_left id
 | trans h1 h2 ih1 ih2 =>
   intro l1 l2 hl
   obtain ⟨a, b, rfl⟩ := List.append_of_mem (ih2 l1 l2 hl)
   have := ih1 a (b ++ _ :: l2) (by rw [hl, List.append_assoc]; rfl)
   exact List.mem_append_left _ this
theorem takeW_filter {p : Nat → Bool} {eb : Nat} : ∀ {a b : List Nat}, eb ∉ a → p eb = true → ((a ++ eb :: b).filter p).takeWhile (fun x => x != eb) = a.filter p
 | [], b, _, hp => by simp [hp]
 | x :: a, b, hn, hp => by
   have h1 : x ≠ eb := fun e => hn (by simp [e])
   have ih := takeW_filter (p := p) (eb := eb) (a := a) (b := b) (fun h => hn (by simp [h])) hp
   simp only [List.cons_append, List.filter_cons]
   split
   ·rw [List.takeWhile_cons, if_pos (by simp [h1]), ih]
   ·exact ih
theorem topoB_of {ops : Array Oper} {l : List Nat} (h : Topo ops (fun _ => False) l) (hb : ∀ i k, bitM ops.toList i k = true → Anc ops k i) (p : Nat → Bool) : TopoB ops (bitE ops.toList (l.filter p)) (fun _ => False) l := by
 refine ⟨h.lt, h.nodup, h.apart, h.all, fun l1 i l2 hl k hB => .inr ?_⟩
 simp only [bitE, Bool.or_eq_true, List.any_eq_true, Bool.and_eq_true, beq_iff_eq] at hB
 rcases hB with hB | ⟨eb, heb, h1, ea, hea, h2⟩
 ·exact h.before (hb _ _ hB) l1 l2 hl
 ·obtain ⟨hebl, hpe⟩ := List.mem_filter.1 heb
  -- eb stands at i or ahead of it
  have hsplit : ∃ q r, l = q ++ eb :: r ∧ ∀ x, x ∈ q → x ∈ l1 := by
   rcases h1 with h1 | h1
   ·subst h1; exact ⟨l1, l2, hl, fun _ hx => hx⟩
   ·obtain ⟨q, r, hq⟩ := List.append_of_mem (h.before (hb _ _ h1) l1 l2 hl)
    exact ⟨q, r ++ i :: l2, by rw [hl, hq, List.append_assoc]; rfl, fun x hx => by rw [hq]; exact List.mem_append_left _ hx⟩
  obtain ⟨q, r, hq, hql⟩ := hsplit
  have hne : eb ∉ q := by
   intro hm
   have hnd := h.nodup
   rw [hq] at hnd
   exact (List.nodup_append.1 hnd).2.2 eb hm eb (by simp) rfl
  rw [hq, takeW_filter hne hpe] at hea
  have heq := (List.mem_filter.1 hea).1
  rcases h2 with h2 | h2
  ·rw [h2]; exact hql _ heq
  ·obtain ⟨a, b, rfl⟩ := List.append_of_mem heq
   have := h.before (hb _ _ h2) a (b ++ eb :: r) (by rw [hq, List.append_assoc]; rfl)
   exact hql _ (List.mem_append_left _ this)

abbrev Pln := List Nat × List Stg × List Nat
def plan3Ok (ops : Array Oper) (E : List Nat) (sg : List Nat) (stages : List Stg) (last : List Nat) : Bool :=
 decide (stages.map (fun x => x.2.2) = E) &&
 ((List.range ops.size).all fun i => (List.range ops.size).all fun k => match (opAt ops.toList k).dst with
   | some d => (!(readsOf ops.toList (opAt ops.toList i)).contains d || bitE ops.toList E i k || (bitE ops.toList E k i && sg.getD k 0 % 2 == 1)) && (decide (k = i) || decide ((opAt ops.toList i).dst ≠ some d))
   | none => true) &&
 ((List.range stages.length).all fun j => match stages[j]? with
   | some (st, kp, e) => decide (st = (List.range ops.size).filter fun i => sg.getD i 0 == 2 * j) && decide (e < ops.size) &&
    ((List.range ops.size).all fun i => decide (sg.getD i 0 = 2 * j + 1) == decide (i = e)) &&
    ((List.range ops.size).all fun i => decide (sg.getD i 0 < 2 * j + 2) || bitE ops.toList E i e) &&
    ((List.range ops.size).all fun i => sg.getD i 0 % 2 == 1 || decide (2 * j < sg.getD i 0) || bitE ops.toList E e i || heapFree (opAt ops.toList i).op || kp.contains i)
   | none => true) &&
 decide (last = (List.range ops.size).filter fun i => sg.getD i 0 == 2 * stages.length) &&
 ((List.range ops.size).all fun i => decide (sg.getD i 0 ≤ 2 * stages.length)) &&
 ((List.range ops.size).all fun i => (List.range ops.size).all fun k => !bitE ops.toList E i k || (decide (sg.getD k 0 ≤ sg.getD i 0) && (decide (sg.getD i 0 ≠ sg.getD k 0) || decide (sg.getD i 0 % 2 ≠ 0) || decide (k < i))))

theorem plan3_of {ops : Array Oper} {E sg : List Nat} {stages : List Stg} {last : List Nat} (hb : ∀ i k, bitM ops.toList i k = true → Anc ops k i) (h : plan3Ok ops E sg stages last = true) :
 stages.map (fun x => x.2.2) = E ∧ Plan3 ops (bitE ops.toList E) (fun i => sg.getD i 0) stages last := by
 simp only [plan3Ok, Bool.and_eq_true, List.all_eq_true, List.mem_range] at h
 obtain ⟨⟨⟨⟨⟨h0, h3⟩, h4⟩, h5⟩, h6⟩, h7⟩ := h
 refine ⟨of_decide_eq_true h0, ?_, ?_, by simpa using h5, fun i hi => by simpa using h6 i hi, fun i k hi hk hbb => ?_, fun i k hi hk hbb hs he => ?_⟩
 ·intro i k hi hk d hd
  have := h3 i hi k hk
  rw [hd] at this
  simp only [Bool.and_eq_true, Bool.or_eq_true, Bool.not_eq_true', decide_eq_true_eq, beq_iff_eq] at this
  obtain ⟨g1, g2⟩ := this
  refine ⟨fun hm => ?_, fun hne => ?_⟩
  ·rcases g1 with (g1 | g1) | g1
   ·rw [List.contains_iff_mem.2 hm] at g1; cases g1
   ·exact .inl g1
   ·exact .inr ⟨g1.1, by simpa using g1.2⟩
  ·rcases g2 with g2 | g2
   ·exact absurd g2 hne
   ·exact g2
 ·intro j st kp e hj
  have hjl : j < stages.length := (List.getElem?_eq_some_iff.1 hj).1
  have := h4 j hjl
  rw [hj] at this
  simp only [Bool.and_eq_true, List.all_eq_true, List.mem_range, Bool.or_eq_true, decide_eq_true_eq, beq_iff_eq] at this
  obtain ⟨⟨⟨⟨g1, g2⟩, g3⟩, g4⟩, g5⟩ := this
  refine ⟨g1, g2, fun i hi => by have := g3 i hi; simpa using this, fun i hi hs => ?_, fun i hi he hs => ?_⟩
  ·rcases g4 i hi with hx | hx
   ·omega
   ·exact hx
  ·rcases g5 i hi with (((hx | hx) | hx) | hx) | hx
   ·omega
   ·omega
   ·exact .inl hx
   ·exact .inr (.inl hx)
   ·exact .inr (.inr (List.contains_iff_mem.1 hx))
 ·have := h7 i hi k hk
  simp only [Bool.or_eq_true, Bool.not_eq_true', Bool.and_eq_true, decide_eq_true_eq] at this
  rcases this with hx | hx
  ·rw [hbb] at hx; cases hx
  ·exact hx.1
 ·have := h7 i hi k hk
  simp only [Bool.or_eq_true, Bool.not_eq_true', Bool.and_eq_true, decide_eq_true_eq] at this
  rcases this with hx | ⟨_, (hx | hx) | hx⟩
  ·rw [hbb] at hx; cases hx
  ·exact absurd hs hx
  ·exact absurd he hx
  ·exact hx
theorem nodup_le {a b : List Nat} (ha : a.Nodup) (h : ∀ x, x ∈ a → x ∈ b) : a.length ≤ b.length := by
 induction a generalizing b with
 | nil => exact Nat.zero_le _
 | cons x a ih =>
   obtain ⟨h1, h2⟩ := List.nodup_cons.1 ha
   have hx : x ∈ b := h x (by simp)
   have := ih (b := b.erase x) h2 fun y hy => (List.mem_erase_of_ne (fun e => h1 (by rw [← e]; exact hy))).2 (h y (by simp [hy]))
   rw [List.length_erase_of_mem hx] at this
   have := List.length_pos_of_mem hx
   simp only [List.length_cons]
   omega
/-- A region whose order is open: a plan for each order of its effects. -/
def draw3Ok (P : Program) (ops : Array Oper) (effs : List Nat) (plans : List Pln) : Bool :=
 (P.follows .mixedOrders || !Region.departs ops) &&
 ((List.range ops.size).all fun k => match ops[k]? with
   | some o => o.after.toList.all fun e => !Region.binds .any e || decide (e.on < k)
   | none => true) &&
 effs.all (fun e => decide (e < ops.size)) && decide effs.Nodup &&
 (ordersOf ops.toList effs.length effs).all fun E => plans.any fun p => plan3Ok ops E p.1 p.2.1 p.2.2

theorem wps_draw3 {r : Option Nat} {P : Program} {mm : Option Tmp → Bool} {n id : Nat} {ops : Array Oper} {s : Fr} {ds : List AD} {H : Hp} {Q : Post} (effs : List Nat) (plans : List Pln)
 (hr : r = none ∨ ops.toList.all (fun o => quietOk o.op) = true) (hok : draw3Ok P ops effs plans = true) (h : ∀ p ∈ plans, vcD P mm n ops.toList [] p.2.1 p.2.2 s ds H Q) : WPS r P n (.region id ops true) s ds H Q := by
 simp only [draw3Ok, Bool.and_eq_true] at hok
 obtain ⟨⟨⟨⟨h1, h2⟩, h3⟩, h4⟩, h5⟩ := hok
 have hedge : ∀ k o e, ops[k]? = some o → e ∈ o.after → Region.binds .any e = true → e.on < k := by
  intro k o e ho he hb
  have hk : k < ops.size := (Array.getElem?_eq_some_iff.1 ho).1
  have := List.all_eq_true.1 h2 k (List.mem_range.2 hk)
  rw [ho] at this
  simp only [List.all_eq_true, Bool.or_eq_true, Bool.not_eq_true', decide_eq_true_eq] at this
  rcases this e (by simpa using he) with hx | hx
  ·rw [hb] at hx; cases hx
  ·exact hx
 have hanc : ∀ i k, bitM ops.toList i k = true → Anc ops k i := fun q j hq =>
  masks_spec ops.toList [] (fun q h1 h2 => by simp) (fun q hq => absurd hq (by simp)) q j hq
 intro S a hn hH hF hD
 refine wpIn_region_draw fun t => ?_
 have hsch : Region.schedule (P.follows .mixedOrders) ops t = Region.linearise .any ops t := by
  unfold Region.schedule
  rw [if_pos h1]
 rw [hsch]
 have htopo := linearise_topo hedge t
 generalize Region.linearise .any ops t = l at htopo ⊢
 have hE : l.filter (effs.contains ·) ∈ ordersOf ops.toList effs.length effs := by
  have hmem : ∀ x, x ∈ l.filter (effs.contains ·) ↔ x ∈ effs := fun x => by
   rw [List.mem_filter]
   constructor
   ·rintro ⟨_, hx⟩; exact List.contains_iff_mem.1 hx
   ·intro hx
    have := of_decide_eq_true (List.all_eq_true.1 h3 x hx)
    exact ⟨(htopo.all x this).resolve_left (fun h => h), List.contains_iff_mem.2 hx⟩
  have hnd : (l.filter (effs.contains ·)).Nodup := List.Pairwise.filter _ htopo.nodup
  refine ordersOf_mem _ _ _ _ ?_ hnd hmem fun m1 i m2 hm k hk hb => ?_
  ·have hnd2 := of_decide_eq_true h4
   exact Nat.le_antisymm (nodup_le hnd fun x hx => (hmem x).1 hx) (nodup_le hnd2 fun x hx => (hmem x).2 hx)
  ·have hil : i ∈ l.filter (effs.contains ·) := by rw [hm]; simp
   obtain ⟨hil, hpi⟩ := List.mem_filter.1 hil
   obtain ⟨a', b', hl⟩ := List.append_of_mem hil
   have hka := htopo.before (hanc _ _ hb) a' b' hl
   have hni : i ∉ a' := by
    intro hx
    have := htopo.nodup
    rw [hl] at this
    exact (List.nodup_append.1 this).2.2 i hx i (by simp) rfl
   have hnm : i ∉ m1 := by
    intro hx
    rw [hm] at hnd
    exact (List.nodup_append.1 hnd).2.2 i hx i (by simp) rfl
   have e1 := takeW_filter (p := (effs.contains ·)) (a := a') (b := b') hni hpi
   rw [← hl, hm] at e1
   have e2 := takeW_filter (p := fun _ => true) (a := m1) (b := m2) hnm rfl
   rw [List.filter_eq_self.2 (fun _ _ => rfl), List.filter_eq_self.2 (fun _ _ => rfl)] at e2
   rw [e2] at e1
   rw [e1]
   exact List.mem_filter.2 ⟨hka, (List.mem_filter.1 hk).2⟩
 obtain ⟨⟨sg, stages, last⟩, hp, hpk⟩ := List.any_eq_true.1 (List.all_eq_true.1 h5 _ hE)
 have hv := h _ hp
 have hpk : plan3Ok ops _ sg stages last = true := hpk
 obtain ⟨_, pl⟩ := plan3_of hanc hpk
 have hB := topoB_of htopo hanc (effs.contains ·)
 simp only [] at hv
 rw [vcD_eq] at hv
 have hst : hdS stages last = (List.range ops.size).filter fun x => sg.getD x 0 == 2 * 0 := by
  cases stages with
  | nil => exact pl.last
  | cons x r => obtain ⟨st, kp, e⟩ := x; exact (pl.st 0 st kp e rfl).1
 rw [hst] at hv
 obtain ⟨sF, k1, k2, k3⟩ := stage_facts3 (r := r) pl (by omega) hv
 have hle : Le S { S with w := { S.w with drawn := S.w.drawn + 1 } } :=
  ⟨rfl, rfl, rfl, Nat.le_refl _, fun _ h => h, fun _ _ => rfl, fun _ _ _ => rfl, Nat.le_refl _, fun _ c _ _ h => ⟨c, h, rfl⟩⟩
 have hH' : HRel { S with w := { S.w with drawn := S.w.drawn + 1 } } H :=
  ⟨hH.fresh, hH.immlt, fun i o ho => (hH.obj i o ho).keep hle (fun _ => rfl) (fun _ _ => rfl) (fun _ _ _ h => h), hH.inj, fun p hp => (hH.giv p hp).mono hle⟩
 refine lift_wpOpsIn hle _ _ _ (draw_run3 (mm := mm) (sg := fun i => sg.getD i 0) pl hr l (fun _ => False) 0 sF ds H _ a hB (fun _ _ h => h.elim) (fun _ _ _ h => by omega)
  (fun i hi he hl _ => k3 i hi (by omega)) k1 hn hH' (hD.mono hle) ?_)
 intro t
 by_cases hx : ∃ k, k < ops.size ∧ (sg.getD k 0 % 2 = 0 ∧ sg.getD k 0 ≤ 2 * 0) ∧ (opAt ops.toList k).dst = some t
 ·obtain ⟨k, a1, a2, a3⟩ := hx
  exact .inl ⟨k, a1, a2, fun h => h, a3⟩
 ·right
  rw [k2 t (fun i hi h0 e => hx ⟨i, hi, ⟨by omega, by omega⟩, e⟩)]
  exact (hF t).mono hle

section
variable {r : Option Nat} {P : Program} {m : Option Tmp → Bool} {n : Nat} {k : List It} {s : Fr} {ds : List AD} {H : Hp} {Q : Post}
theorem vs_draw3 {id : Nat} {l : List Oper} (effs : List Nat) (plans : List Pln) (hok : draw3Ok P l.toArray effs plans = true) (h : ∀ p ∈ plans, VS none P m n (expand l [] p.2.2 p.2.1 k) s ds H Q) :
 VS none P m n (.code (.region id l.toArray true) :: k) s ds H Q := by
 show WPS none P n (.region id l.toArray true) s ds H (TK none P m n k Q)
 refine wps_draw3 (mm := m) effs plans (.inl rfl) hok fun p hp => ?_
 rw [List.toList_toArray, vcD_expand]; exact h p hp
end
end Go.V
end
section
set_option linter.unusedVariables false
namespace Go.V
set_option linter.unusedSectionVars false
variable [Inhabited GivT]
def CutS {σ : Type} (inv : σ → Prop) (fr : σ → List (Nat × AV)) (hp : σ → Hp) (ds0 : List AD) : Post := fun e s ds H => match e with
 | .normal => Ent s ds H fun s2 ds2 H2 => ∃ x, inv x ∧ s2 = Fr.of (fr x) ∧ ds2 = ds0 ∧ H2 = hp x
 | _ => False
section
variable {P : Program} {m : Option Tmp → Bool} {n : Nat} {k : List It} {s : Fr} {ds : List AD} {H : Hp} {Q : Post}
end
end Go.V
end
section
set_option linter.unusedVariables false
namespace Go.V
set_option linter.unusedSectionVars false
variable [Inhabited GivT]
theorem Tri.args {P : Program} {fv : AV} {args args' : List AV} {H : Hp} {R : Res → Hp → Prop} (t : Tri P fv args' H R) (hl : args'.length = args.length) (h : ∀ k, k < args.length → AV.Le (args.getD k .any) (args'.getD k .any)) : Tri P fv args H R :=
 fun S vf vs hH hf ha => t S vf vs hH hf ⟨by rw [ha.1, hl], fun k hk => h k (by omega) S _ (ha.2 k (by omega))⟩
end Go.V
end
section
set_option linter.unusedVariables false
namespace Go.V
set_option linter.unusedSectionVars false
variable [Inhabited GivT]
def CutG {σ : Type} (inv : σ → Prop) (fr : σ → List (Nat × AV)) (hp : σ → Hp) (dsf : σ → List AD) (Q : Post) : Post := fun e s ds H => match e with
 | .normal => Ent s ds H fun s2 ds2 H2 => ∃ x, inv x ∧ s2 = Fr.of (fr x) ∧ ds2 = dsf x ∧ H2 = hp x
 | e => Q e s ds H
section
variable {r : Option Nat} {P : Program} {m : Option Tmp → Bool} {n : Nat} {s : Fr} {ds : List AD} {H : Hp} {Q : Post} {σ : Type} {inv : σ → Prop} {fr : σ → List (Nat × AV)} {hp : σ → Hp} {dsf : σ → List AD}
theorem CutG_ret : CutG inv fr hp dsf Q .ret s ds H = Q .ret s ds H := rfl
theorem cutG_of (x : σ) (h : inv x) (hs : Slots s (fr x)) (hd : ds = dsf x) (hH : HSub H (hp x)) : CutG inv fr hp dsf Q .normal s ds H := by
 subst hd
 exact Ent.of (fr x) hs hH ⟨x, h, rfl, rfl, rfl⟩
end
section
variable {r : Option Nat} {P : Program} {m : Option Tmp → Bool} {n : Nat} {s : Fr} {ds : List AD} {H : Hp} {Q : Post} {σ : Type} (inv : σ → Prop) (fr : σ → List (Nat × AV)) (hp : σ → Hp) (dsf : σ → List AD)
theorem wps_cutG {a b : Code} (h1 : VS r P m n [.code a] s ds H (CutG inv fr hp dsf Q)) (h2 : ∀ x, inv x → WPS r P n b (Fr.of (fr x)) (dsf x) (hp x) Q) : WPS r P n (.seq a b) s ds H Q := by
 refine wps_seq ((vcC_sound a h1).mono fun x s' ds' H' hq => ?_)
 cases x with
 | normal =>
   have hq : Ent s' ds' H' fun s2 ds2 H2 => ∃ x, inv x ∧ s2 = Fr.of (fr x) ∧ ds2 = dsf x ∧ H2 = hp x := hq
   refine wps_ent (hq.mono fun s2 ds2 H2 hx => ?_)
   obtain ⟨x, hi, rfl, rfl, rfl⟩ := hx
   exact h2 x hi
 | ret => exact hq
 | pan v => exact hq
 | exit i => exact hq
theorem wps_cutG2 {a b c : Code} (h1 : VS r P m n [.code a, .code b] s ds H (CutG inv fr hp dsf Q)) (h2 : ∀ x, inv x → WPS r P n c (Fr.of (fr x)) (dsf x) (hp x) Q) : WPS r P n (.seq a (.seq b c)) s ds H Q := by
 refine wps_seq ((vcC_sound a h1).mono fun x s' ds' H' hq => ?_)
 cases x with
 | normal => exact wps_cutG inv fr hp dsf hq h2
 | ret => exact hq
 | pan v => exact hq
 | exit i => exact hq
theorem wps_cutG3 {a b c d : Code} (h1 : VS r P m n [.code a, .code b, .code c] s ds H (CutG inv fr hp dsf Q)) (h2 : ∀ x, inv x → WPS r P n d (Fr.of (fr x)) (dsf x) (hp x) Q) : WPS r P n (.seq a (.seq b (.seq c d))) s ds H Q := by
 refine wps_seq ((vcC_sound a h1).mono fun x s' ds' H' hq => ?_)
 cases x with
 | normal => exact wps_cutG2 inv fr hp dsf hq h2
 | ret => exact hq
 | pan v => exact hq
 | exit i => exact hq
end
end Go.V
end
section
set_option linter.unusedVariables false
namespace Go.V
set_option linter.unusedSectionVars false
variable [Inhabited GivT]
section
variable {r : Option Nat} {P : Program} {m : Option Tmp → Bool} {n : Nat} {s : Fr} {ds : List AD} {H : Hp} {Q : Post} {σ : Type} (inv : σ → Prop) (fr : σ → List (Nat × AV)) (hp : σ → Hp) (dsf : σ → List AD)
theorem wps_cutG4 {a0 a1 a2 a3 b : Code} (h1 : VS r P m n [.code a0, .code a1, .code a2, .code a3] s ds H (CutG inv fr hp dsf Q)) (h2 : ∀ x, inv x → WPS r P n b (Fr.of (fr x)) (dsf x) (hp x) Q) : WPS r P n (.seq a0 (.seq a1 (.seq a2 (.seq a3 b)))) s ds H Q := by
 refine wps_seq ((vcC_sound a0 h1).mono fun x s' ds' H' hq => ?_)
 cases x with
 | normal => exact wps_cutG3 inv fr hp dsf hq h2
 | ret => exact hq
 | pan v => exact hq
 | exit i => exact hq
theorem wps_cutG5 {a0 a1 a2 a3 a4 b : Code} (h1 : VS r P m n [.code a0, .code a1, .code a2, .code a3, .code a4] s ds H (CutG inv fr hp dsf Q)) (h2 : ∀ x, inv x → WPS r P n b (Fr.of (fr x)) (dsf x) (hp x) Q) : WPS r P n (.seq a0 (.seq a1 (.seq a2 (.seq a3 (.seq a4 b))))) s ds H Q := by
 refine wps_seq ((vcC_sound a0 h1).mono fun x s' ds' H' hq => ?_)
 cases x with
 | normal => exact wps_cutG4 inv fr hp dsf hq h2
 | ret => exact hq
 | pan v => exact hq
 | exit i => exact hq
theorem wps_cutG6 {a0 a1 a2 a3 a4 a5 b : Code} (h1 : VS r P m n [.code a0, .code a1, .code a2, .code a3, .code a4, .code a5] s ds H (CutG inv fr hp dsf Q)) (h2 : ∀ x, inv x → WPS r P n b (Fr.of (fr x)) (dsf x) (hp x) Q) : WPS r P n (.seq a0 (.seq a1 (.seq a2 (.seq a3 (.seq a4 (.seq a5 b)))))) s ds H Q := by
 refine wps_seq ((vcC_sound a0 h1).mono fun x s' ds' H' hq => ?_)
 cases x with
 | normal => exact wps_cutG5 inv fr hp dsf hq h2
 | ret => exact hq
 | pan v => exact hq
 | exit i => exact hq
theorem wps_cutG7 {a0 a1 a2 a3 a4 a5 a6 b : Code} (h1 : VS r P m n [.code a0, .code a1, .code a2, .code a3, .code a4, .code a5, .code a6] s ds H (CutG inv fr hp dsf Q)) (h2 : ∀ x, inv x → WPS r P n b (Fr.of (fr x)) (dsf x) (hp x) Q) : WPS r P n (.seq a0 (.seq a1 (.seq a2 (.seq a3 (.seq a4 (.seq a5 (.seq a6 b))))))) s ds H Q := by
 refine wps_seq ((vcC_sound a0 h1).mono fun x s' ds' H' hq => ?_)
 cases x with
 | normal => exact wps_cutG6 inv fr hp dsf hq h2
 | ret => exact hq
 | pan v => exact hq
 | exit i => exact hq
theorem wps_cutG8 {a0 a1 a2 a3 a4 a5 a6 a7 b : Code} (h1 : VS r P m n [.code a0, .code a1, .code a2, .code a3, .code a4, .code a5, .code a6, .code a7] s ds H (CutG inv fr hp dsf Q)) (h2 : ∀ x, inv x → WPS r P n b (Fr.of (fr x)) (dsf x) (hp x) Q) : WPS r P n (.seq a0 (.seq a1 (.seq a2 (.seq a3 (.seq a4 (.seq a5 (.seq a6 (.seq a7 b)))))))) s ds H Q := by
 refine wps_seq ((vcC_sound a0 h1).mono fun x s' ds' H' hq => ?_)
 cases x with
 | normal => exact wps_cutG7 inv fr hp dsf hq h2
 | ret => exact hq
 | pan v => exact hq
 | exit i => exact hq
theorem wps_cutG9 {a0 a1 a2 a3 a4 a5 a6 a7 a8 b : Code} (h1 : VS r P m n [.code a0, .code a1, .code a2, .code a3, .code a4, .code a5, .code a6, .code a7, .code a8] s ds H (CutG inv fr hp dsf Q)) (h2 : ∀ x, inv x → WPS r P n b (Fr.of (fr x)) (dsf x) (hp x) Q) : WPS r P n (.seq a0 (.seq a1 (.seq a2 (.seq a3 (.seq a4 (.seq a5 (.seq a6 (.seq a7 (.seq a8 b))))))))) s ds H Q := by
 refine wps_seq ((vcC_sound a0 h1).mono fun x s' ds' H' hq => ?_)
 cases x with
 | normal => exact wps_cutG8 inv fr hp dsf hq h2
 | ret => exact hq
 | pan v => exact hq
 | exit i => exact hq
theorem wps_cutG10 {a0 a1 a2 a3 a4 a5 a6 a7 a8 a9 b : Code} (h1 : VS r P m n [.code a0, .code a1, .code a2, .code a3, .code a4, .code a5, .code a6, .code a7, .code a8, .code a9] s ds H (CutG inv fr hp dsf Q)) (h2 : ∀ x, inv x → WPS r P n b (Fr.of (fr x)) (dsf x) (hp x) Q) : WPS r P n (.seq a0 (.seq a1 (.seq a2 (.seq a3 (.seq a4 (.seq a5 (.seq a6 (.seq a7 (.seq a8 (.seq a9 b)))))))))) s ds H Q := by
 refine wps_seq ((vcC_sound a0 h1).mono fun x s' ds' H' hq => ?_)
 cases x with
 | normal => exact wps_cutG9 inv fr hp dsf hq h2
 | ret => exact hq
 | pan v => exact hq
 | exit i => exact hq
end
/-- A cut, where more is to be said first. -/
theorem cutG_ent {σ : Type} {inv : σ → Prop} {fr : σ → List (Nat × AV)} {hp : σ → Hp} {dsf : σ → List AD} {Q : Post} {s : Fr} {ds : List AD} {H : Hp} (h : Ent s ds H fun s ds H => CutG inv fr hp dsf Q .normal s ds H) : CutG inv fr hp dsf Q .normal s ds H := Ent.bind h fun _ _ _ h => h
end Go.V
end
section
set_option linter.unusedVariables false
set_option linter.unusedSimpArgs false
namespace Go.V
set_option linter.unusedSectionVars false
variable [Inhabited GivT]
/-- The same value, with some leaves told otherwise, in rows too. -/
inductive FrzS (L : AV → AV → Prop) : AV → AV → Prop
 | same (x : AV) : FrzS L x x
 | leaf {x y : AV} (h : L x y) : FrzS L x y
 | agg {cs cs' : List AV} (hl : cs'.length = cs.length) (h : ∀ k, k < cs.length → FrzS L (cs.getD k .any) (cs'.getD k .any)) : FrzS L (.agg cs) (.agg cs')
 | rsl {n st : Nat} {f g : Nat → List AV} (hl : ∀ k, k < n → (f k).length = st → (g k).length = st) (h : ∀ k l, k < n → l < st → FrzS L ((f k).getD l .any) ((g k).getD l .any)) : FrzS L (.rsl n st f) (.rsl n st g)
theorem FrzS.conv {L : AV → AV → Prop} {S S2 : St} (hle : Le S S2) (hc : ∀ x y, L x y → ∀ v, VRel S x v → VRel S2 y v) {x y : AV} (hxy : FrzS L x y) : ∀ v, VRel S x v → VRel S2 y v := by
 induction hxy with
 | same x => intro v hv; exact hv.mono hle
 | leaf h => intro v hv; exact hc _ _ h v hv
 | agg hl h ih =>
   intro v hv
   cases hv with
   | agg hn hv => exact .agg (hn.trans hl.symm) fun k hk => ih k (by omega) _ (hv k (by omega))
 | @rsl n st f g hl h ih =>
   intro v hv
   cases hv with
   | rsl0 => exact .rsl0
   | rsl hi hb hsz hf hh hcap =>
     exact .rsl (hle.imm _ hi) ((hle.keep _ hi).trans hb) hsz (fun k hk => hl k hk (hf k hk)) (fun k l hk hl2 => ih k l hk hl2 _ (hh k l hk hl2)) hcap
theorem Ent.freezeS {s s' : Fr} {ds : List AD} {H : Hp} {K : Fr → List AD → Hp → Prop} {id st n : Nat} {f : Nat → List AV} (ho : H id = some (.row st n f))
 (hs : ∀ t, FrzS (Lr id st n f) (s t) (s' t)) (h : K s' ds (H.del id)) : Ent s ds H K := by
 intro S a hH hF hD
 obtain ⟨S2, hw, hle, h2, hc⟩ := frz_step hH ho
 exact ⟨S2, s', ds, _, hw, hle, h2, fun t => (hs t).conv hle (fun x y hxy v hv => by obtain ⟨rfl, g, hg, rfl⟩ := hxy; exact AV.Le.rsl hg _ _ (hc v hv)) _ (hF t), hD.mono hle, h⟩
/-- What slots hold, slot by slot. -/
inductive FrzL (L : AV → AV → Prop) : List (Nat × AV) → List (Nat × AV) → Prop
 | nil : FrzL L [] []
 | cons {t : Nat} {v v' : AV} {l l' : List (Nat × AV)} (h : FrzS L v v') (k : FrzL L l l') : FrzL L ((t, v) :: l) ((t, v') :: l')
theorem FrzL.refl {L : AV → AV → Prop} : ∀ l : List (Nat × AV), FrzL L l l
 | [] => .nil
 | (_, v) :: l => .cons (.same v) (FrzL.refl l)
theorem FrzL.fr {L : AV → AV → Prop} {l l' : List (Nat × AV)} (h : FrzL L l l') : ∀ t, FrzS L (Fr.of l t) (Fr.of l' t) := by
 intro t
 induction h with
 | nil => exact .same _
 | cons hv _ ih =>
   simp only [Fr.of]
   split
   ·exact hv
   ·exact ih
end Go.V
end
section
set_option linter.unusedVariables false
set_option linter.unusedSimpArgs false
namespace Go.V
set_option linter.unusedSectionVars false
variable [Inhabited GivT]
theorem kl_int {P : Program} {d : Nat} {T : TypeId} {q : IntKind} {n : Int} (hu : P.underlying T = some (.int q)) (hw : (Lit.int q n).wf = true) : P.keyLits (d + 1) T [.int q n] = some [.int q n] := by
 simp [Program.keyLits, hu, hw]
end Go.V
end
section
set_option linter.unusedVariables false
set_option linter.unusedSimpArgs false
namespace Go.V
set_option linter.unusedSectionVars false
variable [Inhabited GivT]
def slcT (P : Program) (T : TypeId) : Bool := match P.underlying T with
 | some (.slice _) => true
 | _ => false
section
variable {P : Program} {m : Option Tmp → Bool} {n id : Nat} {ops : Array Oper} {s : Fr} {ds : List AD} {H : Hp} {Q : Post}
end
end Go.V
end
section
set_option linter.unusedVariables false
namespace Go.Proofs.Ytkcgocmjaggdiaa.Wl
open Go.V
instance : Inhabited GivT := ⟨⟨[]⟩⟩

/-- A sounding. -/
structure Sd where
 w : Int
 a : Int
 b : Int
 c : Int
 d : Int

/-- A hold. -/
structure Hd where
 n : Nat
 fl : Nat → Int
 m : Nat
 sd : Nat → Sd

abbrev Sd.cs (s : Sd) : List AV := [i64 s.w, i64 s.a, i64 s.b, i64 s.c, i64 s.d]
abbrev flAV (n : Nat) (fl : Nat → Int) : AV := .rsl n 1 fun i => [i64 (fl i)]
abbrev sdAV (m : Nat) (sd : Nat → Sd) : AV := .rsl m 5 fun i => (sd i).cs
abbrev Hd.cs (h : Hd) : List AV := [flAV h.n h.fl, sdAV h.m h.sd]
abbrev Hd.av (h : Hd) : AV := .agg h.cs

def b64 (n : Int) : Prop := -9223372036854775808 ≤ n ∧ n ≤ 9223372036854775807

/-- The depth in a part, under a surface. -/
def uz (h : Hd) (s t p : Int) : Int := max 0 (s + t * (p - (h.n : Int) / 2) - h.fl p.toNat)
/-- The water under a surface, in the first parts. -/
def volN (h : Hd) (s t : Int) : Nat → Int
 | 0 => 0
 | k + 1 => volN h s t k + uz h s t k
def vol (h : Hd) (s t : Int) : Int := volN h s t h.n
/-- How high so much water stands. -/
def hzF (h : Hd) (w t : Int) : Nat → Int → Int
 | 0, s => s
 | k + 1, s => if vol h (s + 1) t ≤ w then hzF h w t k (s + 1) else s
def hz (h : Hd) (w t : Int) : Int := hzF h w t 140 (-20)
/-- The depth in a part, of so much water. -/
def dz (h : Hd) (w t p : Int) : Int := uz h (hz h w t) t p
/-- Can a sounding have been made with a list, of so much water? -/
def rightB (h : Hd) (s : Sd) (w t : Int) : Bool := decide (s.a ≤ t) && decide (t ≤ s.b) && (decide (s.c ≤ dz h w t s.w) && decide (dz h w t s.w ≤ s.d))
/-- One of the first k lists. -/
def anyN (h : Hd) (s : Sd) (w : Int) (k : Nat) : Bool := (List.range k).any fun j => rightB h s w ((j : Int) - 2)
def okc (h : Hd) (w : Int) (S i : Nat) : Bool := !S.testBit i || anyN h (h.sd i) w 5
def canB (h : Hd) (w : Int) (S : Nat) : Bool := decide (∀ i, i < h.m → okc h w S i = true)
def amtsN (h : Hd) (S n : Nat) : List Nat := (List.range n).filter fun w => canB h w S
def amts (h : Hd) (S : Nat) : List Nat := amtsN h S 101
/-- A list of numbers. -/
def natF (l : List Nat) : Nat → List AV := fun i => [i64 ((l.getD i 0 : Nat) : Int)]
abbrev natsAV (l : List Nat) : AV := .rsl l.length 1 (natF l)
def spanF (l : List (Int × Int)) : Nat → List AV := fun i => [i64 (l.getD i (0, 0)).1, i64 (l.getD i (0, 0)).2]
abbrev spansAV (l : List (Int × Int)) : AV := .rsl l.length 2 (spanF l)
theorem spanF_at (l : List (Int × Int)) (i : Nat) : spanF l i = [i64 (l.getD i (0, 0)).1, i64 (l.getD i (0, 0)).2] := rfl
theorem app_spans (l : List (Int × Int)) (a b : Int) (g : Nat → List AV) (hg : g 0 = [i64 a, i64 b]) : appF l.length 1 (spanF l) g = spanF (l ++ [(a, b)]) := by
 funext k
 simp only [appF, spanF, hg, getD_snoc]
 split <;> rfl
/-- A valid hold's numbers. -/
structure HOk (h : Hd) : Prop where
 n : h.n = 3 ∨ h.n = 5 ∨ h.n = 7
 m : h.m ≤ 6
 f : ∀ p : Nat, p < h.n → 0 ≤ h.fl p ∧ h.fl p ≤ 9
 w : ∀ i : Nat, i < h.m → 0 ≤ (h.sd i).w ∧ (h.sd i).w < h.n
 l : ∀ i : Nat, i < h.m → -2 ≤ (h.sd i).a ∧ (h.sd i).a ≤ (h.sd i).b ∧ (h.sd i).b ≤ 2
 r : ∀ i : Nat, i < h.m → 0 ≤ (h.sd i).c ∧ (h.sd i).c ≤ (h.sd i).d ∧ (h.sd i).d ≤ 40

theorem HOk.fi {h : Hd} (k : HOk h) (p : Int) (hp : 0 ≤ p ∧ p < h.n) : 0 ≤ h.fl p.toNat ∧ h.fl p.toNat ≤ 9 := k.f _ (by omega)

/-- No far too many parts or soundings. -/
structure Near (h : Hd) : Prop where
 n : h.n ≤ 40
 m : h.m ≤ 40
theorem HOk.near {h : Hd} (k : HOk h) : Near h := ⟨by have := k.n; omega, by have := k.m; omega⟩

instance decHOk (h : Hd) : Decidable (HOk h) :=
 decidable_of_iff ((h.n = 3 ∨ h.n = 5 ∨ h.n = 7) ∧ h.m ≤ 6 ∧ (∀ p, p < h.n → 0 ≤ h.fl p ∧ h.fl p ≤ 9) ∧ (∀ i, i < h.m → 0 ≤ (h.sd i).w ∧ (h.sd i).w < h.n) ∧
  (∀ i, i < h.m → -2 ≤ (h.sd i).a ∧ (h.sd i).a ≤ (h.sd i).b ∧ (h.sd i).b ≤ 2) ∧ (∀ i, i < h.m → 0 ≤ (h.sd i).c ∧ (h.sd i).c ≤ (h.sd i).d ∧ (h.sd i).d ≤ 40))
  ⟨fun ⟨a, b, c, d, e, f⟩ => ⟨a, b, c, d, e, f⟩, fun ⟨a, b, c, d, e, f⟩ => ⟨a, b, c, d, e, f⟩⟩
def allA (h : Hd) : List Nat := amts h (2 ^ h.m - 1)
def errE (h : Hd) (valid truth : Bool) : Int := if HOk h then if valid = true then if truth = true ∧ (allA h).length = 0 then 10 else 0 else 2 else 1
def amtB (w : Int) : Bool := decide (0 ≤ w) && decide (w ≤ 100)
def tiltB (t : Int) : Bool := decide (-2 ≤ t) && decide (t ≤ 2)
def partB (h : Hd) (p : Int) : Bool := decide (0 ≤ p) && decide (p ≤ (h.n : Int) - 1)
def sdnB (h : Hd) (p : Int) : Bool := decide (0 ≤ p) && decide (p ≤ (h.m : Int) - 1)
theorem tiltB_iff (w : Int) : tiltB w = true ↔ -2 ≤ w ∧ w ≤ 2 := by simp [tiltB]
theorem partB_iff (h : Hd) (p : Int) : partB h p = true ↔ 0 ≤ p ∧ p < h.n := by simp [partB]; omega
theorem errE_zero {h : Hd} {v t : Bool} (e : errE h v t = 0) : HOk h ∧ v = true ∧ (t = true → 0 < (allA h).length) := by
 unfold errE at e
 split at e
 ·split at e
  ·split at e
   ·omega
   ·rename_i h1 h2 h3
    exact ⟨h1, h2, fun ht => by apply Classical.byContradiction; intro hc; exact h3 ⟨ht, by omega⟩⟩
  ·omega
 ·omega

/-- One amount more: it lengthens the last span, or begins one. -/
def addS (acc : List (Int × Int)) (a : Int) : List (Int × Int) := match acc.getLast? with
 | some p => if p.2 = a - 1 then acc.dropLast ++ [(p.1, a)] else acc ++ [(a, a)]
 | none => acc ++ [(a, a)]
def spansL (l : List Nat) : List (Int × Int) := l.foldl (fun acc (a : Nat) => addS acc a) []
theorem spansL_snoc (l : List Nat) (a : Nat) : spansL (l ++ [a]) = addS (spansL l) a := by simp only [spansL, List.foldl_append, List.foldl_cons, List.foldl_nil]
theorem addS_len (acc : List (Int × Int)) (a : Int) : (addS acc a).length ≤ acc.length + 1 := by
 unfold addS
 split
 ·split
  ·simp
  ·simp
 ·simp
theorem spansL_len (l : List Nat) : (spansL l).length ≤ l.length := by
 suffices h : ∀ (l : List Nat) (acc : List (Int × Int)), (l.foldl (fun acc (a : Nat) => addS acc a) acc).length ≤ acc.length + l.length by
  have := h l []; simpa [spansL] using this
 intro l
 induction l with
 | nil => intro acc; simp
 | cons a l ih =>
   intro acc
   simp only [List.foldl_cons, List.length_cons]
   have := ih (addS acc a)
   have := addS_len acc a
   omega
theorem amts_le {h : Hd} {S w : Nat} (hw : w ∈ amts h S) : w ≤ 100 := by
 simp only [amts, amtsN, List.mem_filter, List.mem_range] at hw; omega
end Go.Proofs.Ytkcgocmjaggdiaa.Wl
end
section
set_option linter.unusedVariables false
set_option linter.unusedSimpArgs false
set_option maxHeartbeats 4000000
set_option maxRecDepth 100000
namespace Go.Proofs.Ytkcgocmjaggdiaa.Wl
open Go.V
theorem in_tri (n low high : Int) (H : Hp) : PTri Try.prog (fnA 99) [i64 n, i64 low, i64 high] H (boo (decide (low ≤ n) && decide (n ≤ high))) := by
 refine tri_v0 (fun _ => false) Try.func99 (by kernel_rfl) rfl (by simp only [List.length_append, List.length_cons, List.length_nil, Try.ntmps99]; decide) ?_
 simp only [vsAll, binA, binLitA, intA, aggA, aggV, boolA, nilA2, isConst, unA, loadA, loadRow, partA, partOk, fieldAddrA, indexAddrA, indexA, fieldA, extractA, lenA, nilCheckA, boxA, boxZ, cellA, cellsA, fillA, okParts, buildSliceA, buildMutA, makeSliceA, partIdx, elemsA, lensA, ifaceA, convA, mmA, pickA, okAll, stAll, opsA, partsA, partsOk, opA, allocA, boxMutA, newCells, okCells, storeObj, appendA, guardV, taA, nM, mapUpA, lookA, sliceA, sliceM, sliceS, boundsA, opO, okO, copyA, dstOk, nilA, quietOk, nilSliceOp, deferV, panA, resA, argFr, retA.eq_1, retA.eq_2, Nat.reduceAdd, Nat.reduceSub, Nat.reduceMul, Nat.reduceLT, Nat.reduceLeDiff, Nat.reduceEqDiff, Nat.reduceBEq, Int.reduceAdd, Int.reduceSub, Int.reduceMul, Int.reduceNeg, Int.reduceLE, Int.reduceLT, Int.reduceEq, Int.reduceNe, Int.reduceToNat, ↓reduceIte, reduceCtorEq, implies_true, forall_const, eq_self, ne_eq, wtAll, Try.ntmps99, Try.results99]

theorem span_tri (a b low high : Int) (H : Hp) : PTri Try.prog (fnA 100) [.agg [i64 a, i64 b], i64 low, i64 high] H (boo (decide (low ≤ a) && decide (a ≤ b) && decide (b ≤ high))) := by
 refine tri_v0 (fun _ => false) Try.func100 (by kernel_rfl) rfl (by simp only [List.length_append, List.length_cons, List.length_nil, Try.ntmps100]; decide) ?_
 simp only [vsAll, binA, binLitA, intA, aggA, aggV, boolA, nilA2, isConst, unA, loadA, loadRow, partA, partOk, fieldAddrA, indexAddrA, indexA, fieldA, extractA, lenA, nilCheckA, boxA, boxZ, cellA, cellsA, fillA, okParts, buildSliceA, buildMutA, makeSliceA, partIdx, elemsA, lensA, ifaceA, convA, mmA, pickA, okAll, stAll, opsA, partsA, partsOk, opA, allocA, boxMutA, newCells, okCells, storeObj, appendA, guardV, taA, nM, mapUpA, lookA, sliceA, sliceM, sliceS, boundsA, opO, okO, copyA, dstOk, nilA, quietOk, nilSliceOp, deferV, panA, resA, argFr, retA.eq_1, retA.eq_2, Nat.reduceAdd, Nat.reduceSub, Nat.reduceMul, Nat.reduceLT, Nat.reduceLeDiff, Nat.reduceEqDiff, Nat.reduceBEq, Int.reduceAdd, Int.reduceSub, Int.reduceMul, Int.reduceNeg, Int.reduceLE, Int.reduceLT, Int.reduceEq, Int.reduceNe, Int.reduceToNat, ↓reduceIte, reduceCtorEq, implies_true, forall_const, eq_self, ne_eq, wtAll, Try.ntmps100, Try.results100]

theorem mul_small (t k : Int) (ht : -2 ≤ t ∧ t ≤ 2) (hk : -7 ≤ k ∧ k ≤ 7) : -14 ≤ t * k ∧ t * k ≤ 14 := by
 have : t = -2 ∨ t = -1 ∨ t = 0 ∨ t = 1 ∨ t = 2 := by omega
 rcases this with rfl | rfl | rfl | rfl | rfl <;> omega

theorem under_tri (h : Hd) (s t p : Int) (H : Hp) (k : HOk h) (hp : 0 ≤ p ∧ p < h.n) (hs : -1000 ≤ s ∧ s ≤ 1000) (ht : -2 ≤ t ∧ t ≤ 2) :
 PTri Try.prog (fnA 107) [h.av, i64 s, i64 t, i64 p] H (i64 (uz h s t p)) := by
 refine tri_v0 (fun _ => false) Try.func107 (by kernel_rfl) rfl (by simp only [List.length_append, List.length_cons, List.length_nil, Try.ntmps107]; decide) ?_
 simp only [vsAll, binA, binLitA, intA, aggA, aggV, boolA, nilA2, isConst, unA, loadA, loadRow, partA, partOk, fieldAddrA, indexAddrA, indexA, fieldA, extractA, lenA, nilCheckA, boxA, boxZ, cellA, cellsA, fillA, okParts, buildSliceA, buildMutA, makeSliceA, partIdx, elemsA, lensA, ifaceA, convA, mmA, pickA, okAll, stAll, opsA, partsA, partsOk, opA, allocA, boxMutA, newCells, okCells, storeObj, appendA, guardV, taA, nM, mapUpA, lookA, sliceA, sliceM, sliceS, boundsA, opO, okO, copyA, dstOk, nilA, quietOk, nilSliceOp, deferV, panA, resA, argFr, retA.eq_1, retA.eq_2, Nat.reduceAdd, Nat.reduceSub, Nat.reduceMul, Nat.reduceLT, Nat.reduceLeDiff, Nat.reduceEqDiff, Nat.reduceBEq, Int.reduceAdd, Int.reduceSub, Int.reduceMul, Int.reduceNeg, Int.reduceLE, Int.reduceLT, Int.reduceEq, Int.reduceNe, Int.reduceToNat, ↓reduceIte, reduceCtorEq, implies_true, forall_const, eq_self, ne_eq, wtAll, Try.ntmps107, Try.results107]
 refine vs_draw 18 (by decide +kernel) ?_
 simp only [vsAll, binA, binLitA, intA, aggA, aggV, boolA, nilA2, isConst, unA, loadA, loadRow, partA, partOk, fieldAddrA, indexAddrA, indexA, fieldA, extractA, lenA, nilCheckA, boxA, boxZ, cellA, cellsA, fillA, okParts, buildSliceA, buildMutA, makeSliceA, partIdx, elemsA, lensA, ifaceA, convA, mmA, pickA, okAll, stAll, opsA, partsA, partsOk, opA, allocA, boxMutA, newCells, okCells, storeObj, appendA, guardV, taA, nM, mapUpA, lookA, sliceA, sliceM, sliceS, boundsA, opO, okO, copyA, dstOk, nilA, quietOk, nilSliceOp, deferV, panA, resA, argFr, retA.eq_1, retA.eq_2, Nat.reduceAdd, Nat.reduceSub, Nat.reduceMul, Nat.reduceLT, Nat.reduceLeDiff, Nat.reduceEqDiff, Nat.reduceBEq, Int.reduceAdd, Int.reduceSub, Int.reduceMul, Int.reduceNeg, Int.reduceLE, Int.reduceLT, Int.reduceEq, Int.reduceNe, Int.reduceToNat, ↓reduceIte, reduceCtorEq, implies_true, forall_const, eq_self, ne_eq, wtAll, Try.ntmps107, Try.results107]
 have hf := k.fi p hp
 have hn := k.n
 have e : (h.n : Int).tdiv 2 = (h.n : Int) / 2 := Int.tdiv_eq_ediv_of_nonneg (by omega)
 have hm := mul_small t (p - (h.n : Int) / 2) ht (by omega)
 simp only [e, InR_i64, uz, and_true]
 omega

theorem uz_bound (h : Hd) (s t p : Int) (k : HOk h) (hp : 0 ≤ p ∧ p < h.n) (ht : -2 ≤ t ∧ t ≤ 2) : 0 ≤ uz h s t p ∧ uz h s t p ≤ max 0 (s + 14) := by
 have hf := k.fi p hp
 have hn := k.n
 have hm := mul_small t (p - (h.n : Int) / 2) ht (by omega)
 simp only [uz]
 omega

theorem volN_bound (h : Hd) (s t : Int) (k : HOk h) (hs : -1000 ≤ s ∧ s ≤ 1000) (ht : -2 ≤ t ∧ t ≤ 2) (i : Nat) (hi : i ≤ h.n) : 0 ≤ volN h s t i ∧ volN h s t i ≤ 1014 * i := by
 induction i with
 | zero => simp [volN]
 | succ i ih =>
   have := ih (by omega)
   have h2 := uz_bound h s t i k (by omega) ht
   simp only [volN, Int.natCast_add, Int.natCast_one]
   omega

theorem volume_tri (h : Hd) (s t : Int) (H : Hp) (k : HOk h) (hs : -1000 ≤ s ∧ s ≤ 1000) (ht : -2 ≤ t ∧ t ≤ 2) :
 PTri Try.prog (fnA 109) [h.av, i64 s, i64 t] H (i64 (vol h s t)) := by
 refine tri_v0 (fun _ => false) Try.func109 (by kernel_rfl) rfl (by simp only [List.length_append, List.length_cons, List.length_nil, Try.ntmps109]; decide) ?_
 simp only [vsAll, binA, binLitA, intA, aggA, aggV, boolA, nilA2, isConst, unA, loadA, loadRow, partA, partOk, fieldAddrA, indexAddrA, indexA, fieldA, extractA, lenA, nilCheckA, boxA, boxZ, cellA, cellsA, fillA, okParts, buildSliceA, buildMutA, makeSliceA, partIdx, elemsA, lensA, ifaceA, convA, mmA, pickA, okAll, stAll, opsA, partsA, partsOk, opA, allocA, boxMutA, newCells, okCells, storeObj, appendA, guardV, taA, nM, mapUpA, lookA, sliceA, sliceM, sliceS, boundsA, opO, okO, copyA, dstOk, nilA, quietOk, nilSliceOp, deferV, panA, resA, argFr, retA.eq_1, retA.eq_2, Nat.reduceAdd, Nat.reduceSub, Nat.reduceMul, Nat.reduceLT, Nat.reduceLeDiff, Nat.reduceEqDiff, Nat.reduceBEq, Int.reduceAdd, Int.reduceSub, Int.reduceMul, Int.reduceNeg, Int.reduceLE, Int.reduceLT, Int.reduceEq, Int.reduceNe, Int.reduceToNat, ↓reduceIte, reduceCtorEq, implies_true, forall_const, eq_self, ne_eq, wtAll, Try.ntmps109, Try.results109]
 have hn := k.n
 refine vs_loop (σ := Nat) (fun i => i ≤ h.n) (fun i => [(1, i64 s), (2, i64 t), (3, .rptr 1 2 (fun _ => h.cs) 0 0), (7, i64 (volN h s t i)), (8, i64 i)]) (fun _ => H) (fun i => h.n - i) 0 (Nat.zero_le _) ?_ ?_ fun i hi => ?_
 ·simp only [vsAll, binA, binLitA, intA, aggA, aggV, boolA, nilA2, isConst, unA, loadA, loadRow, partA, partOk, fieldAddrA, indexAddrA, indexA, fieldA, extractA, lenA, nilCheckA, boxA, boxZ, cellA, cellsA, fillA, okParts, buildSliceA, buildMutA, makeSliceA, partIdx, elemsA, lensA, ifaceA, convA, mmA, pickA, okAll, stAll, opsA, partsA, partsOk, opA, allocA, boxMutA, newCells, okCells, storeObj, appendA, guardV, taA, nM, mapUpA, lookA, sliceA, sliceM, sliceS, boundsA, opO, okO, copyA, dstOk, nilA, quietOk, nilSliceOp, deferV, panA, resA, argFr, retA.eq_1, retA.eq_2, Nat.reduceAdd, Nat.reduceSub, Nat.reduceMul, Nat.reduceLT, Nat.reduceLeDiff, Nat.reduceEqDiff, Nat.reduceBEq, Int.reduceAdd, Int.reduceSub, Int.reduceMul, Int.reduceNeg, Int.reduceLE, Int.reduceLT, Int.reduceEq, Int.reduceNe, Int.reduceToNat, ↓reduceIte, reduceCtorEq, implies_true, forall_const, eq_self, ne_eq, wtAll, Try.ntmps109, Try.results109, volN, Int.natCast_zero]
 ·simp only [HSub_refl]
 ·simp only [vsAll, binA, binLitA, intA, aggA, aggV, boolA, nilA2, isConst, unA, loadA, loadRow, partA, partOk, fieldAddrA, indexAddrA, indexA, fieldA, extractA, lenA, nilCheckA, boxA, boxZ, cellA, cellsA, fillA, okParts, buildSliceA, buildMutA, makeSliceA, partIdx, elemsA, lensA, ifaceA, convA, mmA, pickA, okAll, stAll, opsA, partsA, partsOk, opA, allocA, boxMutA, newCells, okCells, storeObj, appendA, guardV, taA, nM, mapUpA, lookA, sliceA, sliceM, sliceS, boundsA, opO, okO, copyA, dstOk, nilA, quietOk, nilSliceOp, deferV, panA, resA, argFr, retA.eq_1, retA.eq_2, Nat.reduceAdd, Nat.reduceSub, Nat.reduceMul, Nat.reduceLT, Nat.reduceLeDiff, Nat.reduceEqDiff, Nat.reduceBEq, Int.reduceAdd, Int.reduceSub, Int.reduceMul, Int.reduceNeg, Int.reduceLE, Int.reduceLT, Int.reduceEq, Int.reduceNe, Int.reduceToNat, ↓reduceIte, reduceCtorEq, implies_true, forall_const, eq_self, ne_eq, wtAll, Try.ntmps109, Try.results109]
  refine condD (fun hb => ?_) (fun hb => ?_)
  ·simp only [vsAll, binA, binLitA, intA, aggA, aggV, boolA, nilA2, isConst, unA, loadA, loadRow, partA, partOk, fieldAddrA, indexAddrA, indexA, fieldA, extractA, lenA, nilCheckA, boxA, boxZ, cellA, cellsA, fillA, okParts, buildSliceA, buildMutA, makeSliceA, partIdx, elemsA, lensA, ifaceA, convA, mmA, pickA, okAll, stAll, opsA, partsA, partsOk, opA, allocA, boxMutA, newCells, okCells, storeObj, appendA, guardV, taA, nM, mapUpA, lookA, sliceA, sliceM, sliceS, boundsA, opO, okO, copyA, dstOk, nilA, quietOk, nilSliceOp, deferV, panA, resA, argFr, retA.eq_1, retA.eq_2, Nat.reduceAdd, Nat.reduceSub, Nat.reduceMul, Nat.reduceLT, Nat.reduceLeDiff, Nat.reduceEqDiff, Nat.reduceBEq, Int.reduceAdd, Int.reduceSub, Int.reduceMul, Int.reduceNeg, Int.reduceLE, Int.reduceLT, Int.reduceEq, Int.reduceNe, Int.reduceToNat, ↓reduceIte, reduceCtorEq, implies_true, forall_const, eq_self, ne_eq, wtAll, Try.ntmps109, Try.results109]
   refine callK_pure (under_tri h s t i H k (by omega) hs ht) ?_
   simp only [vsAll, binA, binLitA, intA, aggA, aggV, boolA, nilA2, isConst, unA, loadA, loadRow, partA, partOk, fieldAddrA, indexAddrA, indexA, fieldA, extractA, lenA, nilCheckA, boxA, boxZ, cellA, cellsA, fillA, okParts, buildSliceA, buildMutA, makeSliceA, partIdx, elemsA, lensA, ifaceA, convA, mmA, pickA, okAll, stAll, opsA, partsA, partsOk, opA, allocA, boxMutA, newCells, okCells, storeObj, appendA, guardV, taA, nM, mapUpA, lookA, sliceA, sliceM, sliceS, boundsA, opO, okO, copyA, dstOk, nilA, quietOk, nilSliceOp, deferV, panA, resA, argFr, retA.eq_1, retA.eq_2, Nat.reduceAdd, Nat.reduceSub, Nat.reduceMul, Nat.reduceLT, Nat.reduceLeDiff, Nat.reduceEqDiff, Nat.reduceBEq, Int.reduceAdd, Int.reduceSub, Int.reduceMul, Int.reduceNeg, Int.reduceLE, Int.reduceLT, Int.reduceEq, Int.reduceNe, Int.reduceToNat, ↓reduceIte, reduceCtorEq, implies_true, forall_const, eq_self, ne_eq, wtAll, Try.ntmps109, Try.results109]
   have hv := volN_bound h s t k hs ht i hi
   have hv2 := volN_bound h s t k hs ht (i+1) (by omega)
   simp only [volN, InR_i64] at hv2 ⊢
   refine ⟨by omega, by omega, loop_next (i + 1) (by omega) (by omega) ?_ ?_⟩
   ·simp only [vsAll, binA, binLitA, intA, aggA, aggV, boolA, nilA2, isConst, unA, loadA, loadRow, partA, partOk, fieldAddrA, indexAddrA, indexA, fieldA, extractA, lenA, nilCheckA, boxA, boxZ, cellA, cellsA, fillA, okParts, buildSliceA, buildMutA, makeSliceA, partIdx, elemsA, lensA, ifaceA, convA, mmA, pickA, okAll, stAll, opsA, partsA, partsOk, opA, allocA, boxMutA, newCells, okCells, storeObj, appendA, guardV, taA, nM, mapUpA, lookA, sliceA, sliceM, sliceS, boundsA, opO, okO, copyA, dstOk, nilA, quietOk, nilSliceOp, deferV, panA, resA, argFr, retA.eq_1, retA.eq_2, Nat.reduceAdd, Nat.reduceSub, Nat.reduceMul, Nat.reduceLT, Nat.reduceLeDiff, Nat.reduceEqDiff, Nat.reduceBEq, Int.reduceAdd, Int.reduceSub, Int.reduceMul, Int.reduceNeg, Int.reduceLE, Int.reduceLT, Int.reduceEq, Int.reduceNe, Int.reduceToNat, ↓reduceIte, reduceCtorEq, implies_true, forall_const, eq_self, ne_eq, wtAll, Try.ntmps109, Try.results109, volN, Int.natCast_add, Int.natCast_one]
   ·simp only [HSub_refl]
  ·have e : i = h.n := by omega
   simp only [vsAll, binA, binLitA, intA, aggA, aggV, boolA, nilA2, isConst, unA, loadA, loadRow, partA, partOk, fieldAddrA, indexAddrA, indexA, fieldA, extractA, lenA, nilCheckA, boxA, boxZ, cellA, cellsA, fillA, okParts, buildSliceA, buildMutA, makeSliceA, partIdx, elemsA, lensA, ifaceA, convA, mmA, pickA, okAll, stAll, opsA, partsA, partsOk, opA, allocA, boxMutA, newCells, okCells, storeObj, appendA, guardV, taA, nM, mapUpA, lookA, sliceA, sliceM, sliceS, boundsA, opO, okO, copyA, dstOk, nilA, quietOk, nilSliceOp, deferV, panA, resA, argFr, retA.eq_1, retA.eq_2, Nat.reduceAdd, Nat.reduceSub, Nat.reduceMul, Nat.reduceLT, Nat.reduceLeDiff, Nat.reduceEqDiff, Nat.reduceBEq, Int.reduceAdd, Int.reduceSub, Int.reduceMul, Int.reduceNeg, Int.reduceLE, Int.reduceLT, Int.reduceEq, Int.reduceNe, Int.reduceToNat, ↓reduceIte, reduceCtorEq, implies_true, forall_const, eq_self, ne_eq, wtAll, Try.ntmps109, Try.results109, e, vol]

end Go.Proofs.Ytkcgocmjaggdiaa.Wl
end
section
set_option linter.unusedVariables false
set_option linter.unusedSimpArgs false
set_option maxHeartbeats 4000000
set_option maxRecDepth 100000
namespace Go.Proofs.Ytkcgocmjaggdiaa.Wl
open Go.V
theorem uz_mono (h : Hd) (s s' t p : Int) (hs : s ≤ s') : uz h s t p ≤ uz h s' t p := by
 simp only [uz]; omega
theorem volN_mono (h : Hd) (s s' t : Int) (hs : s ≤ s') (i : Nat) : volN h s t i ≤ volN h s' t i := by
 induction i with
 | zero => simp [volN]
 | succ i ih => have := uz_mono h s s' t i hs; simp only [volN]; omega
theorem vol_mono (h : Hd) (s s' t : Int) (hs : s ≤ s') : vol h s t ≤ vol h s' t := volN_mono h s s' t hs _
theorem volN_part (h : Hd) (s t : Int) (k : HOk h) (ht : -2 ≤ t ∧ t ≤ 2) (p i : Nat) (hp : p < i) (hi : i ≤ h.n) : uz h s t p ≤ volN h s t i := by
 induction i with
 | zero => omega
 | succ i ih =>
   have h0 : ∀ j : Nat, j ≤ h.n → 0 ≤ volN h s t j := fun j hj => by
    clear ih
    induction j with
    | zero => simp [volN]
    | succ j ih2 => have := ih2 (by omega); have := uz_bound h s t j k (by omega) ht; simp only [volN]; omega
   have h1 := uz_bound h s t i k (by omega) ht
   simp only [volN]
   by_cases e : p = i
   ·subst e; have := h0 p (by omega); omega
   ·have := ih (by omega) (by omega); omega
theorem vol_big (h : Hd) (s t : Int) (k : HOk h) (ht : -2 ≤ t ∧ t ≤ 2) (hs : 110 ≤ s) : 100 < vol h s t := by
 have hn := k.n
 have h1 := volN_part h s t k ht (h.n / 2) h.n (by omega) (Nat.le_refl _)
 have h2 := k.f (h.n / 2) (by omega)
 have e : ((h.n / 2 : Nat) : Int) - (h.n : Int) / 2 = 0 := by omega
 simp only [uz, e, Int.mul_zero, Int.toNat_natCast] at h1
 simp only [vol]
 omega
theorem vol_low (h : Hd) (s t : Int) (k : HOk h) (ht : -2 ≤ t ∧ t ≤ 2) (hs : s ≤ -14) : vol h s t = 0 := by
 have : ∀ i : Nat, i ≤ h.n → volN h s t i = 0 := fun i hi => by
  induction i with
  | zero => rfl
  | succ i ih => have := uz_bound h s t i k (by omega) ht; simp only [volN, ih (by omega)]; omega
 exact this _ (Nat.le_refl _)
theorem hzF_spec (h : Hd) (w t : Int) (k : HOk h) (ht : -2 ≤ t ∧ t ≤ 2) (hw : 0 ≤ w ∧ w ≤ 100) (f : Nat) (s : Int) (hs : vol h s t ≤ w) (hl : -20 ≤ s) (hf : 110 ≤ s + f) :
 -20 ≤ hzF h w t f s ∧ hzF h w t f s ≤ 110 ∧ vol h (hzF h w t f s) t ≤ w ∧ w < vol h (hzF h w t f s + 1) t := by
 induction f generalizing s with
 | zero => have := vol_big h s t k ht (by omega); omega
 | succ f ih =>
   simp only [hzF]
   split
   ·rename_i h1; exact ih (s + 1) h1 (by omega) (by omega)
   ·rename_i h1
    refine ⟨hl, ?_, hs, by omega⟩
    apply Classical.byContradiction; intro h2
    have := vol_big h s t k ht (by omega); omega
theorem hz_spec (h : Hd) (w t : Int) (k : HOk h) (ht : -2 ≤ t ∧ t ≤ 2) (hw : 0 ≤ w ∧ w ≤ 100) :
 -20 ≤ hz h w t ∧ hz h w t ≤ 110 ∧ vol h (hz h w t) t ≤ w ∧ w < vol h (hz h w t + 1) t := by
 have h1 := vol_low h (-20) t k ht (by omega)
 exact hzF_spec h w t k ht hw 140 (-20) (by omega) (by omega) (by omega)
theorem hz_unique (h : Hd) (w t s : Int) (k : HOk h) (ht : -2 ≤ t ∧ t ≤ 2) (hw : 0 ≤ w ∧ w ≤ 100) (h1 : vol h s t ≤ w) (h2 : w < vol h (s + 1) t) : s = hz h w t := by
 obtain ⟨_, _, h3, h4⟩ := hz_spec h w t k ht hw
 apply Classical.byContradiction; intro hne
 by_cases hlt : s < hz h w t
 ·have := vol_mono h (s + 1) (hz h w t) t (by omega); omega
 ·have := vol_mono h (hz h w t + 1) s t (by omega); omega

theorem high_tri (h : Hd) (w t : Int) (H : Hp) (k : HOk h) (hw : 0 ≤ w ∧ w ≤ 100) (ht : -2 ≤ t ∧ t ≤ 2) :
 PTri Try.prog (fnA 108) [h.av, i64 w, i64 t] H (i64 (hz h w t)) := by
 refine tri_v0 (fun _ => false) Try.func108 (by kernel_rfl) rfl (by simp only [List.length_append, List.length_cons, List.length_nil, Try.ntmps108]; decide) ?_
 simp only [vsAll, boxA, boxZ, opA, dstOk, nilSliceOp, argFr, Nat.reduceAdd, Nat.reduceLT, Int.reduceNeg, eq_self, wtAll, Try.ntmps108]
 refine vs_loop (σ := Int) (fun s => -20 ≤ s ∧ s ≤ 110 ∧ vol h s t ≤ w) (fun s => [(1, i64 w), (2, i64 t), (3, .rptr 1 2 (fun _ => h.cs) 0 0), (7, i64 s)]) (fun _ => H) (fun s => (200 - s).toNat) (-20) ?_ ?_ ?_ fun s hs => ?_
 ·have := vol_low h (-20) t k ht (by omega); omega
 ·simp only [vsAll, argFr, Nat.reduceEqDiff, Int.reduceNeg, ↓reduceIte, eq_self]
 ·simp only [HSub_refl]
 ·obtain ⟨h1, h2, h3⟩ := hs
  simp only [vsAll, binA, binLitA, intA, loadA, loadRow, partA, partOk, okAll, stAll, opsA, opA, dstOk, Nat.reduceLT, Nat.reduceEqDiff, Int.reduceNeg, ↓reduceIte, eq_self, wtAll]
  refine ⟨by simp only [InR_i64]; omega, callK_pure (volume_tri h (s + 1) t H k (by omega) ht) ?_⟩
  simp only [vsAll, binA, binLitA, intA, opA, dstOk, Nat.reduceLT, Nat.reduceEqDiff, Int.reduceNeg, ↓reduceIte, eq_self]
  refine condD (fun hb => ?_) (fun hb => ?_)
  ·have hlt : s + 1 ≤ 110 := by
    apply Classical.byContradiction; intro h2
    have := vol_big h (s + 1) t k ht (by omega); omega
   simp only [vsAll, binA, binLitA, intA, opA, dstOk, nilSliceOp, Nat.reduceLT, Nat.reduceEqDiff, Int.reduceNeg, ↓reduceIte, eq_self]
   refine ⟨by simp only [InR_i64]; omega, loop_next (s + 1) ⟨by omega, by omega, hb⟩ (by omega) ?_ ?_⟩
   ·simp only [vsAll, Nat.reduceEqDiff, ↓reduceIte, eq_self]
   ·simp only [HSub_refl]
  ·have e := hz_unique h w t s k ht hw h3 (by omega)
   subst e
   simp only [vsAll, opA, dstOk, nilSliceOp, resA, retA.eq_1, Nat.reduceLT, Nat.reduceEqDiff, Int.reduceNeg, ↓reduceIte, eq_self, Try.results108]

theorem deep_tri (h : Hd) (w t p : Int) (H : Hp) (k : HOk h) (hw : 0 ≤ w ∧ w ≤ 100) (ht : -2 ≤ t ∧ t ≤ 2) (hp : 0 ≤ p ∧ p < h.n) :
 PTri Try.prog (fnA 106) [h.av, i64 w, i64 t, i64 p] H (i64 (dz h w t p)) := by
 have hz1 := hz_spec h w t k ht hw
 refine tri_v0 (fun _ => false) Try.func106 (by kernel_rfl) rfl (by simp only [List.length_append, List.length_cons, List.length_nil, Try.ntmps106]; decide) ?_
 simp only [vsAll, boxA, boxZ, opA, dstOk, nilSliceOp, argFr, Nat.reduceAdd, Nat.reduceLT, eq_self, wtAll, Try.ntmps106]
 refine vs_draw 9 (by decide +kernel) ?_
 simp only [vsAll, loadA, loadRow, partA, partOk, opA, dstOk, argFr, Nat.reduceLT, Nat.reduceEqDiff, ↓reduceIte, eq_self, wtAll]
 refine qcall _ ⟨trivial, by simp only [vsAll, okAll, opsA, opA, Nat.reduceEqDiff, ↓reduceIte, eq_self], high_tri h w t H k hw ht⟩ ?_
 simp only [vsAll, opA, dstOk, argFr, Nat.reduceLT, Nat.reduceEqDiff, ↓reduceIte, eq_self]
 refine qcall _ ⟨trivial, by simp only [vsAll, okAll, opsA, opA, Nat.reduceEqDiff, ↓reduceIte, eq_self], under_tri h _ t p H k hp (by omega) ht⟩ ?_
 simp only [vsAll, opA, dstOk, resA, retA.eq_1, Nat.reduceLT, ↓reduceIte, eq_self, Try.results106, dz]

theorem right_tri (h : Hd) (s : Sd) (w t : Int) (H : Hp) (k : HOk h) (hw : 0 ≤ w ∧ w ≤ 100) (ht : -2 ≤ t ∧ t ≤ 2) (hp : 0 ≤ s.w ∧ s.w < h.n) :
 PTri Try.prog (fnA 105) [h.av, .agg s.cs, i64 w, i64 t] H (boo (rightB h s w t)) := by
 refine tri_v0 (fun _ => false) Try.func105 (by kernel_rfl) rfl (by simp only [List.length_append, List.length_cons, List.length_nil, Try.ntmps105]; decide) ?_
 simp only [vsAll, loadA, loadRow, partA, partOk, fieldAddrA, boxA, boxZ, okAll, stAll, opsA, opA, dstOk, nilSliceOp, argFr, Nat.reduceAdd, Nat.reduceLT, Nat.reduceEqDiff, ↓reduceIte, eq_self, wtAll, Try.ntmps105]
 refine callK_pure (deep_tri h w t s.w H k hw ht hp) ?_
 simp only [vsAll, loadA, loadRow, partA, partOk, fieldAddrA, okAll, stAll, opsA, opA, dstOk, nilSliceOp, argFr, Nat.reduceAdd, Nat.reduceLT, Nat.reduceEqDiff, ↓reduceIte, eq_self, wtAll]
 refine callK_pure (in_tri t s.a s.b H) ?_
 simp only [vsAll, loadA, loadRow, partA, partOk, fieldAddrA, opA, guardV, dstOk, Nat.reduceAdd, Nat.reduceLT, Nat.reduceEqDiff, ↓reduceIte, implies_true, eq_self, wtAll]
 refine gcall _ (fun hg => ⟨trivial, by simp only [vsAll, okAll, opsA, opA, Nat.reduceEqDiff, ↓reduceIte, eq_self, hg], in_tri (dz h w t s.w) s.c s.d H⟩) ?_
 simp only [vsAll, pickA, opA, dstOk, nilSliceOp, resA, retA.eq_1, Nat.reduceLT, Nat.reduceEqDiff, ↓reduceIte, implies_true, eq_self, Try.results105, rightB]

theorem power_tri (n : Nat) (H : Hp) (hn : n ≤ 60) : PTri Try.prog (fnA 98) [i64 n] H (i64 ((2 ^ n : Nat) : Int)) := by
 refine tri_v0 (fun _ => false) Try.func98 (by kernel_rfl) rfl (by simp only [List.length_append, List.length_cons, List.length_nil, Try.ntmps98]; decide) ?_
 simp only [vsAll, opA, dstOk, nilSliceOp, Nat.reduceLT, eq_self, Try.ntmps98]
 refine vs_loop (σ := Nat) (fun i => i ≤ n) (fun i => [(0, i64 n), (3, i64 ((2 ^ i : Nat) : Int)), (4, i64 i)]) (fun _ => H) (fun i => n - i) 0 (Nat.zero_le _) ?_ ?_ fun i hi => ?_
 ·simp only [vsAll, argFr, Nat.reduceEqDiff, ↓reduceIte, reduceCtorEq, eq_self, Int.natCast_zero, Nat.pow_zero, Int.natCast_one]
 ·simp only [HSub_refl]
 ·simp only [vsAll, binA, binLitA, intA, opA, dstOk, Nat.reduceLT, Nat.reduceEqDiff, ↓reduceIte, reduceCtorEq, eq_self]
  refine condD (fun hb => ?_) (fun hb => ?_)
  ·have h1 : 2 ^ (i + 1) ≤ 2 ^ 60 := Nat.pow_le_pow_right (by omega) (by omega)
   rw [Nat.pow_succ] at h1
   simp only [vsAll, binA, binLitA, intA, opA, dstOk, nilSliceOp, Nat.reduceLT, Nat.reduceEqDiff, ↓reduceIte, reduceCtorEq, eq_self]
   simp only [InR_i64]
   refine ⟨by omega, by omega, loop_next (i + 1) (by omega) (by omega) ?_ ?_⟩
   ·have e : 2 * ((2 ^ i : Nat) : Int) = ((2 ^ (i + 1) : Nat) : Int) := by rw [Nat.pow_succ]; omega
    simp only [vsAll, Nat.reduceEqDiff, ↓reduceIte, reduceCtorEq, eq_self, e, Int.natCast_add, Int.natCast_one]
   ·simp only [HSub_refl]
  ·have e : i = n := by omega
   subst e
   simp only [vsAll, opA, dstOk, nilSliceOp, resA, retA.eq_1, Nat.reduceLT, Nat.reduceEqDiff, ↓reduceIte, reduceCtorEq, eq_self, Try.results98]

theorem has_eq (S n : Nat) : decide ((((S : Int).tdiv ((2 ^ n : Nat) : Int)).tmod 2) = 1) = S.testBit n := by
 rw [Nat.testBit_eq_decide_div_mod_eq]
 have e : (S : Int).tdiv ((2 ^ n : Nat) : Int) = ((S / 2 ^ n : Nat) : Int) := by rw [Int.tdiv_eq_ediv_of_nonneg (by omega)]; rfl
 rw [e]
 generalize S / 2 ^ n = q
 congr 1
 rw [Int.tmod_eq_emod_of_nonneg (by omega)]
 exact propext ⟨fun h => by omega, fun h => by omega⟩

theorem has_tri (S n : Nat) (H : Hp) (hn : n ≤ 60) (hS : S < 2 ^ 60) : PTri Try.prog (fnA 104) [i64 S, i64 n] H (boo (S.testBit n)) := by
 refine tri_v0 (fun _ => false) Try.func104 (by kernel_rfl) rfl (by simp only [List.length_append, List.length_cons, List.length_nil, Try.ntmps104]; decide) ?_
 simp only [vsAll, okAll, stAll, opsA, opA, dstOk, nilSliceOp, argFr, Nat.reduceLT, Nat.reduceEqDiff, ↓reduceIte, reduceCtorEq, eq_self, Try.ntmps104]
 refine callK_pure (power_tri n H hn) ?_
 simp only [vsAll, binA, binLitA, intA, opA, dstOk, nilSliceOp, resA, retA.eq_1, Nat.reduceLT, Nat.reduceEqDiff, Int.reduceEq, ↓reduceIte, eq_self, ne_eq, Try.results104]
 have h0 : 0 < 2 ^ n := Nat.pos_of_ne_zero (by simp)
 have h1 : (S : Int).tdiv ((2 ^ n : Nat) : Int) = ((S / 2 ^ n : Nat) : Int) := by rw [Int.tdiv_eq_ediv_of_nonneg (by omega)]; rfl
 have h2 : S / 2 ^ n ≤ S := Nat.div_le_self _ _
 refine ⟨⟨by omega, ?_⟩, by rw [has_eq]⟩
 rw [h1, InR_i64]
 generalize S / 2 ^ n = q at *
 omega

theorem anyN_succ (h : Hd) (s : Sd) (w : Int) (k : Nat) : anyN h s w (k + 1) = (anyN h s w k || rightB h s w ((k : Int) - 2)) := by
 simp only [anyN, List.range_succ, List.any_append, List.any_cons, List.any_nil, Bool.or_false]
theorem anyN_le (h : Hd) (s : Sd) (w : Int) (k k' : Nat) (hk : k ≤ k') (ha : anyN h s w k = true) : anyN h s w k' = true := by
 induction k' with
 | zero => have : k = 0 := by omega
           subst this; exact ha
 | succ k' ih =>
   by_cases e : k = k' + 1
   ·subst e; exact ha
   ·rw [anyN_succ, ih (by omega), Bool.true_or]

theorem can_tri (h : Hd) (w : Int) (S : Nat) (H : Hp) (k : HOk h) (hw : 0 ≤ w ∧ w ≤ 100) (hS : S < 2 ^ 60) :
 PTri Try.prog (fnA 103) [h.av, i64 w, i64 S] H (boo (canB h w S)) := by
 have hm := k.m
 refine tri_v0 (fun _ => false) Try.func103 (by kernel_rfl) rfl (by simp only [List.length_append, List.length_cons, List.length_nil, Try.ntmps103]; decide) ?_
 simp only [vsAll, boxA, boxZ, opA, dstOk, nilSliceOp, argFr, Nat.reduceAdd, Nat.reduceLT, Int.reduceNeg, eq_self, wtAll, Try.ntmps103]
 refine vs_loop (σ := Nat) (fun i => i ≤ h.m ∧ ∀ j, j < i → okc h w S j = true) (fun i => [(1, i64 w), (2, i64 S), (3, .rptr 1 2 (fun _ => h.cs) 0 0), (7, i64 i)]) (fun _ => H) (fun i => h.m - i) 0 ⟨Nat.zero_le _, fun j hj => absurd hj (by omega)⟩ ?_ ?_ fun i hi => ?_
 ·simp only [vsAll, argFr, Nat.reduceEqDiff, ↓reduceIte, eq_self, Int.natCast_zero]
 ·simp only [HSub_refl]
 ·obtain ⟨hi, hall⟩ := hi
  simp only [vsAll, binA, binLitA, intA, loadA, loadRow, partA, partOk, fieldAddrA, lenA, opA, dstOk, Nat.reduceLT, Nat.reduceEqDiff, Int.reduceNeg, ↓reduceIte, eq_self, wtAll]
  refine condD (fun hb => ?_) (fun hb => ?_)
  ·simp only [vsAll, okAll, stAll, opsA, opA, dstOk, Nat.reduceLT, Nat.reduceEqDiff, Int.reduceNeg, ↓reduceIte, eq_self]
   refine callK_pure (has_tri S i H (by omega) hS) ?_
   simp only [vsAll, unA, opA, dstOk, nilSliceOp, Nat.reduceLT, Int.reduceNeg, ↓reduceIte, eq_self]
   refine vs_loop (σ := Nat) (fun j => j ≤ 5) (fun j => [(1, i64 w), (2, i64 S), (3, .rptr 1 2 (fun _ => h.cs) 0 0), (7, i64 i), (8, boo (!S.testBit i || anyN h (h.sd i) w j)), (9, i64 ((j : Int) - 2))]) (fun _ => H) (fun j => 5 - j) 0 (by omega) ?_ ?_ fun j hj => ?_
   ·simp only [vsAll, Nat.reduceEqDiff, Int.reduceSub, Int.reduceNeg, ↓reduceIte, eq_self, Int.natCast_zero, anyN, List.range_zero, List.any_nil]
   ·simp only [HSub_refl]
   ·simp only [vsAll, binA, binLitA, intA, unA, pickA, opA, guardV, dstOk, Nat.reduceLT, Nat.reduceEqDiff, ↓reduceIte, implies_true, eq_self]
    refine condV (fun hb => ?_) (fun hb => ?_)
    ·simp only [Bool.and_eq_true, decide_eq_true_eq, Bool.not_eq_true', Bool.or_eq_false_iff] at hb
     obtain ⟨hj2, hs1, hs2⟩ := hb
     simp only [vsAll]
     refine vs_draw 10 (by decide +kernel) ?_
     simp only [vsAll, loadA, loadRow, partA, partOk, fieldAddrA, indexAddrA, opA, dstOk, Nat.reduceLT, Nat.reduceEqDiff, ↓reduceIte, eq_self, wtAll]
     refine ⟨by omega, by omega, qcall _ ⟨trivial, by simp only [vsAll, okAll, opsA, opA, Nat.reduceEqDiff, ↓reduceIte, eq_self], right_tri h (h.sd i) w ((j : Int) - 2) H k hw (by omega) (k.w i (by omega))⟩ ?_⟩
     simp only [vsAll, binA, binLitA, intA, opA, dstOk, nilSliceOp, Nat.reduceLT, Nat.reduceEqDiff, ↓reduceIte, eq_self]
     refine ⟨by simp only [InR_i64]; omega, loop_next (j + 1) (by omega) (by omega) ?_ ?_⟩
     ·have e : ((j : Int) - 2 + 1) = ((j + 1 : Nat) : Int) - 2 := by omega
      have e2 : rightB h (h.sd i) w ((j : Int) - 2) = (!S.testBit i || anyN h (h.sd i) w (j + 1)) := by rw [anyN_succ, hs1, hs2]; rfl
      simp only [vsAll, Nat.reduceEqDiff, ↓reduceIte, eq_self, e, e2]
     ·simp only [HSub_refl]
    ·have e : (!S.testBit i || anyN h (h.sd i) w j) = okc h w S i := by
      simp only [okc]
      by_cases h5 : j = 5
      ·rw [h5]
      ·have h6 : decide ((j : Int) - 2 ≤ 2) = true := decide_eq_true (by omega)
       rw [h6, Bool.true_and] at hb
       simp only [Bool.not_eq_false'] at hb
       rw [hb]
       cases hS2 : S.testBit i
       ·rfl
       ·rw [hS2, Bool.not_true, Bool.false_or] at hb
        rw [Bool.not_true, Bool.false_or, anyN_le h _ w j 5 hj hb]
     rw [e]
     simp only [vsAll, unA, opA, dstOk, Nat.reduceLT, Nat.reduceEqDiff, ↓reduceIte, eq_self]
     refine condV (fun hc => ?_) (fun hc => ?_)
     ·simp only [vsAll, opA, dstOk, nilSliceOp, resA, retA.eq_1, Nat.reduceLT, ↓reduceIte, eq_self, Try.results103]
      have : canB h w S = false := by
       simp only [canB, decide_eq_false_iff_not]
       intro hh
       rw [hh i (by omega)] at hc
       cases hc
      simp only [eq_self, this]
     ·simp only [Bool.not_eq_false'] at hc
      simp only [vsAll, binA, binLitA, intA, opA, dstOk, nilSliceOp, Nat.reduceLT, Nat.reduceEqDiff, ↓reduceIte, eq_self]
      refine ⟨by simp only [InR_i64]; omega, loop_next (i + 1) ⟨by omega, fun j hj => ?_⟩ (by omega) ?_ ?_⟩
      ·by_cases e : j = i
       ·subst e; exact hc
       ·exact hall j (by omega)
      ·simp only [vsAll, Nat.reduceEqDiff, ↓reduceIte, eq_self, Int.natCast_add, Int.natCast_one]
      ·simp only [HSub_refl]
  ·have : canB h w S = true := by
    simp only [canB, decide_eq_true_eq]
    exact fun j hj => hall j (by omega)
   simp only [vsAll, opA, dstOk, nilSliceOp, resA, retA.eq_1, Nat.reduceLT, Int.reduceNeg, ↓reduceIte, eq_self, Try.results103, this]

end Go.Proofs.Ytkcgocmjaggdiaa.Wl
end
section
set_option linter.unusedVariables false
set_option linter.unusedSimpArgs false
set_option maxHeartbeats 4000000
set_option maxRecDepth 100000
namespace Go.Proofs.Ytkcgocmjaggdiaa.Wl
open Go.V
theorem hold_tri (h : Hd) (H : Hp) (k : Near h) : PTri Try.prog (fnA 82) [h.av] H (boo (decide (HOk h))) := by
 have hn := k.n
 have hm := k.m
 refine tri_v (mset [6]) Try.func82 (by kernel_rfl) rfl (by simp only [List.length_append, List.length_cons, List.length_nil, Try.ntmps82]; decide) ?_
 simp only [vsAll, binA, binLitA, intA, loadA, loadRow, partA, partOk, fieldAddrA, lenA, boxA, boxZ, pickA, opA, guardV, dstOk, nilSliceOp, argFr, Nat.reduceAdd, Nat.reduceLT, Nat.reduceEqDiff, Nat.reduceBEq, Int.reduceNeg, ↓reduceIte, implies_true, eq_self, wtAll, Try.ntmps82]
 refine condV (fun hc => ?_) (fun hc => ?_)
 ·have : decide (HOk h) = false := decide_eq_false fun q => by
   have := q.n; have := q.m
   simp only [Bool.or_eq_true, Bool.and_eq_true, Bool.not_eq_true', decide_eq_false_iff_not, decide_eq_true_eq] at hc
   omega
  simp only [vsAll, opA, dstOk, nilSliceOp, Nat.reduceLT, Nat.reduceBEq, Int.reduceNeg, eq_self]
  refine ret0 ?_
  simp only [vsAll, resA, retA.eq_1, ↓reduceIte, eq_self, Try.results82, this]
 ·simp only [Bool.or_eq_false_iff, Bool.and_eq_false_iff, Bool.not_eq_false', decide_eq_true_eq, decide_eq_false_iff_not] at hc
  have hn2 : h.n = 3 ∨ h.n = 5 ∨ h.n = 7 := by omega
  have hm2 : h.m ≤ 6 := by omega
  simp only [vsAll, opA, dstOk, nilSliceOp, Nat.reduceLT, Nat.reduceBEq, Int.reduceNeg, eq_self]
  refine vs_loop (σ := Nat) (fun i => i ≤ h.n ∧ ∀ j, j < i → 0 ≤ h.fl j ∧ h.fl j ≤ 9) (fun i => [(1, .rptr 1 2 (fun _ => h.cs) 0 0), (3, i64 h.n), (4, i64 i)]) (fun _ => H) (fun i => h.n - i) 0 ⟨Nat.zero_le _, fun j hj => absurd hj (by omega)⟩ ?_ ?_ fun i hi => ?_
  ·simp only [vsAll, Nat.reduceEqDiff, ↓reduceIte, eq_self, Int.natCast_zero]
  ·simp only [HSub_refl]
  ·obtain ⟨hi, hall⟩ := hi
   simp only [vsAll, binA, binLitA, intA, opA, dstOk, Nat.reduceLT, Nat.reduceEqDiff, Int.reduceNeg, ↓reduceIte, eq_self]
   refine condD (fun hb => ?_) (fun hb => ?_)
   ·simp only [vsAll, loadA, loadRow, partA, partOk, fieldAddrA, indexAddrA, okAll, stAll, opsA, opA, dstOk, Nat.reduceLT, Nat.reduceEqDiff, Int.reduceNeg, ↓reduceIte, eq_self, wtAll]
    refine ⟨by omega, by omega, callK_pure (in_tri (h.fl i) 0 9 H) ?_⟩
    simp only [vsAll, unA, opA, dstOk, Nat.reduceLT, Int.reduceNeg, ↓reduceIte, eq_self]
    refine condV (fun hd => ?_) (fun hd => ?_)
    ·have : decide (HOk h) = false := decide_eq_false fun q => by
      have := q.f i (by omega)
      simp only [Bool.not_eq_true', Bool.and_eq_false_iff, decide_eq_false_iff_not] at hd
      omega
     simp only [vsAll, opA, dstOk, nilSliceOp, Nat.reduceLT, Nat.reduceBEq, Int.reduceNeg, eq_self]
     refine ret0 ?_
     simp only [vsAll, resA, retA.eq_1, ↓reduceIte, eq_self, Try.results82, this]
    ·simp only [Bool.not_eq_false', Bool.and_eq_true, decide_eq_true_eq] at hd
     simp only [vsAll, binA, binLitA, intA, opA, dstOk, nilSliceOp, Nat.reduceLT, Nat.reduceEqDiff, Nat.reduceBEq, Int.reduceNeg, ↓reduceIte, eq_self]
     refine ⟨by simp only [InR_i64]; omega, loop_next (i + 1) ⟨by omega, fun j hj => ?_⟩ (by omega) ?_ ?_⟩
     ·by_cases e : j = i
      ·subst e; exact hd
      ·exact hall j (by omega)
     ·simp only [vsAll, Nat.reduceEqDiff, ↓reduceIte, eq_self, Int.natCast_add, Int.natCast_one]
     ·simp only [HSub_refl]
   ·have ei : i = h.n := by omega
    subst ei
    simp only [vsAll, opA, dstOk, nilSliceOp, Nat.reduceLT, Nat.reduceBEq, Int.reduceNeg, ↓reduceIte, eq_self]
    refine vs_loop (σ := Nat) (fun i => i ≤ h.m ∧ ∀ j, j < i → (0 ≤ (h.sd j).w ∧ (h.sd j).w < h.n) ∧ (-2 ≤ (h.sd j).a ∧ (h.sd j).a ≤ (h.sd j).b ∧ (h.sd j).b ≤ 2) ∧ (0 ≤ (h.sd j).c ∧ (h.sd j).c ≤ (h.sd j).d ∧ (h.sd j).d ≤ 40))
     (fun i => [(1, .rptr 1 2 (fun _ => h.cs) 0 0), (3, i64 h.n), (5, i64 i)]) (fun _ => H) (fun i => h.m - i) 0 ⟨Nat.zero_le _, fun j hj => absurd hj (by omega)⟩ ?_ ?_ fun i hi => ?_
    ·simp only [vsAll, Nat.reduceEqDiff, ↓reduceIte, eq_self, Int.natCast_zero]
    ·simp only [HSub_refl]
    ·obtain ⟨hi, hall2⟩ := hi
     simp only [vsAll, binA, binLitA, intA, loadA, loadRow, partA, partOk, fieldAddrA, lenA, opA, dstOk, Nat.reduceLT, Nat.reduceEqDiff, Int.reduceNeg, ↓reduceIte, eq_self, wtAll]
     refine condD (fun hb => ?_) (fun hb => ?_)
     ·simp only [vsAll, binA, binLitA, intA, loadA, loadRow, partA, partOk, fieldAddrA, indexAddrA, cellA, okAll, stAll, opsA, opA, allocA, newCells, okCells, storeObj, dstOk, Nat.reduceAdd, Nat.reduceLT, Nat.reduceEqDiff, Int.reduceNeg, ↓reduceIte, eq_self, wtAll]
      refine ⟨by omega, by omega, fun id hid => ?_⟩
      simp only [Hp.set_set]
      refine ⟨by simp only [InR_i64]; omega, callK_pure (in_tri (h.sd i).w 0 ((h.n : Int) - 1) _) ?_⟩
      simp only [vsAll, unA, loadA, loadRow, partA, partOk, fieldAddrA, opA, guardV, dstOk, Nat.reduceAdd, Nat.reduceLT, Nat.reduceLeDiff, Nat.reduceEqDiff, Int.reduceNeg, ↓reduceIte, implies_true, eq_self, wtAll]
      apply gcall
      ·exact fun hg => ⟨trivial, by simp only [vsAll, okAll, opsA, opA, Int.reduceNeg, ↓reduceIte, eq_self, hg], span_tri (h.sd i).a (h.sd i).b (-2) 2 _⟩
      simp only [vsAll, unA, loadA, loadRow, partA, partOk, fieldAddrA, pickA, opA, guardV, dstOk, Nat.reduceAdd, Nat.reduceLT, Nat.reduceEqDiff, Int.reduceNeg, ↓reduceIte, implies_true, eq_self, wtAll]
      apply gcall
      ·exact fun hg => ⟨trivial, by simp only [vsAll, okAll, opsA, opA, Int.reduceNeg, ↓reduceIte, eq_self, hg], span_tri (h.sd i).c (h.sd i).d 0 40 _⟩
      simp only [vsAll, unA, pickA, opA, guardV, dstOk, Nat.reduceLT, Nat.reduceEqDiff, Int.reduceNeg, ↓reduceIte, implies_true, eq_self]
      refine condV (fun hd => ?_) (fun hd => ?_)
      ·have : decide (HOk h) = false := decide_eq_false fun q => by
        have q1 := q.w i (by omega)
        have q2 := q.l i (by omega)
        have q3 := q.r i (by omega)
        simp only [Bool.or_eq_true, Bool.not_eq_true', Bool.and_eq_false_iff, decide_eq_false_iff_not] at hd
        omega
       simp only [vsAll, opA, dstOk, nilSliceOp, Nat.reduceLT, Nat.reduceBEq, Int.reduceNeg, eq_self]
       refine ret_of [(2, boo false)] H ?_ (HSub_drop hid) ?_
       ·simp only [vsAll, Int.reduceNeg, ↓reduceIte, eq_self]
       ·simp only [vsAll, resA, retA.eq_1, ↓reduceIte, eq_self, Try.results82, this]
      ·simp only [Bool.or_eq_false_iff, Bool.not_eq_false', Bool.and_eq_true, decide_eq_true_eq] at hd
       simp only [vsAll, binA, binLitA, intA, opA, dstOk, nilSliceOp, Nat.reduceLT, Nat.reduceEqDiff, Nat.reduceBEq, Int.reduceNeg, ↓reduceIte, eq_self]
       refine ⟨by simp only [InR_i64]; omega, loop_next (i + 1) ⟨by omega, fun j hj => ?_⟩ (by omega) ?_ ?_⟩
       ·by_cases e : j = i
        ·subst e; omega
        ·exact hall2 j (by omega)
       ·simp only [vsAll, Nat.reduceEqDiff, Int.reduceNeg, ↓reduceIte, eq_self, Int.natCast_add, Int.natCast_one]
       ·exact HSub_drop hid
     ·have ei : i = h.m := by omega
      subst ei
      have : decide (HOk h) = true := decide_eq_true ⟨hn2, hm2, hall, fun i hi => (hall2 i hi).1, fun i hi => (hall2 i hi).2.1, fun i hi => (hall2 i hi).2.2⟩
      simp only [vsAll, opA, dstOk, nilSliceOp, Nat.reduceLT, Nat.reduceBEq, Int.reduceNeg, ↓reduceIte, eq_self]
      refine ret0 ?_
      simp only [vsAll, resA, retA.eq_1, ↓reduceIte, eq_self, Try.results82, this]

def standE (h : Hd) (w t : Int) : Int := errE h (amtB w && tiltB t) false
def standV (h : Hd) (w t : Int) : Int := if standE h w t = 0 then hz h w t else 0
def depthE (h : Hd) (w t p : Int) : Int := errE h (amtB w && tiltB t && partB h p) false
def depthV (h : Hd) (w t p : Int) : Int := if depthE h w t p = 0 then dz h w t p else 0
end Go.Proofs.Ytkcgocmjaggdiaa.Wl
end
section
set_option linter.unusedVariables false
set_option linter.unusedSimpArgs false
set_option maxHeartbeats 4000000
set_option maxRecDepth 100000
namespace Go.Proofs.Ytkcgocmjaggdiaa.Wl
open Go.V
theorem ints_tri (a b : List Int) (H : Hp) (ha : a.length < 2 ^ 60) (hb : b.length < 2 ^ 60) : PTri Try.prog (fnA 75) [intsAV a, intsAV b] H (boo (decide (a = b))) := by
 refine tri_v0 (fun _ => false) Try.func75 (by kernel_rfl) rfl (by simp only [List.length_append, List.length_cons, List.length_nil, Try.ntmps75]; decide) ?_
 simp only [vsAll, binA, binLitA, intA, lenA, opA, dstOk, nilSliceOp, argFr, Nat.reduceLT, Nat.reduceEqDiff, ↓reduceIte, reduceCtorEq, eq_self, wtAll, Try.ntmps75]
 refine condV (fun hc => ?_) (fun hc => ?_)
 ·have : decide (a = b) = false := decide_eq_false fun e => by subst e; simp at hc
  simp only [vsAll, opA, dstOk, nilSliceOp, resA, retA.eq_1, Nat.reduceLT, ↓reduceIte, eq_self, Try.results75, this]
 ·simp only [Bool.not_eq_false', decide_eq_true_eq] at hc
  simp only [vsAll, opA, dstOk, nilSliceOp, Nat.reduceLT, eq_self]
  refine vs_loop (σ := Nat) (fun i => i ≤ a.length ∧ ∀ j, j < i → a.getD j 0 = b.getD j 0) (fun i => [(0, intsAV a), (1, intsAV b), (5, i64 i)]) (fun _ => H) (fun i => a.length - i) 0 ⟨Nat.zero_le _, fun j hj => absurd hj (by omega)⟩ ?_ ?_ fun i hi => ?_
  ·simp only [vsAll, argFr, Nat.reduceEqDiff, ↓reduceIte, reduceCtorEq, eq_self, Int.natCast_zero]
  ·simp only [HSub_refl]
  ·obtain ⟨hi, hall⟩ := hi
   simp only [vsAll, binA, binLitA, intA, lenA, opA, dstOk, Nat.reduceLT, Nat.reduceEqDiff, ↓reduceIte, reduceCtorEq, eq_self, wtAll]
   refine condD (fun hd => ?_) (fun hd => ?_)
   ·simp only [vsAll]
    refine vs_draw 9 (by decide +kernel) ?_
    simp only [vsAll, binA, binLitA, intA, loadA, loadRow, partA, partOk, indexAddrA, opA, dstOk, Nat.reduceLT, Nat.reduceEqDiff, ↓reduceIte, reduceCtorEq, eq_self, wtAll, intF_at]
    refine ⟨by omega, by omega, by omega, by omega, condV (fun hf => ?_) (fun hf => ?_)⟩
    ·have : decide (a = b) = false := decide_eq_false fun e => by subst e; simp at hf
     simp only [vsAll, opA, dstOk, nilSliceOp, resA, retA.eq_1, Nat.reduceLT, ↓reduceIte, eq_self, Try.results75, this]
    ·simp only [Bool.not_eq_false', decide_eq_true_eq] at hf
     simp only [vsAll, binA, binLitA, intA, opA, dstOk, nilSliceOp, Nat.reduceLT, Nat.reduceEqDiff, ↓reduceIte, reduceCtorEq, eq_self]
     refine ⟨by simp only [InR_i64]; omega, loop_next (i + 1) ⟨by omega, fun j hj => ?_⟩ (by omega) ?_ ?_⟩
     ·by_cases e : j = i
      ·subst e; exact hf
      ·exact hall j (by omega)
     ·simp only [vsAll, Nat.reduceEqDiff, ↓reduceIte, reduceCtorEq, eq_self, Int.natCast_add, Int.natCast_one]
     ·simp only [HSub_refl]
   ·have ei : i = a.length := by omega
    subst ei
    have : decide (a = b) = true := decide_eq_true (by
     apply List.ext_getElem (by omega)
     intro j h1 h2
     have := hall j h1
     rw [List.getD_eq_getElem?_getD, List.getD_eq_getElem?_getD, List.getElem?_eq_getElem h1, List.getElem?_eq_getElem h2] at this
     exact this)
    simp only [vsAll, opA, dstOk, nilSliceOp, resA, retA.eq_1, Nat.reduceLT, ↓reduceIte, eq_self, Try.results75, this]

theorem eq36 : eqT Try.prog 36 2 := eqT_of (by kernel_rfl) (by kernel_rfl) (by kernel_rfl) (by kernel_rfl) (by kernel_rfl)
theorem spans_tri (a b : List (Int × Int)) (H : Hp) (ha : a.length < 2 ^ 60) (hb : b.length < 2 ^ 60) : PTri Try.prog (fnA 61) [spansAV a, spansAV b] H (boo (decide (a = b))) := by
 refine tri_v0 (fun _ => false) Try.func61 (by kernel_rfl) rfl (by simp only [List.length_append, List.length_cons, List.length_nil, Try.ntmps61]; decide) ?_
 simp only [vsAll, binA, binLitA, intA, lenA, opA, dstOk, nilSliceOp, argFr, Nat.reduceLT, Nat.reduceEqDiff, ↓reduceIte, reduceCtorEq, eq_self, wtAll, Try.ntmps61]
 refine condV (fun hc => ?_) (fun hc => ?_)
 ·have : decide (a = b) = false := decide_eq_false fun e => by subst e; simp at hc
  simp only [vsAll, opA, dstOk, nilSliceOp, resA, retA.eq_1, Nat.reduceLT, ↓reduceIte, eq_self, Try.results61, this]
 ·simp only [Bool.not_eq_false', decide_eq_true_eq] at hc
  simp only [vsAll, opA, dstOk, nilSliceOp, Nat.reduceLT, eq_self]
  refine vs_loop (σ := Nat) (fun i => i ≤ a.length ∧ ∀ j, j < i → a.getD j (0, 0) = b.getD j (0, 0)) (fun i => [(0, spansAV a), (1, spansAV b), (5, i64 i)]) (fun _ => H) (fun i => a.length - i) 0 ⟨Nat.zero_le _, fun j hj => absurd hj (by omega)⟩ ?_ ?_ fun i hi => ?_
  ·simp only [vsAll, argFr, Nat.reduceEqDiff, ↓reduceIte, reduceCtorEq, eq_self, Int.natCast_zero]
  ·simp only [HSub_refl]
  ·obtain ⟨hi, hall⟩ := hi
   simp only [vsAll, binA, binLitA, intA, lenA, opA, dstOk, Nat.reduceLT, Nat.reduceEqDiff, ↓reduceIte, reduceCtorEq, eq_self, wtAll]
   refine condD (fun hd => ?_) (fun hd => ?_)
   ·simp only [vsAll]
    refine vs_draw 9 (by decide +kernel) ?_
    simp only [vsAll, binA, aggA, loadA, loadRow, partA, partOk, indexAddrA, opA, dstOk, Nat.reduceAdd, Nat.reduceLT, Nat.reduceEqDiff, ↓reduceIte, reduceCtorEq, eq_self, wtAll, spanF_at]
    have ep : ∀ x y : Int × Int, ([x.1, x.2] = [y.1, y.2]) = (x = y) := fun x y => by
     rcases x with ⟨x1, x2⟩; rcases y with ⟨y1, y2⟩; simp
    refine ⟨by omega, by omega, by omega, by omega, eq36, condV (fun hf => ?_) (fun hf => ?_)⟩
    ·have : decide (a = b) = false := decide_eq_false fun e => by subst e; simp at hf
     simp only [vsAll, opA, dstOk, nilSliceOp, resA, retA.eq_1, Nat.reduceLT, ↓reduceIte, eq_self, Try.results61, this]
    ·simp only [Bool.not_eq_false', decide_eq_true_eq, ep] at hf
     simp only [vsAll, binA, binLitA, intA, opA, dstOk, nilSliceOp, Nat.reduceLT, Nat.reduceEqDiff, ↓reduceIte, reduceCtorEq, eq_self]
     refine ⟨by simp only [InR_i64]; omega, loop_next (i + 1) ⟨by omega, fun j hj => ?_⟩ (by omega) ?_ ?_⟩
     ·by_cases e : j = i
      ·subst e; exact hf
      ·exact hall j (by omega)
     ·simp only [vsAll, Nat.reduceEqDiff, ↓reduceIte, reduceCtorEq, eq_self, Int.natCast_add, Int.natCast_one]
     ·simp only [HSub_refl]
   ·have ei : i = a.length := by omega
    subst ei
    have : decide (a = b) = true := decide_eq_true (by
     apply List.ext_getElem (by omega)
     intro j h1 h2
     have := hall j h1
     rw [List.getD_eq_getElem?_getD, List.getD_eq_getElem?_getD, List.getElem?_eq_getElem h1, List.getElem?_eq_getElem h2] at this
     exact this)
    simp only [vsAll, opA, dstOk, nilSliceOp, resA, retA.eq_1, Nat.reduceLT, ↓reduceIte, eq_self, Try.results61, this]

def overE (h : Hd) (w : Int) : Int := errE h (amtB w) true
def overV (h : Hd) (w : Int) : Int := if overE h w = 0 then (if w < ((allA h).getD 0 0 : Nat) then 2 else if (((allA h).getD ((allA h).length - 1) 0 : Nat) : Int) ≤ w then 0 else 1) else 0
end Go.Proofs.Ytkcgocmjaggdiaa.Wl
end
