/- Helper lemmas of this claim, part 3. -/
import Derived.Test.YtkonoggmdcdeeaaChecked
import Derived.Test.YtkonoggmdcdeeaaTu2
section
namespace Go.Proofs.Ytkonoggmdcdeeaa
open Go.V
theorem boolT4 : boolT Try.prog 4 = true := by kernel_rfl
theorem ifcT20 : ifcT Try.prog 20 = true := by kernel_rfl
theorem szT1 : szT Try.prog 1 = some (1, false) := by kernel_rfl
theorem arT1 : arT Try.prog 1 = none := by kernel_rfl
theorem conc1 : Program.concrete Try.prog 1 = true := by kernel_rfl
theorem szT2 : szT Try.prog 2 = some (1, false) := by kernel_rfl
theorem arT2 : arT Try.prog 2 = none := by kernel_rfl
theorem conc2 : Program.concrete Try.prog 2 = true := by kernel_rfl
theorem undS2 : (Program.underlying Try.prog 2).isSome = true := by kernel_rfl
theorem intT2 : intT Try.prog 2 = some .i64 := by kernel_rfl
theorem elT2 : elT Try.prog 2 = none := by kernel_rfl
theorem azT2 : azT Try.prog 2 = some (1, 1, [.int .i64 0]) := by kernel_rfl
theorem zeroT2 : zeroT Try.prog 2 = some [.int .i64 0] := by kernel_rfl
theorem szT3 : szT Try.prog 3 = some (1, false) := by kernel_rfl
theorem arT3 : arT Try.prog 3 = none := by kernel_rfl
theorem conc3 : Program.concrete Try.prog 3 = true := by kernel_rfl
theorem undS3 : (Program.underlying Try.prog 3).isSome = true := by kernel_rfl
theorem intT3 : intT Try.prog 3 = some .i64 := by kernel_rfl
theorem elT3 : elT Try.prog 3 = none := by kernel_rfl
theorem azT3 : azT Try.prog 3 = some (1, 1, [.int .i64 0]) := by kernel_rfl
theorem zeroT3 : zeroT Try.prog 3 = some [.int .i64 0] := by kernel_rfl
theorem szT4 : szT Try.prog 4 = some (1, false) := by kernel_rfl
theorem arT4 : arT Try.prog 4 = none := by kernel_rfl
theorem conc4 : Program.concrete Try.prog 4 = true := by kernel_rfl
theorem undS4 : (Program.underlying Try.prog 4).isSome = true := by kernel_rfl
theorem elT4 : elT Try.prog 4 = none := by kernel_rfl
theorem azT4 : azT Try.prog 4 = some (1, 1, [.bool false]) := by kernel_rfl
theorem zeroT4 : zeroT Try.prog 4 = some [.bool false] := by kernel_rfl
theorem szT5 : szT Try.prog 5 = some (1, false) := by kernel_rfl
theorem arT5 : arT Try.prog 5 = none := by kernel_rfl
theorem conc5 : Program.concrete Try.prog 5 = true := by kernel_rfl
theorem undS5 : (Program.underlying Try.prog 5).isSome = true := by kernel_rfl
theorem intT5 : intT Try.prog 5 = some .u8 := by kernel_rfl
theorem elT5 : elT Try.prog 5 = none := by kernel_rfl
theorem azT5 : azT Try.prog 5 = some (1, 1, [.int .u8 0]) := by kernel_rfl
theorem zeroT5 : zeroT Try.prog 5 = some [.int .u8 0] := by kernel_rfl
theorem szT12 : szT Try.prog 12 = some (1, false) := by kernel_rfl
theorem arT12 : arT Try.prog 12 = none := by kernel_rfl
theorem conc12 : Program.concrete Try.prog 12 = true := by kernel_rfl
theorem undS12 : (Program.underlying Try.prog 12).isSome = true := by kernel_rfl
theorem intT12 : intT Try.prog 12 = some .u64 := by kernel_rfl
theorem elT12 : elT Try.prog 12 = none := by kernel_rfl
theorem azT12 : azT Try.prog 12 = some (1, 1, [.int .u64 0]) := by kernel_rfl
theorem zeroT12 : zeroT Try.prog 12 = some [.int .u64 0] := by kernel_rfl
theorem szT13 : szT Try.prog 13 = some (2, true) := by kernel_rfl
theorem arT13 : arT Try.prog 13 = none := by kernel_rfl
theorem conc13 : Program.concrete Try.prog 13 = true := by kernel_rfl
theorem undS13 : (Program.underlying Try.prog 13).isSome = true := by kernel_rfl
theorem elT13 : elT Try.prog 13 = none := by kernel_rfl
theorem azT13 : azT Try.prog 13 = some (2, 1, [.string .empty, .int .u64 0]) := by kernel_rfl
theorem zeroT13 : zeroT Try.prog 13 = some [.string .empty, .int .u64 0] := by kernel_rfl
theorem bT13 : bT Try.prog 13 = true := by kernel_rfl
theorem fldT13_0 : fldT Try.prog 13 0 = some (0, 1, false) := by kernel_rfl
theorem fldT13_1 : fldT Try.prog 13 1 = some (1, 1, false) := by kernel_rfl
theorem szT20 : szT Try.prog 20 = some (1, false) := by kernel_rfl
theorem arT20 : arT Try.prog 20 = none := by kernel_rfl
theorem szT21 : szT Try.prog 21 = some (1, false) := by kernel_rfl
theorem arT21 : arT Try.prog 21 = none := by kernel_rfl
theorem conc21 : Program.concrete Try.prog 21 = true := by kernel_rfl
theorem undS21 : (Program.underlying Try.prog 21).isSome = true := by kernel_rfl
theorem intT21 : intT Try.prog 21 = some .i32 := by kernel_rfl
theorem elT21 : elT Try.prog 21 = none := by kernel_rfl
theorem azT21 : azT Try.prog 21 = some (1, 1, [.int .i32 0]) := by kernel_rfl
theorem zeroT21 : zeroT Try.prog 21 = some [.int .i32 0] := by kernel_rfl
theorem szT22 : szT Try.prog 22 = some (1, false) := by kernel_rfl
theorem arT22 : arT Try.prog 22 = none := by kernel_rfl
theorem conc22 : Program.concrete Try.prog 22 = true := by kernel_rfl
theorem undS22 : (Program.underlying Try.prog 22).isSome = true := by kernel_rfl
theorem elT22 : elT Try.prog 22 = some (1, false) := by kernel_rfl
theorem elB22 : elB Try.prog 22 = some (1, 24) := by kernel_rfl
theorem bsT22 : bsT Try.prog 22 = some 1 := by kernel_rfl
theorem mkT22 : mkT Try.prog 22 = some (1, 24, [.slice none 0 0]) := by kernel_rfl
theorem azT22 : azT Try.prog 22 = some (1, 1, [.slice none 0 0]) := by kernel_rfl
theorem zeroT22 : zeroT Try.prog 22 = some [.slice none 0 0] := by kernel_rfl
theorem szT23 : szT Try.prog 23 = some (1, false) := by kernel_rfl
theorem arT23 : arT Try.prog 23 = none := by kernel_rfl
theorem conc23 : Program.concrete Try.prog 23 = true := by kernel_rfl
theorem undS23 : (Program.underlying Try.prog 23).isSome = true := by kernel_rfl
theorem elT23 : elT Try.prog 23 = some (1, false) := by kernel_rfl
theorem elB23 : elB Try.prog 23 = some (1, 8) := by kernel_rfl
theorem bsT23 : bsT Try.prog 23 = some 1 := by kernel_rfl
theorem mkT23 : mkT Try.prog 23 = some (1, 8, [.int .i64 0]) := by kernel_rfl
theorem azT23 : azT Try.prog 23 = some (1, 1, [.slice none 0 0]) := by kernel_rfl
theorem zeroT23 : zeroT Try.prog 23 = some [.slice none 0 0] := by kernel_rfl
theorem szT24 : szT Try.prog 24 = some (1, false) := by kernel_rfl
theorem arT24 : arT Try.prog 24 = none := by kernel_rfl
theorem conc24 : Program.concrete Try.prog 24 = true := by kernel_rfl
theorem undS24 : (Program.underlying Try.prog 24).isSome = true := by kernel_rfl
theorem elT24 : elT Try.prog 24 = some (1, false) := by kernel_rfl
theorem elB24 : elB Try.prog 24 = some (1, 24) := by kernel_rfl
theorem bsT24 : bsT Try.prog 24 = some 1 := by kernel_rfl
theorem mkT24 : mkT Try.prog 24 = some (1, 24, [.slice none 0 0]) := by kernel_rfl
theorem azT24 : azT Try.prog 24 = some (1, 1, [.slice none 0 0]) := by kernel_rfl
theorem zeroT24 : zeroT Try.prog 24 = some [.slice none 0 0] := by kernel_rfl
theorem szT25 : szT Try.prog 25 = some (1, false) := by kernel_rfl
theorem arT25 : arT Try.prog 25 = none := by kernel_rfl
theorem conc25 : Program.concrete Try.prog 25 = true := by kernel_rfl
theorem undS25 : (Program.underlying Try.prog 25).isSome = true := by kernel_rfl
theorem elT25 : elT Try.prog 25 = some (3, true) := by kernel_rfl
theorem elB25 : elB Try.prog 25 = some (3, 24) := by kernel_rfl
theorem bsT25 : bsT Try.prog 25 = some 3 := by kernel_rfl
theorem mkT25 : mkT Try.prog 25 = some (3, 24, [.int .i64 0, .int .i64 0, .bool false]) := by kernel_rfl
theorem azT25 : azT Try.prog 25 = some (1, 1, [.slice none 0 0]) := by kernel_rfl
theorem zeroT25 : zeroT Try.prog 25 = some [.slice none 0 0] := by kernel_rfl
theorem szT26 : szT Try.prog 26 = some (5, true) := by kernel_rfl
theorem arT26 : arT Try.prog 26 = none := by kernel_rfl
theorem conc26 : Program.concrete Try.prog 26 = true := by kernel_rfl
theorem undS26 : (Program.underlying Try.prog 26).isSome = true := by kernel_rfl
theorem elT26 : elT Try.prog 26 = none := by kernel_rfl
theorem azT26 : azT Try.prog 26 = some (5, 1, [.int .i64 0, .slice none 0 0, .slice none 0 0, .slice none 0 0, .slice none 0 0]) := by kernel_rfl
theorem zeroT26 : zeroT Try.prog 26 = some [.int .i64 0, .slice none 0 0, .slice none 0 0, .slice none 0 0, .slice none 0 0] := by kernel_rfl
theorem bT26 : bT Try.prog 26 = true := by kernel_rfl
theorem fldT26_0 : fldT Try.prog 26 0 = some (0, 1, false) := by kernel_rfl
theorem fldT26_1 : fldT Try.prog 26 1 = some (1, 1, false) := by kernel_rfl
theorem fldT26_2 : fldT Try.prog 26 2 = some (2, 1, false) := by kernel_rfl
theorem fldT26_3 : fldT Try.prog 26 3 = some (3, 1, false) := by kernel_rfl
theorem fldT26_4 : fldT Try.prog 26 4 = some (4, 1, false) := by kernel_rfl
theorem szT27 : szT Try.prog 27 = some (5, true) := by kernel_rfl
theorem arT27 : arT Try.prog 27 = none := by kernel_rfl
theorem conc27 : Program.concrete Try.prog 27 = true := by kernel_rfl
theorem undS27 : (Program.underlying Try.prog 27).isSome = true := by kernel_rfl
theorem elT27 : elT Try.prog 27 = none := by kernel_rfl
theorem azT27 : azT Try.prog 27 = some (5, 1, [.int .i64 0, .slice none 0 0, .slice none 0 0, .slice none 0 0, .slice none 0 0]) := by kernel_rfl
theorem zeroT27 : zeroT Try.prog 27 = some [.int .i64 0, .slice none 0 0, .slice none 0 0, .slice none 0 0, .slice none 0 0] := by kernel_rfl
theorem bT27 : bT Try.prog 27 = true := by kernel_rfl
theorem fldT27_0 : fldT Try.prog 27 0 = some (0, 1, false) := by kernel_rfl
theorem fldT27_1 : fldT Try.prog 27 1 = some (1, 1, false) := by kernel_rfl
theorem fldT27_2 : fldT Try.prog 27 2 = some (2, 1, false) := by kernel_rfl
theorem fldT27_3 : fldT Try.prog 27 3 = some (3, 1, false) := by kernel_rfl
theorem fldT27_4 : fldT Try.prog 27 4 = some (4, 1, false) := by kernel_rfl
theorem szT28 : szT Try.prog 28 = some (1, false) := by kernel_rfl
theorem arT28 : arT Try.prog 28 = none := by kernel_rfl
theorem conc28 : Program.concrete Try.prog 28 = true := by kernel_rfl
theorem szT29 : szT Try.prog 29 = some (1, false) := by kernel_rfl
theorem arT29 : arT Try.prog 29 = none := by kernel_rfl
theorem conc29 : Program.concrete Try.prog 29 = true := by kernel_rfl
theorem szT30 : szT Try.prog 30 = some (1, false) := by kernel_rfl
theorem arT30 : arT Try.prog 30 = none := by kernel_rfl
theorem conc30 : Program.concrete Try.prog 30 = true := by kernel_rfl
theorem undS30 : (Program.underlying Try.prog 30).isSome = true := by kernel_rfl
theorem intT30 : intT Try.prog 30 = some .i64 := by kernel_rfl
theorem elT30 : elT Try.prog 30 = none := by kernel_rfl
theorem azT30 : azT Try.prog 30 = some (1, 1, [.int .i64 0]) := by kernel_rfl
theorem zeroT30 : zeroT Try.prog 30 = some [.int .i64 0] := by kernel_rfl
theorem szT32 : szT Try.prog 32 = some (1, false) := by kernel_rfl
theorem arT32 : arT Try.prog 32 = none := by kernel_rfl
theorem conc32 : Program.concrete Try.prog 32 = true := by kernel_rfl
theorem szT33 : szT Try.prog 33 = some (1, false) := by kernel_rfl
theorem arT33 : arT Try.prog 33 = none := by kernel_rfl
theorem conc33 : Program.concrete Try.prog 33 = true := by kernel_rfl
theorem szT34 : szT Try.prog 34 = some (1, false) := by kernel_rfl
theorem arT34 : arT Try.prog 34 = none := by kernel_rfl
theorem conc34 : Program.concrete Try.prog 34 = true := by kernel_rfl
theorem szT36 : szT Try.prog 36 = some (1, false) := by kernel_rfl
theorem arT36 : arT Try.prog 36 = none := by kernel_rfl
theorem conc36 : Program.concrete Try.prog 36 = true := by kernel_rfl
theorem szT37 : szT Try.prog 37 = some (1, false) := by kernel_rfl
theorem arT37 : arT Try.prog 37 = none := by kernel_rfl
theorem conc37 : Program.concrete Try.prog 37 = true := by kernel_rfl
theorem szT38 : szT Try.prog 38 = some (1, false) := by kernel_rfl
theorem arT38 : arT Try.prog 38 = none := by kernel_rfl
theorem conc38 : Program.concrete Try.prog 38 = true := by kernel_rfl
theorem undS38 : (Program.underlying Try.prog 38).isSome = true := by kernel_rfl
theorem elT38 : elT Try.prog 38 = some (1, false) := by kernel_rfl
theorem elB38 : elB Try.prog 38 = some (1, 2) := by kernel_rfl
theorem bsT38 : bsT Try.prog 38 = some 1 := by kernel_rfl
theorem mkT38 : mkT Try.prog 38 = some (1, 2, [.int .u16 0]) := by kernel_rfl
theorem azT38 : azT Try.prog 38 = some (1, 1, [.slice none 0 0]) := by kernel_rfl
theorem zeroT38 : zeroT Try.prog 38 = some [.slice none 0 0] := by kernel_rfl
theorem szT40 : szT Try.prog 40 = some (1, false) := by kernel_rfl
theorem arT40 : arT Try.prog 40 = none := by kernel_rfl
theorem conc40 : Program.concrete Try.prog 40 = true := by kernel_rfl
theorem szT41 : szT Try.prog 41 = some (1, false) := by kernel_rfl
theorem arT41 : arT Try.prog 41 = none := by kernel_rfl
theorem conc41 : Program.concrete Try.prog 41 = true := by kernel_rfl
theorem szT42 : szT Try.prog 42 = some (3, true) := by kernel_rfl
theorem arT42 : arT Try.prog 42 = none := by kernel_rfl
theorem conc42 : Program.concrete Try.prog 42 = true := by kernel_rfl
theorem undS42 : (Program.underlying Try.prog 42).isSome = true := by kernel_rfl
theorem elT42 : elT Try.prog 42 = none := by kernel_rfl
theorem azT42 : azT Try.prog 42 = some (3, 1, [.int .i64 0, .int .i64 0, .bool false]) := by kernel_rfl
theorem zeroT42 : zeroT Try.prog 42 = some [.int .i64 0, .int .i64 0, .bool false] := by kernel_rfl
theorem bT42 : bT Try.prog 42 = true := by kernel_rfl
theorem fldT42_0 : fldT Try.prog 42 0 = some (0, 1, false) := by kernel_rfl
theorem fldT42_1 : fldT Try.prog 42 1 = some (1, 1, false) := by kernel_rfl
theorem fldT42_2 : fldT Try.prog 42 2 = some (2, 1, false) := by kernel_rfl
theorem szT43 : szT Try.prog 43 = some (3, true) := by kernel_rfl
theorem arT43 : arT Try.prog 43 = none := by kernel_rfl
theorem conc43 : Program.concrete Try.prog 43 = true := by kernel_rfl
theorem undS43 : (Program.underlying Try.prog 43).isSome = true := by kernel_rfl
theorem elT43 : elT Try.prog 43 = none := by kernel_rfl
theorem azT43 : azT Try.prog 43 = some (3, 1, [.int .i64 0, .int .i64 0, .bool false]) := by kernel_rfl
theorem zeroT43 : zeroT Try.prog 43 = some [.int .i64 0, .int .i64 0, .bool false] := by kernel_rfl
theorem bT43 : bT Try.prog 43 = true := by kernel_rfl
theorem fldT43_0 : fldT Try.prog 43 0 = some (0, 1, false) := by kernel_rfl
theorem fldT43_1 : fldT Try.prog 43 1 = some (1, 1, false) := by kernel_rfl
theorem fldT43_2 : fldT Try.prog 43 2 = some (2, 1, false) := by kernel_rfl
theorem szT44 : szT Try.prog 44 = some (1, false) := by kernel_rfl
theorem arT44 : arT Try.prog 44 = none := by kernel_rfl
theorem conc44 : Program.concrete Try.prog 44 = true := by kernel_rfl
theorem szT46 : szT Try.prog 46 = some (1, false) := by kernel_rfl
theorem arT46 : arT Try.prog 46 = none := by kernel_rfl
theorem conc46 : Program.concrete Try.prog 46 = true := by kernel_rfl
theorem szT47 : szT Try.prog 47 = some (1, false) := by kernel_rfl
theorem arT47 : arT Try.prog 47 = none := by kernel_rfl
theorem conc47 : Program.concrete Try.prog 47 = true := by kernel_rfl
theorem szT48 : szT Try.prog 48 = some (1, false) := by kernel_rfl
theorem arT48 : arT Try.prog 48 = none := by kernel_rfl
theorem conc48 : Program.concrete Try.prog 48 = true := by kernel_rfl
theorem szT49 : szT Try.prog 49 = some (1, false) := by kernel_rfl
theorem arT49 : arT Try.prog 49 = none := by kernel_rfl
theorem conc49 : Program.concrete Try.prog 49 = true := by kernel_rfl
theorem szT50 : szT Try.prog 50 = some (1, false) := by kernel_rfl
theorem arT50 : arT Try.prog 50 = none := by kernel_rfl
theorem conc50 : Program.concrete Try.prog 50 = true := by kernel_rfl
theorem szT51 : szT Try.prog 51 = some (1, false) := by kernel_rfl
theorem arT51 : arT Try.prog 51 = none := by kernel_rfl
theorem conc51 : Program.concrete Try.prog 51 = true := by kernel_rfl
theorem undS51 : (Program.underlying Try.prog 51).isSome = true := by kernel_rfl
theorem elT51 : elT Try.prog 51 = some (3, true) := by kernel_rfl
theorem elB51 : elB Try.prog 51 = some (3, 24) := by kernel_rfl
theorem bsT51 : bsT Try.prog 51 = some 3 := by kernel_rfl
theorem mkT51 : mkT Try.prog 51 = some (3, 24, [.int .i64 0, .int .i64 0, .int .i64 0]) := by kernel_rfl
theorem azT51 : azT Try.prog 51 = some (1, 1, [.slice none 0 0]) := by kernel_rfl
theorem zeroT51 : zeroT Try.prog 51 = some [.slice none 0 0] := by kernel_rfl
theorem szT52 : szT Try.prog 52 = some (3, true) := by kernel_rfl
theorem arT52 : arT Try.prog 52 = none := by kernel_rfl
theorem conc52 : Program.concrete Try.prog 52 = true := by kernel_rfl
theorem undS52 : (Program.underlying Try.prog 52).isSome = true := by kernel_rfl
theorem elT52 : elT Try.prog 52 = none := by kernel_rfl
theorem azT52 : azT Try.prog 52 = some (3, 1, [.int .i64 0, .int .i64 0, .int .i64 0]) := by kernel_rfl
theorem zeroT52 : zeroT Try.prog 52 = some [.int .i64 0, .int .i64 0, .int .i64 0] := by kernel_rfl
theorem bT52 : bT Try.prog 52 = true := by kernel_rfl
theorem fldT52_0 : fldT Try.prog 52 0 = some (0, 1, false) := by kernel_rfl
theorem fldT52_1 : fldT Try.prog 52 1 = some (1, 1, false) := by kernel_rfl
theorem fldT52_2 : fldT Try.prog 52 2 = some (2, 1, false) := by kernel_rfl
theorem szT53 : szT Try.prog 53 = some (3, true) := by kernel_rfl
theorem arT53 : arT Try.prog 53 = none := by kernel_rfl
theorem conc53 : Program.concrete Try.prog 53 = true := by kernel_rfl
theorem undS53 : (Program.underlying Try.prog 53).isSome = true := by kernel_rfl
theorem elT53 : elT Try.prog 53 = none := by kernel_rfl
theorem azT53 : azT Try.prog 53 = some (3, 1, [.int .i64 0, .int .i64 0, .int .i64 0]) := by kernel_rfl
theorem zeroT53 : zeroT Try.prog 53 = some [.int .i64 0, .int .i64 0, .int .i64 0] := by kernel_rfl
theorem bT53 : bT Try.prog 53 = true := by kernel_rfl
theorem fldT53_0 : fldT Try.prog 53 0 = some (0, 1, false) := by kernel_rfl
theorem fldT53_1 : fldT Try.prog 53 1 = some (1, 1, false) := by kernel_rfl
theorem fldT53_2 : fldT Try.prog 53 2 = some (2, 1, false) := by kernel_rfl
theorem szT54 : szT Try.prog 54 = some (1, false) := by kernel_rfl
theorem arT54 : arT Try.prog 54 = none := by kernel_rfl
theorem conc54 : Program.concrete Try.prog 54 = true := by kernel_rfl
theorem szT55 : szT Try.prog 55 = some (1, false) := by kernel_rfl
theorem arT55 : arT Try.prog 55 = none := by kernel_rfl
theorem conc55 : Program.concrete Try.prog 55 = true := by kernel_rfl
theorem szT56 : szT Try.prog 56 = some (1, false) := by kernel_rfl
theorem arT56 : arT Try.prog 56 = none := by kernel_rfl
theorem conc56 : Program.concrete Try.prog 56 = true := by kernel_rfl
theorem szT57 : szT Try.prog 57 = some (1, false) := by kernel_rfl
theorem arT57 : arT Try.prog 57 = none := by kernel_rfl
theorem conc57 : Program.concrete Try.prog 57 = true := by kernel_rfl
theorem szT58 : szT Try.prog 58 = some (1, false) := by kernel_rfl
theorem zeroT58 : azT Try.prog 58 = some (1, 1, [.pointer none]) := by kernel_rfl
theorem arT58 : arT Try.prog 58 = none := by kernel_rfl
theorem conc58 : Program.concrete Try.prog 58 = true := by kernel_rfl
theorem szT59 : szT Try.prog 59 = some (1, false) := by kernel_rfl
theorem zeroT59 : azT Try.prog 59 = some (1, 1, [.pointer none]) := by kernel_rfl
theorem arT59 : arT Try.prog 59 = none := by kernel_rfl
theorem conc59 : Program.concrete Try.prog 59 = true := by kernel_rfl
theorem szT60 : szT Try.prog 60 = some (1, false) := by kernel_rfl
theorem arT60 : arT Try.prog 60 = none := by kernel_rfl
theorem conc60 : Program.concrete Try.prog 60 = true := by kernel_rfl
theorem szT61 : szT Try.prog 61 = some (1, false) := by kernel_rfl
theorem arT61 : arT Try.prog 61 = none := by kernel_rfl
theorem conc61 : Program.concrete Try.prog 61 = true := by kernel_rfl
theorem szT62 : szT Try.prog 62 = some (1, false) := by kernel_rfl
theorem arT62 : arT Try.prog 62 = none := by kernel_rfl
theorem conc62 : Program.concrete Try.prog 62 = true := by kernel_rfl
theorem szT63 : szT Try.prog 63 = some (1, false) := by kernel_rfl
theorem arT63 : arT Try.prog 63 = none := by kernel_rfl
theorem conc63 : Program.concrete Try.prog 63 = true := by kernel_rfl
theorem szT64 : szT Try.prog 64 = some (1, false) := by kernel_rfl
theorem arT64 : arT Try.prog 64 = none := by kernel_rfl
theorem conc64 : Program.concrete Try.prog 64 = true := by kernel_rfl
theorem szT65 : szT Try.prog 65 = some (1, false) := by kernel_rfl
theorem arT65 : arT Try.prog 65 = none := by kernel_rfl
theorem conc65 : Program.concrete Try.prog 65 = true := by kernel_rfl
theorem szT66 : szT Try.prog 66 = some (1, false) := by kernel_rfl
theorem arT66 : arT Try.prog 66 = none := by kernel_rfl
theorem conc66 : Program.concrete Try.prog 66 = true := by kernel_rfl
theorem szT67 : szT Try.prog 67 = some (1, false) := by kernel_rfl
theorem arT67 : arT Try.prog 67 = none := by kernel_rfl
theorem conc67 : Program.concrete Try.prog 67 = true := by kernel_rfl
theorem szT68 : szT Try.prog 68 = some (1, false) := by kernel_rfl
theorem arT68 : arT Try.prog 68 = none := by kernel_rfl
theorem conc68 : Program.concrete Try.prog 68 = true := by kernel_rfl
theorem szT69 : szT Try.prog 69 = some (1, false) := by kernel_rfl
theorem arT69 : arT Try.prog 69 = none := by kernel_rfl
theorem conc69 : Program.concrete Try.prog 69 = true := by kernel_rfl
theorem szT70 : szT Try.prog 70 = some (1, false) := by kernel_rfl
theorem arT70 : arT Try.prog 70 = none := by kernel_rfl
theorem conc70 : Program.concrete Try.prog 70 = true := by kernel_rfl
theorem undS70 : (Program.underlying Try.prog 70).isSome = true := by kernel_rfl
theorem intT70 : intT Try.prog 70 = some .u64 := by kernel_rfl
theorem elT70 : elT Try.prog 70 = none := by kernel_rfl
theorem azT70 : azT Try.prog 70 = some (1, 1, [.int .u64 0]) := by kernel_rfl
theorem zeroT70 : zeroT Try.prog 70 = some [.int .u64 0] := by kernel_rfl
theorem szT71 : szT Try.prog 71 = some (8, true) := by kernel_rfl
theorem arT71 : arT Try.prog 71 = none := by kernel_rfl
theorem conc71 : Program.concrete Try.prog 71 = true := by kernel_rfl
theorem undS71 : (Program.underlying Try.prog 71).isSome = true := by kernel_rfl
theorem elT71 : elT Try.prog 71 = none := by kernel_rfl
theorem azT71 : azT Try.prog 71 = some (8, 1, [.int .i64 0, .slice none 0 0, .slice none 0 0, .slice none 0 0, .slice none 0 0, .int .u64 0, .int .u64 0, .bool false]) := by kernel_rfl
theorem zeroT71 : zeroT Try.prog 71 = some [.int .i64 0, .slice none 0 0, .slice none 0 0, .slice none 0 0, .slice none 0 0, .int .u64 0, .int .u64 0, .bool false] := by kernel_rfl
theorem bT71 : bT Try.prog 71 = true := by kernel_rfl
theorem fldT71_0 : fldT Try.prog 71 0 = some (0, 5, true) := by kernel_rfl
theorem fldT71_1 : fldT Try.prog 71 1 = some (5, 1, false) := by kernel_rfl
theorem fldT71_2 : fldT Try.prog 71 2 = some (6, 1, false) := by kernel_rfl
theorem fldT71_3 : fldT Try.prog 71 3 = some (7, 1, false) := by kernel_rfl
theorem szT72 : szT Try.prog 72 = some (8, true) := by kernel_rfl
theorem arT72 : arT Try.prog 72 = none := by kernel_rfl
theorem conc72 : Program.concrete Try.prog 72 = true := by kernel_rfl
theorem undS72 : (Program.underlying Try.prog 72).isSome = true := by kernel_rfl
theorem elT72 : elT Try.prog 72 = none := by kernel_rfl
theorem azT72 : azT Try.prog 72 = some (8, 1, [.int .i64 0, .slice none 0 0, .slice none 0 0, .slice none 0 0, .slice none 0 0, .int .u64 0, .int .u64 0, .bool false]) := by kernel_rfl
theorem zeroT72 : zeroT Try.prog 72 = some [.int .i64 0, .slice none 0 0, .slice none 0 0, .slice none 0 0, .slice none 0 0, .int .u64 0, .int .u64 0, .bool false] := by kernel_rfl
theorem bT72 : bT Try.prog 72 = true := by kernel_rfl
theorem fldT72_0 : fldT Try.prog 72 0 = some (0, 5, true) := by kernel_rfl
theorem fldT72_1 : fldT Try.prog 72 1 = some (5, 1, false) := by kernel_rfl
theorem fldT72_2 : fldT Try.prog 72 2 = some (6, 1, false) := by kernel_rfl
theorem fldT72_3 : fldT Try.prog 72 3 = some (7, 1, false) := by kernel_rfl
theorem szT73 : szT Try.prog 73 = some (1, false) := by kernel_rfl
theorem arT73 : arT Try.prog 73 = none := by kernel_rfl
theorem szT74 : szT Try.prog 74 = some (1, false) := by kernel_rfl
theorem arT74 : arT Try.prog 74 = none := by kernel_rfl
theorem szT75 : szT Try.prog 75 = some (1, false) := by kernel_rfl
theorem arT75 : arT Try.prog 75 = none := by kernel_rfl
theorem conc75 : Program.concrete Try.prog 75 = true := by kernel_rfl
theorem szT76 : szT Try.prog 76 = some (1, false) := by kernel_rfl
theorem arT76 : arT Try.prog 76 = none := by kernel_rfl
theorem conc76 : Program.concrete Try.prog 76 = true := by kernel_rfl
theorem szT77 : szT Try.prog 77 = some (2, true) := by kernel_rfl
theorem arT77 : arT Try.prog 77 = none := by kernel_rfl
theorem conc77 : Program.concrete Try.prog 77 = true := by kernel_rfl
theorem undS77 : (Program.underlying Try.prog 77).isSome = true := by kernel_rfl
theorem elT77 : elT Try.prog 77 = none := by kernel_rfl
theorem azT77 : azT Try.prog 77 = some (2, 1, [.int .i64 0, .int .i64 0]) := by kernel_rfl
theorem zeroT77 : zeroT Try.prog 77 = some [.int .i64 0, .int .i64 0] := by kernel_rfl
theorem bT77 : bT Try.prog 77 = true := by kernel_rfl
theorem fldT77_0 : fldT Try.prog 77 0 = some (0, 1, false) := by kernel_rfl
theorem fldT77_1 : fldT Try.prog 77 1 = some (1, 1, false) := by kernel_rfl
theorem szT78 : szT Try.prog 78 = some (2, true) := by kernel_rfl
theorem arT78 : arT Try.prog 78 = none := by kernel_rfl
theorem conc78 : Program.concrete Try.prog 78 = true := by kernel_rfl
theorem undS78 : (Program.underlying Try.prog 78).isSome = true := by kernel_rfl
theorem elT78 : elT Try.prog 78 = none := by kernel_rfl
theorem azT78 : azT Try.prog 78 = some (2, 1, [.int .i64 0, .int .i64 0]) := by kernel_rfl
theorem zeroT78 : zeroT Try.prog 78 = some [.int .i64 0, .int .i64 0] := by kernel_rfl
theorem bT78 : bT Try.prog 78 = true := by kernel_rfl
theorem fldT78_0 : fldT Try.prog 78 0 = some (0, 1, false) := by kernel_rfl
theorem fldT78_1 : fldT Try.prog 78 1 = some (1, 1, false) := by kernel_rfl
theorem szT80 : szT Try.prog 80 = some (1, false) := by kernel_rfl
theorem arT80 : arT Try.prog 80 = none := by kernel_rfl
theorem conc80 : Program.concrete Try.prog 80 = true := by kernel_rfl
theorem szT81 : szT Try.prog 81 = some (1, false) := by kernel_rfl
theorem arT81 : arT Try.prog 81 = none := by kernel_rfl
theorem conc81 : Program.concrete Try.prog 81 = true := by kernel_rfl
theorem szT82 : szT Try.prog 82 = some (1, false) := by kernel_rfl
theorem arT82 : arT Try.prog 82 = none := by kernel_rfl
theorem conc82 : Program.concrete Try.prog 82 = true := by kernel_rfl
theorem szT84 : szT Try.prog 84 = some (1, false) := by kernel_rfl
theorem arT84 : arT Try.prog 84 = none := by kernel_rfl
theorem conc84 : Program.concrete Try.prog 84 = true := by kernel_rfl
theorem szT86 : szT Try.prog 86 = some (1, false) := by kernel_rfl
theorem arT86 : arT Try.prog 86 = none := by kernel_rfl
theorem conc86 : Program.concrete Try.prog 86 = true := by kernel_rfl
theorem szT87 : szT Try.prog 87 = some (1, false) := by kernel_rfl
theorem arT87 : arT Try.prog 87 = none := by kernel_rfl
theorem conc87 : Program.concrete Try.prog 87 = true := by kernel_rfl
theorem szT88 : szT Try.prog 88 = some (1, false) := by kernel_rfl
theorem arT88 : arT Try.prog 88 = none := by kernel_rfl
theorem conc88 : Program.concrete Try.prog 88 = true := by kernel_rfl
theorem szT89 : szT Try.prog 89 = some (1, false) := by kernel_rfl
theorem arT89 : arT Try.prog 89 = none := by kernel_rfl
theorem conc89 : Program.concrete Try.prog 89 = true := by kernel_rfl
theorem szT90 : szT Try.prog 90 = some (1, false) := by kernel_rfl
theorem arT90 : arT Try.prog 90 = none := by kernel_rfl
theorem conc90 : Program.concrete Try.prog 90 = true := by kernel_rfl
theorem undS90 : (Program.underlying Try.prog 90).isSome = true := by kernel_rfl
theorem intT90 : intT Try.prog 90 = some .u16 := by kernel_rfl
theorem elT90 : elT Try.prog 90 = none := by kernel_rfl
theorem azT90 : azT Try.prog 90 = some (1, 1, [.int .u16 0]) := by kernel_rfl
theorem zeroT90 : zeroT Try.prog 90 = some [.int .u16 0] := by kernel_rfl
theorem szT91 : szT Try.prog 91 = some (1, false) := by kernel_rfl
theorem arT91 : arT Try.prog 91 = none := by kernel_rfl
theorem conc91 : Program.concrete Try.prog 91 = true := by kernel_rfl
theorem szT92 : szT Try.prog 92 = some (1, false) := by kernel_rfl
theorem arT92 : arT Try.prog 92 = none := by kernel_rfl
theorem conc92 : Program.concrete Try.prog 92 = true := by kernel_rfl
theorem undS92 : (Program.underlying Try.prog 92).isSome = true := by kernel_rfl
theorem intT92 : intT Try.prog 92 = some .i64 := by kernel_rfl
theorem elT92 : elT Try.prog 92 = none := by kernel_rfl
theorem azT92 : azT Try.prog 92 = some (1, 1, [.int .i64 0]) := by kernel_rfl
theorem zeroT92 : zeroT Try.prog 92 = some [.int .i64 0] := by kernel_rfl
theorem szT95 : szT Try.prog 95 = some (1, false) := by kernel_rfl
theorem arT95 : arT Try.prog 95 = none := by kernel_rfl
theorem conc95 : Program.concrete Try.prog 95 = true := by kernel_rfl
theorem szT96 : szT Try.prog 96 = some (1, false) := by kernel_rfl
theorem arT96 : arT Try.prog 96 = none := by kernel_rfl
theorem conc96 : Program.concrete Try.prog 96 = true := by kernel_rfl
theorem szT97 : szT Try.prog 97 = some (1, false) := by kernel_rfl
theorem arT97 : arT Try.prog 97 = none := by kernel_rfl
theorem conc97 : Program.concrete Try.prog 97 = true := by kernel_rfl
theorem szT98 : szT Try.prog 98 = some (1, false) := by kernel_rfl
theorem arT98 : arT Try.prog 98 = none := by kernel_rfl
theorem conc98 : Program.concrete Try.prog 98 = true := by kernel_rfl
theorem szT99 : szT Try.prog 99 = some (3, true) := by kernel_rfl
theorem arT99 : arT Try.prog 99 = none := by kernel_rfl
theorem conc99 : Program.concrete Try.prog 99 = true := by kernel_rfl
theorem undS99 : (Program.underlying Try.prog 99).isSome = true := by kernel_rfl
theorem elT99 : elT Try.prog 99 = none := by kernel_rfl
theorem azT99 : azT Try.prog 99 = some (3, 1, [.int .i64 0, .nilFunc, .nilFunc]) := by kernel_rfl
theorem zeroT99 : zeroT Try.prog 99 = some [.int .i64 0, .nilFunc, .nilFunc] := by kernel_rfl
theorem bT99 : bT Try.prog 99 = true := by kernel_rfl
theorem fldT99_0 : fldT Try.prog 99 0 = some (0, 1, false) := by kernel_rfl
theorem fldT99_1 : fldT Try.prog 99 1 = some (1, 1, false) := by kernel_rfl
theorem fldT99_2 : fldT Try.prog 99 2 = some (2, 1, false) := by kernel_rfl
theorem szT100 : szT Try.prog 100 = some (3, true) := by kernel_rfl
theorem arT100 : arT Try.prog 100 = none := by kernel_rfl
theorem conc100 : Program.concrete Try.prog 100 = true := by kernel_rfl
theorem undS100 : (Program.underlying Try.prog 100).isSome = true := by kernel_rfl
theorem elT100 : elT Try.prog 100 = none := by kernel_rfl
theorem azT100 : azT Try.prog 100 = some (3, 1, [.int .i64 0, .nilFunc, .nilFunc]) := by kernel_rfl
theorem zeroT100 : zeroT Try.prog 100 = some [.int .i64 0, .nilFunc, .nilFunc] := by kernel_rfl
theorem bT100 : bT Try.prog 100 = true := by kernel_rfl
theorem fldT100_0 : fldT Try.prog 100 0 = some (0, 1, false) := by kernel_rfl
theorem fldT100_1 : fldT Try.prog 100 1 = some (1, 1, false) := by kernel_rfl
theorem fldT100_2 : fldT Try.prog 100 2 = some (2, 1, false) := by kernel_rfl
theorem szT101 : szT Try.prog 101 = some (5, true) := by kernel_rfl
theorem conc101 : Program.concrete Try.prog 101 = true := by kernel_rfl
theorem undS101 : (Program.underlying Try.prog 101).isSome = true := by kernel_rfl
theorem elT101 : elT Try.prog 101 = none := by kernel_rfl
theorem arT101 : arT Try.prog 101 = some (5, 1, false) := by kernel_rfl
theorem azT101 : azT Try.prog 101 = some (1, 5, [.int .i64 0]) := by kernel_rfl
theorem zeroT101 : zeroT Try.prog 101 = some [.int .i64 0, .int .i64 0, .int .i64 0, .int .i64 0, .int .i64 0] := by kernel_rfl
theorem szT102 : szT Try.prog 102 = some (6, true) := by kernel_rfl
theorem arT102 : arT Try.prog 102 = none := by kernel_rfl
theorem conc102 : Program.concrete Try.prog 102 = true := by kernel_rfl
theorem undS102 : (Program.underlying Try.prog 102).isSome = true := by kernel_rfl
theorem elT102 : elT Try.prog 102 = none := by kernel_rfl
theorem azT102 : azT Try.prog 102 = some (6, 1, [.int .i64 0, .int .i64 0, .int .i64 0, .int .i64 0, .int .i64 0, .int .i64 0]) := by kernel_rfl
theorem zeroT102 : zeroT Try.prog 102 = some [.int .i64 0, .int .i64 0, .int .i64 0, .int .i64 0, .int .i64 0, .int .i64 0] := by kernel_rfl
theorem bT102 : bT Try.prog 102 = true := by kernel_rfl
theorem fldT102_0 : fldT Try.prog 102 0 = some (0, 1, false) := by kernel_rfl
theorem fldT102_1 : fldT Try.prog 102 1 = some (1, 5, true) := by kernel_rfl
theorem szT103 : szT Try.prog 103 = some (6, true) := by kernel_rfl
theorem arT103 : arT Try.prog 103 = none := by kernel_rfl
theorem conc103 : Program.concrete Try.prog 103 = true := by kernel_rfl
theorem undS103 : (Program.underlying Try.prog 103).isSome = true := by kernel_rfl
theorem elT103 : elT Try.prog 103 = none := by kernel_rfl
theorem azT103 : azT Try.prog 103 = some (6, 1, [.int .i64 0, .int .i64 0, .int .i64 0, .int .i64 0, .int .i64 0, .int .i64 0]) := by kernel_rfl
theorem zeroT103 : zeroT Try.prog 103 = some [.int .i64 0, .int .i64 0, .int .i64 0, .int .i64 0, .int .i64 0, .int .i64 0] := by kernel_rfl
theorem bT103 : bT Try.prog 103 = true := by kernel_rfl
theorem fldT103_0 : fldT Try.prog 103 0 = some (0, 1, false) := by kernel_rfl
theorem fldT103_1 : fldT Try.prog 103 1 = some (1, 5, true) := by kernel_rfl
theorem szT104 : szT Try.prog 104 = some (1, true) := by kernel_rfl
theorem arT104 : arT Try.prog 104 = none := by kernel_rfl
theorem conc104 : Program.concrete Try.prog 104 = true := by kernel_rfl
theorem undS104 : (Program.underlying Try.prog 104).isSome = true := by kernel_rfl
theorem elT104 : elT Try.prog 104 = none := by kernel_rfl
theorem azT104 : azT Try.prog 104 = some (1, 1, [.int .i64 0]) := by kernel_rfl
theorem zeroT104 : zeroT Try.prog 104 = some [.int .i64 0] := by kernel_rfl
theorem bT104 : bT Try.prog 104 = true := by kernel_rfl
theorem fldT104_0 : fldT Try.prog 104 0 = some (0, 1, false) := by kernel_rfl
theorem szT105 : szT Try.prog 105 = some (1, true) := by kernel_rfl
theorem arT105 : arT Try.prog 105 = none := by kernel_rfl
theorem conc105 : Program.concrete Try.prog 105 = true := by kernel_rfl
theorem undS105 : (Program.underlying Try.prog 105).isSome = true := by kernel_rfl
theorem elT105 : elT Try.prog 105 = none := by kernel_rfl
theorem azT105 : azT Try.prog 105 = some (1, 1, [.int .i64 0]) := by kernel_rfl
theorem zeroT105 : zeroT Try.prog 105 = some [.int .i64 0] := by kernel_rfl
theorem bT105 : bT Try.prog 105 = true := by kernel_rfl
theorem fldT105_0 : fldT Try.prog 105 0 = some (0, 1, false) := by kernel_rfl
theorem szT106 : szT Try.prog 106 = some (1, true) := by kernel_rfl
theorem arT106 : arT Try.prog 106 = none := by kernel_rfl
theorem conc106 : Program.concrete Try.prog 106 = true := by kernel_rfl
theorem undS106 : (Program.underlying Try.prog 106).isSome = true := by kernel_rfl
theorem elT106 : elT Try.prog 106 = none := by kernel_rfl
theorem azT106 : azT Try.prog 106 = some (1, 1, [.int .i64 0]) := by kernel_rfl
theorem zeroT106 : zeroT Try.prog 106 = some [.int .i64 0] := by kernel_rfl
theorem bT106 : bT Try.prog 106 = true := by kernel_rfl
theorem fldT106_0 : fldT Try.prog 106 0 = some (0, 1, false) := by kernel_rfl
theorem szT107 : szT Try.prog 107 = some (1, false) := by kernel_rfl
theorem arT107 : arT Try.prog 107 = none := by kernel_rfl
theorem conc107 : Program.concrete Try.prog 107 = true := by kernel_rfl
theorem szT108 : szT Try.prog 108 = some (1, false) := by kernel_rfl
theorem arT108 : arT Try.prog 108 = none := by kernel_rfl
theorem conc108 : Program.concrete Try.prog 108 = true := by kernel_rfl
theorem szT109 : szT Try.prog 109 = some (1, false) := by kernel_rfl
theorem arT109 : arT Try.prog 109 = none := by kernel_rfl
theorem conc109 : Program.concrete Try.prog 109 = true := by kernel_rfl
theorem szT110 : szT Try.prog 110 = some (1, false) := by kernel_rfl
theorem arT110 : arT Try.prog 110 = none := by kernel_rfl
theorem conc110 : Program.concrete Try.prog 110 = true := by kernel_rfl
theorem szT111 : szT Try.prog 111 = some (1, false) := by kernel_rfl
theorem arT111 : arT Try.prog 111 = none := by kernel_rfl
theorem conc111 : Program.concrete Try.prog 111 = true := by kernel_rfl
theorem szT112 : szT Try.prog 112 = some (1, false) := by kernel_rfl
theorem arT112 : arT Try.prog 112 = none := by kernel_rfl
theorem conc112 : Program.concrete Try.prog 112 = true := by kernel_rfl
theorem szT113 : szT Try.prog 113 = some (1, false) := by kernel_rfl
theorem arT113 : arT Try.prog 113 = none := by kernel_rfl
theorem conc113 : Program.concrete Try.prog 113 = true := by kernel_rfl
theorem szT114 : szT Try.prog 114 = some (4, true) := by kernel_rfl
theorem arT114 : arT Try.prog 114 = none := by kernel_rfl
theorem conc114 : Program.concrete Try.prog 114 = true := by kernel_rfl
theorem undS114 : (Program.underlying Try.prog 114).isSome = true := by kernel_rfl
theorem elT114 : elT Try.prog 114 = none := by kernel_rfl
theorem azT114 : azT Try.prog 114 = some (4, 1, [.int .i64 0, .int .i64 0, .nilFunc, .nilFunc]) := by kernel_rfl
theorem zeroT114 : zeroT Try.prog 114 = some [.int .i64 0, .int .i64 0, .nilFunc, .nilFunc] := by kernel_rfl
theorem bT114 : bT Try.prog 114 = true := by kernel_rfl
theorem fldT114_0 : fldT Try.prog 114 0 = some (0, 2, true) := by kernel_rfl
theorem fldT114_1 : fldT Try.prog 114 1 = some (2, 1, false) := by kernel_rfl
theorem fldT114_2 : fldT Try.prog 114 2 = some (3, 1, false) := by kernel_rfl
theorem szT115 : szT Try.prog 115 = some (4, true) := by kernel_rfl
theorem arT115 : arT Try.prog 115 = none := by kernel_rfl
theorem conc115 : Program.concrete Try.prog 115 = true := by kernel_rfl
theorem undS115 : (Program.underlying Try.prog 115).isSome = true := by kernel_rfl
theorem elT115 : elT Try.prog 115 = none := by kernel_rfl
theorem azT115 : azT Try.prog 115 = some (4, 1, [.int .i64 0, .int .i64 0, .nilFunc, .nilFunc]) := by kernel_rfl
theorem zeroT115 : zeroT Try.prog 115 = some [.int .i64 0, .int .i64 0, .nilFunc, .nilFunc] := by kernel_rfl
theorem bT115 : bT Try.prog 115 = true := by kernel_rfl
theorem fldT115_0 : fldT Try.prog 115 0 = some (0, 2, true) := by kernel_rfl
theorem fldT115_1 : fldT Try.prog 115 1 = some (2, 1, false) := by kernel_rfl
theorem fldT115_2 : fldT Try.prog 115 2 = some (3, 1, false) := by kernel_rfl
theorem szT116 : szT Try.prog 116 = some (1, false) := by kernel_rfl
theorem arT116 : arT Try.prog 116 = none := by kernel_rfl
theorem conc116 : Program.concrete Try.prog 116 = true := by kernel_rfl
theorem szT117 : szT Try.prog 117 = some (1, false) := by kernel_rfl
theorem arT117 : arT Try.prog 117 = none := by kernel_rfl
theorem conc117 : Program.concrete Try.prog 117 = true := by kernel_rfl
theorem szT118 : szT Try.prog 118 = some (1, false) := by kernel_rfl
theorem arT118 : arT Try.prog 118 = none := by kernel_rfl
theorem conc118 : Program.concrete Try.prog 118 = true := by kernel_rfl
theorem szT119 : szT Try.prog 119 = some (2, true) := by kernel_rfl
theorem arT119 : arT Try.prog 119 = none := by kernel_rfl
theorem conc119 : Program.concrete Try.prog 119 = true := by kernel_rfl
theorem undS119 : (Program.underlying Try.prog 119).isSome = true := by kernel_rfl
theorem elT119 : elT Try.prog 119 = none := by kernel_rfl
theorem azT119 : azT Try.prog 119 = some (2, 1, [.int .i64 0, .bool false]) := by kernel_rfl
theorem zeroT119 : zeroT Try.prog 119 = some [.int .i64 0, .bool false] := by kernel_rfl
theorem bT119 : bT Try.prog 119 = true := by kernel_rfl
theorem fldT119_0 : fldT Try.prog 119 0 = some (0, 1, false) := by kernel_rfl
theorem fldT119_1 : fldT Try.prog 119 1 = some (1, 1, false) := by kernel_rfl
theorem szT120 : szT Try.prog 120 = some (2, true) := by kernel_rfl
theorem arT120 : arT Try.prog 120 = none := by kernel_rfl
theorem conc120 : Program.concrete Try.prog 120 = true := by kernel_rfl
theorem undS120 : (Program.underlying Try.prog 120).isSome = true := by kernel_rfl
theorem elT120 : elT Try.prog 120 = none := by kernel_rfl
theorem azT120 : azT Try.prog 120 = some (2, 1, [.int .i64 0, .bool false]) := by kernel_rfl
theorem zeroT120 : zeroT Try.prog 120 = some [.int .i64 0, .bool false] := by kernel_rfl
theorem bT120 : bT Try.prog 120 = true := by kernel_rfl
theorem fldT120_0 : fldT Try.prog 120 0 = some (0, 1, false) := by kernel_rfl
theorem fldT120_1 : fldT Try.prog 120 1 = some (1, 1, false) := by kernel_rfl
theorem szT122 : szT Try.prog 122 = some (1, false) := by kernel_rfl
theorem arT122 : arT Try.prog 122 = none := by kernel_rfl
theorem conc122 : Program.concrete Try.prog 122 = true := by kernel_rfl
theorem szT123 : szT Try.prog 123 = some (1, false) := by kernel_rfl
theorem arT123 : arT Try.prog 123 = none := by kernel_rfl
theorem conc123 : Program.concrete Try.prog 123 = true := by kernel_rfl
theorem szT124 : szT Try.prog 124 = some (1, false) := by kernel_rfl
theorem arT124 : arT Try.prog 124 = none := by kernel_rfl
theorem conc124 : Program.concrete Try.prog 124 = true := by kernel_rfl
theorem szT125 : szT Try.prog 125 = some (1, false) := by kernel_rfl
theorem arT125 : arT Try.prog 125 = none := by kernel_rfl
theorem conc125 : Program.concrete Try.prog 125 = true := by kernel_rfl
theorem szT126 : szT Try.prog 126 = some (3, true) := by kernel_rfl
theorem arT126 : arT Try.prog 126 = none := by kernel_rfl
theorem conc126 : Program.concrete Try.prog 126 = true := by kernel_rfl
theorem undS126 : (Program.underlying Try.prog 126).isSome = true := by kernel_rfl
theorem elT126 : elT Try.prog 126 = none := by kernel_rfl
theorem azT126 : azT Try.prog 126 = some (3, 1, [.int .i64 0, .int .i64 0, .bool false]) := by kernel_rfl
theorem zeroT126 : zeroT Try.prog 126 = some [.int .i64 0, .int .i64 0, .bool false] := by kernel_rfl
theorem bT126 : bT Try.prog 126 = true := by kernel_rfl
theorem fldT126_0 : fldT Try.prog 126 0 = some (0, 2, true) := by kernel_rfl
theorem fldT126_1 : fldT Try.prog 126 1 = some (2, 1, false) := by kernel_rfl
theorem szT127 : szT Try.prog 127 = some (3, true) := by kernel_rfl
theorem arT127 : arT Try.prog 127 = none := by kernel_rfl
theorem conc127 : Program.concrete Try.prog 127 = true := by kernel_rfl
theorem undS127 : (Program.underlying Try.prog 127).isSome = true := by kernel_rfl
theorem elT127 : elT Try.prog 127 = none := by kernel_rfl
theorem azT127 : azT Try.prog 127 = some (3, 1, [.int .i64 0, .int .i64 0, .bool false]) := by kernel_rfl
theorem zeroT127 : zeroT Try.prog 127 = some [.int .i64 0, .int .i64 0, .bool false] := by kernel_rfl
theorem bT127 : bT Try.prog 127 = true := by kernel_rfl
theorem fldT127_0 : fldT Try.prog 127 0 = some (0, 2, true) := by kernel_rfl
theorem fldT127_1 : fldT Try.prog 127 1 = some (2, 1, false) := by kernel_rfl
theorem szT129 : szT Try.prog 129 = some (1, false) := by kernel_rfl
theorem arT129 : arT Try.prog 129 = none := by kernel_rfl
theorem conc129 : Program.concrete Try.prog 129 = true := by kernel_rfl
theorem undS129 : (Program.underlying Try.prog 129).isSome = true := by kernel_rfl
theorem elT129 : elT Try.prog 129 = some (2, true) := by kernel_rfl
theorem elB129 : elB Try.prog 129 = some (2, 16) := by kernel_rfl
theorem bsT129 : bsT Try.prog 129 = some 2 := by kernel_rfl
theorem mkT129 : mkT Try.prog 129 = some (2, 16, [.int .i64 0, .int .i64 0]) := by kernel_rfl
theorem azT129 : azT Try.prog 129 = some (1, 1, [.slice none 0 0]) := by kernel_rfl
theorem zeroT129 : zeroT Try.prog 129 = some [.slice none 0 0] := by kernel_rfl
theorem szT130 : szT Try.prog 130 = some (1, false) := by kernel_rfl
theorem arT130 : arT Try.prog 130 = none := by kernel_rfl
theorem conc130 : Program.concrete Try.prog 130 = true := by kernel_rfl
theorem szT131 : szT Try.prog 131 = some (1, false) := by kernel_rfl
theorem arT131 : arT Try.prog 131 = none := by kernel_rfl
theorem conc131 : Program.concrete Try.prog 131 = true := by kernel_rfl
theorem szT132 : szT Try.prog 132 = some (1, false) := by kernel_rfl
theorem arT132 : arT Try.prog 132 = none := by kernel_rfl
theorem conc132 : Program.concrete Try.prog 132 = true := by kernel_rfl
theorem undS132 : (Program.underlying Try.prog 132).isSome = true := by kernel_rfl
theorem intT132 : intT Try.prog 132 = some .u32 := by kernel_rfl
theorem elT132 : elT Try.prog 132 = none := by kernel_rfl
theorem azT132 : azT Try.prog 132 = some (1, 1, [.int .u32 0]) := by kernel_rfl
theorem zeroT132 : zeroT Try.prog 132 = some [.int .u32 0] := by kernel_rfl
theorem szT133 : szT Try.prog 133 = some (1, false) := by kernel_rfl
theorem arT133 : arT Try.prog 133 = none := by kernel_rfl
theorem conc133 : Program.concrete Try.prog 133 = true := by kernel_rfl
theorem szT134 : szT Try.prog 134 = some (1, false) := by kernel_rfl
theorem arT134 : arT Try.prog 134 = none := by kernel_rfl
theorem conc134 : Program.concrete Try.prog 134 = true := by kernel_rfl
theorem undS134 : (Program.underlying Try.prog 134).isSome = true := by kernel_rfl
theorem intT134 : intT Try.prog 134 = some .u64 := by kernel_rfl
theorem elT134 : elT Try.prog 134 = none := by kernel_rfl
theorem azT134 : azT Try.prog 134 = some (1, 1, [.int .u64 0]) := by kernel_rfl
theorem zeroT134 : zeroT Try.prog 134 = some [.int .u64 0] := by kernel_rfl
theorem szT135 : szT Try.prog 135 = some (1, false) := by kernel_rfl
theorem arT135 : arT Try.prog 135 = none := by kernel_rfl
theorem conc135 : Program.concrete Try.prog 135 = true := by kernel_rfl
theorem szT136 : szT Try.prog 136 = some (1, false) := by kernel_rfl
theorem arT136 : arT Try.prog 136 = none := by kernel_rfl
theorem conc136 : Program.concrete Try.prog 136 = true := by kernel_rfl
theorem szT144 : szT Try.prog 144 = some (1, false) := by kernel_rfl
theorem arT144 : arT Try.prog 144 = none := by kernel_rfl
theorem conc144 : Program.concrete Try.prog 144 = true := by kernel_rfl
theorem szT145 : szT Try.prog 145 = some (1, false) := by kernel_rfl
theorem zeroT145 : azT Try.prog 145 = some (1, 1, [.pointer none]) := by kernel_rfl
theorem arT145 : arT Try.prog 145 = none := by kernel_rfl
theorem conc145 : Program.concrete Try.prog 145 = true := by kernel_rfl
theorem szT150 : szT Try.prog 150 = some (1, false) := by kernel_rfl
theorem arT150 : arT Try.prog 150 = none := by kernel_rfl
theorem conc150 : Program.concrete Try.prog 150 = true := by kernel_rfl
theorem undS150 : (Program.underlying Try.prog 150).isSome = true := by kernel_rfl
theorem elT150 : elT Try.prog 150 = none := by kernel_rfl
theorem azT150 : azT Try.prog 150 = some (1, 1, [.pointer none]) := by kernel_rfl
theorem zeroT150 : zeroT Try.prog 150 = some [.pointer none] := by kernel_rfl

theorem wtAll : type_of% (And.intro (And.intro (And.intro (And.intro (And.intro (And.intro (And.intro (And.intro (And.intro (@szT1) (@arT1)) (And.intro (@conc1) (And.intro (@szT2) (@arT2)))) (And.intro (And.intro (@conc2) (@undS2)) (And.intro (@intT2) (And.intro (@elT2) (@azT2))))) (And.intro (And.intro (And.intro (@zeroT2) (@szT3)) (And.intro (@arT3) (And.intro (@conc3) (@undS3)))) (And.intro (And.intro (@intT3) (@elT3)) (And.intro (@azT3) (And.intro (@zeroT3) (@szT4)))))) (And.intro (And.intro (And.intro (And.intro (@arT4) (@conc4)) (And.intro (@undS4) (And.intro (@elT4) (@azT4)))) (And.intro (And.intro (@zeroT4) (@szT5)) (And.intro (@arT5) (And.intro (@conc5) (@undS5))))) (And.intro (And.intro (And.intro (@intT5) (@elT5)) (And.intro (@azT5) (And.intro (@zeroT5) (@szT12)))) (And.intro (And.intro (@arT12) (@conc12)) (And.intro (@undS12) (And.intro (@intT12) (@elT12))))))) (And.intro (And.intro (And.intro (And.intro (And.intro (@azT12) (@zeroT12)) (And.intro (@szT13) (And.intro (@arT13) (@conc13)))) (And.intro (And.intro (@undS13) (@elT13)) (And.intro (@azT13) (And.intro (@zeroT13) (@bT13))))) (And.intro (And.intro (And.intro (@fldT13_0) (@fldT13_1)) (And.intro (@szT20) (And.intro (@arT20) (@szT21)))) (And.intro (And.intro (@arT21) (@conc21)) (And.intro (@undS21) (And.intro (@intT21) (@elT21)))))) (And.intro (And.intro (And.intro (And.intro (@azT21) (@zeroT21)) (And.intro (@szT22) (And.intro (@arT22) (@conc22)))) (And.intro (And.intro (@undS22) (@elT22)) (And.intro (@elB22) (And.intro (@bsT22) (@mkT22))))) (And.intro (And.intro (And.intro (@azT22) (@zeroT22)) (And.intro (@szT23) (And.intro (@arT23) (@conc23)))) (And.intro (And.intro (@undS23) (And.intro (@elT23) (@elB23))) (And.intro (@bsT23) (And.intro (@mkT23) (@azT23)))))))) (And.intro (And.intro (And.intro (And.intro (And.intro (And.intro (@zeroT23) (@szT24)) (And.intro (@arT24) (And.intro (@conc24) (@undS24)))) (And.intro (And.intro (@elT24) (@elB24)) (And.intro (@bsT24) (And.intro (@mkT24) (@azT24))))) (And.intro (And.intro (And.intro (@zeroT24) (@szT25)) (And.intro (@arT25) (And.intro (@conc25) (@undS25)))) (And.intro (And.intro (@elT25) (@elB25)) (And.intro (@bsT25) (And.intro (@mkT25) (@azT25)))))) (And.intro (And.intro (And.intro (And.intro (@zeroT25) (@szT26)) (And.intro (@arT26) (And.intro (@conc26) (@undS26)))) (And.intro (And.intro (@elT26) (@azT26)) (And.intro (@zeroT26) (And.intro (@bT26) (@fldT26_0))))) (And.intro (And.intro (And.intro (@fldT26_1) (@fldT26_2)) (And.intro (@fldT26_3) (And.intro (@fldT26_4) (@szT27)))) (And.intro (And.intro (@arT27) (@conc27)) (And.intro (@undS27) (And.intro (@elT27) (@azT27))))))) (And.intro (And.intro (And.intro (And.intro (And.intro (@zeroT27) (@bT27)) (And.intro (@fldT27_0) (And.intro (@fldT27_1) (@fldT27_2)))) (And.intro (And.intro (@fldT27_3) (@fldT27_4)) (And.intro (@szT28) (And.intro (@arT28) (@conc28))))) (And.intro (And.intro (And.intro (@szT29) (@arT29)) (And.intro (@conc29) (And.intro (@szT30) (@arT30)))) (And.intro (And.intro (@conc30) (@undS30)) (And.intro (@intT30) (And.intro (@elT30) (@azT30)))))) (And.intro (And.intro (And.intro (And.intro (@zeroT30) (@szT32)) (And.intro (@arT32) (And.intro (@conc32) (@szT33)))) (And.intro (And.intro (@arT33) (@conc33)) (And.intro (@szT34) (And.intro (@arT34) (@conc34))))) (And.intro (And.intro (And.intro (@szT36) (@arT36)) (And.intro (@conc36) (And.intro (@szT37) (@arT37)))) (And.intro (And.intro (@conc37) (And.intro (@szT38) (@arT38))) (And.intro (@conc38) (And.intro (@undS38) (@elT38))))))))) (And.intro (And.intro (And.intro (And.intro (And.intro (And.intro (And.intro (@elB38) (@bsT38)) (And.intro (@mkT38) (And.intro (@azT38) (@zeroT38)))) (And.intro (And.intro (@szT40) (@arT40)) (And.intro (@conc40) (And.intro (@szT41) (@arT41))))) (And.intro (And.intro (And.intro (@conc41) (@szT42)) (And.intro (@arT42) (And.intro (@conc42) (@undS42)))) (And.intro (And.intro (@elT42) (@azT42)) (And.intro (@zeroT42) (And.intro (@bT42) (@fldT42_0)))))) (And.intro (And.intro (And.intro (And.intro (@fldT42_1) (@fldT42_2)) (And.intro (@szT43) (And.intro (@arT43) (@conc43)))) (And.intro (And.intro (@undS43) (@elT43)) (And.intro (@azT43) (And.intro (@zeroT43) (@bT43))))) (And.intro (And.intro (And.intro (@fldT43_0) (@fldT43_1)) (And.intro (@fldT43_2) (And.intro (@szT44) (@arT44)))) (And.intro (And.intro (@conc44) (@szT46)) (And.intro (@arT46) (And.intro (@conc46) (@szT47))))))) (And.intro (And.intro (And.intro (And.intro (And.intro (@arT47) (@conc47)) (And.intro (@szT48) (And.intro (@arT48) (@conc48)))) (And.intro (And.intro (@szT49) (@arT49)) (And.intro (@conc49) (And.intro (@szT50) (@arT50))))) (And.intro (And.intro (And.intro (@conc50) (@szT51)) (And.intro (@arT51) (And.intro (@conc51) (@undS51)))) (And.intro (And.intro (@elT51) (@elB51)) (And.intro (@bsT51) (And.intro (@mkT51) (@azT51)))))) (And.intro (And.intro (And.intro (And.intro (@zeroT51) (@szT52)) (And.intro (@arT52) (And.intro (@conc52) (@undS52)))) (And.intro (And.intro (@elT52) (@azT52)) (And.intro (@zeroT52) (And.intro (@bT52) (@fldT52_0))))) (And.intro (And.intro (And.intro (@fldT52_1) (@fldT52_2)) (And.intro (@szT53) (And.intro (@arT53) (@conc53)))) (And.intro (And.intro (@undS53) (And.intro (@elT53) (@azT53))) (And.intro (@zeroT53) (And.intro (@bT53) (@fldT53_0)))))))) (And.intro (And.intro (And.intro (And.intro (And.intro (And.intro (@fldT53_1) (@fldT53_2)) (And.intro (@szT54) (And.intro (@arT54) (@conc54)))) (And.intro (And.intro (@szT55) (@arT55)) (And.intro (@conc55) (And.intro (@szT56) (@arT56))))) (And.intro (And.intro (And.intro (@conc56) (@szT57)) (And.intro (@arT57) (And.intro (@conc57) (@szT58)))) (And.intro (And.intro (@zeroT58) (@arT58)) (And.intro (@conc58) (And.intro (@szT59) (@zeroT59)))))) (And.intro (And.intro (And.intro (And.intro (@arT59) (@conc59)) (And.intro (@szT60) (And.intro (@arT60) (@conc60)))) (And.intro (And.intro (@szT61) (@arT61)) (And.intro (@conc61) (And.intro (@szT62) (@arT62))))) (And.intro (And.intro (And.intro (@conc62) (@szT63)) (And.intro (@arT63) (And.intro (@conc63) (@szT64)))) (And.intro (And.intro (@arT64) (@conc64)) (And.intro (@szT65) (And.intro (@arT65) (@conc65))))))) (And.intro (And.intro (And.intro (And.intro (And.intro (@szT66) (@arT66)) (And.intro (@conc66) (And.intro (@szT67) (@arT67)))) (And.intro (And.intro (@conc67) (@szT68)) (And.intro (@arT68) (And.intro (@conc68) (@szT69))))) (And.intro (And.intro (And.intro (@arT69) (@conc69)) (And.intro (@szT70) (And.intro (@arT70) (@conc70)))) (And.intro (And.intro (@undS70) (@intT70)) (And.intro (@elT70) (And.intro (@azT70) (@zeroT70)))))) (And.intro (And.intro (And.intro (And.intro (@szT71) (@arT71)) (And.intro (@conc71) (And.intro (@undS71) (@elT71)))) (And.intro (And.intro (@azT71) (@zeroT71)) (And.intro (@bT71) (And.intro (@fldT71_0) (@fldT71_1))))) (And.intro (And.intro (And.intro (@fldT71_2) (@fldT71_3)) (And.intro (@szT72) (And.intro (@arT72) (@conc72)))) (And.intro (And.intro (@undS72) (And.intro (@elT72) (@azT72))) (And.intro (@zeroT72) (And.intro (@bT72) (@fldT72_0)))))))))) (And.intro (And.intro (And.intro (And.intro (And.intro (And.intro (And.intro (And.intro (@fldT72_1) (@fldT72_2)) (And.intro (@fldT72_3) (And.intro (@szT73) (@arT73)))) (And.intro (And.intro (@szT74) (@arT74)) (And.intro (@szT75) (And.intro (@arT75) (@conc75))))) (And.intro (And.intro (And.intro (@szT76) (@arT76)) (And.intro (@conc76) (And.intro (@szT77) (@arT77)))) (And.intro (And.intro (@conc77) (@undS77)) (And.intro (@elT77) (And.intro (@azT77) (@zeroT77)))))) (And.intro (And.intro (And.intro (And.intro (@bT77) (@fldT77_0)) (And.intro (@fldT77_1) (And.intro (@szT78) (@arT78)))) (And.intro (And.intro (@conc78) (@undS78)) (And.intro (@elT78) (And.intro (@azT78) (@zeroT78))))) (And.intro (And.intro (And.intro (@bT78) (@fldT78_0)) (And.intro (@fldT78_1) (And.intro (@szT80) (@arT80)))) (And.intro (And.intro (@conc80) (@szT81)) (And.intro (@arT81) (And.intro (@conc81) (@szT82))))))) (And.intro (And.intro (And.intro (And.intro (And.intro (@arT82) (@conc82)) (And.intro (@szT84) (And.intro (@arT84) (@conc84)))) (And.intro (And.intro (@szT86) (@arT86)) (And.intro (@conc86) (And.intro (@szT87) (@arT87))))) (And.intro (And.intro (And.intro (@conc87) (@szT88)) (And.intro (@arT88) (And.intro (@conc88) (@szT89)))) (And.intro (And.intro (@arT89) (@conc89)) (And.intro (@szT90) (And.intro (@arT90) (@conc90)))))) (And.intro (And.intro (And.intro (And.intro (@undS90) (@intT90)) (And.intro (@elT90) (And.intro (@azT90) (@zeroT90)))) (And.intro (And.intro (@szT91) (@arT91)) (And.intro (@conc91) (And.intro (@szT92) (@arT92))))) (And.intro (And.intro (And.intro (@conc92) (@undS92)) (And.intro (@intT92) (And.intro (@elT92) (@azT92)))) (And.intro (And.intro (@zeroT92) (And.intro (@szT95) (@arT95))) (And.intro (@conc95) (And.intro (@szT96) (@arT96)))))))) (And.intro (And.intro (And.intro (And.intro (And.intro (And.intro (@conc96) (@szT97)) (And.intro (@arT97) (And.intro (@conc97) (@szT98)))) (And.intro (And.intro (@arT98) (@conc98)) (And.intro (@szT99) (And.intro (@arT99) (@conc99))))) (And.intro (And.intro (And.intro (@undS99) (@elT99)) (And.intro (@azT99) (And.intro (@zeroT99) (@bT99)))) (And.intro (And.intro (@fldT99_0) (@fldT99_1)) (And.intro (@fldT99_2) (And.intro (@szT100) (@arT100)))))) (And.intro (And.intro (And.intro (And.intro (@conc100) (@undS100)) (And.intro (@elT100) (And.intro (@azT100) (@zeroT100)))) (And.intro (And.intro (@bT100) (@fldT100_0)) (And.intro (@fldT100_1) (And.intro (@fldT100_2) (@szT101))))) (And.intro (And.intro (And.intro (@conc101) (@undS101)) (And.intro (@elT101) (And.intro (@arT101) (@azT101)))) (And.intro (And.intro (@zeroT101) (@szT102)) (And.intro (@arT102) (And.intro (@conc102) (@undS102))))))) (And.intro (And.intro (And.intro (And.intro (And.intro (@elT102) (@azT102)) (And.intro (@zeroT102) (And.intro (@bT102) (@fldT102_0)))) (And.intro (And.intro (@fldT102_1) (@szT103)) (And.intro (@arT103) (And.intro (@conc103) (@undS103))))) (And.intro (And.intro (And.intro (@elT103) (@azT103)) (And.intro (@zeroT103) (And.intro (@bT103) (@fldT103_0)))) (And.intro (And.intro (@fldT103_1) (@szT104)) (And.intro (@arT104) (And.intro (@conc104) (@undS104)))))) (And.intro (And.intro (And.intro (And.intro (@elT104) (@azT104)) (And.intro (@zeroT104) (And.intro (@bT104) (@fldT104_0)))) (And.intro (And.intro (@szT105) (@arT105)) (And.intro (@conc105) (And.intro (@undS105) (@elT105))))) (And.intro (And.intro (And.intro (@azT105) (@zeroT105)) (And.intro (@bT105) (And.intro (@fldT105_0) (@szT106)))) (And.intro (And.intro (@arT106) (And.intro (@conc106) (@undS106))) (And.intro (@elT106) (And.intro (@azT106) (@zeroT106))))))))) (And.intro (And.intro (And.intro (And.intro (And.intro (And.intro (And.intro (@bT106) (@fldT106_0)) (And.intro (@szT107) (And.intro (@arT107) (@conc107)))) (And.intro (And.intro (@szT108) (@arT108)) (And.intro (@conc108) (And.intro (@szT109) (@arT109))))) (And.intro (And.intro (And.intro (@conc109) (@szT110)) (And.intro (@arT110) (And.intro (@conc110) (@szT111)))) (And.intro (And.intro (@arT111) (@conc111)) (And.intro (@szT112) (And.intro (@arT112) (@conc112)))))) (And.intro (And.intro (And.intro (And.intro (@szT113) (@arT113)) (And.intro (@conc113) (And.intro (@szT114) (@arT114)))) (And.intro (And.intro (@conc114) (@undS114)) (And.intro (@elT114) (And.intro (@azT114) (@zeroT114))))) (And.intro (And.intro (And.intro (@bT114) (@fldT114_0)) (And.intro (@fldT114_1) (And.intro (@fldT114_2) (@szT115)))) (And.intro (And.intro (@arT115) (@conc115)) (And.intro (@undS115) (And.intro (@elT115) (@azT115))))))) (And.intro (And.intro (And.intro (And.intro (And.intro (@zeroT115) (@bT115)) (And.intro (@fldT115_0) (And.intro (@fldT115_1) (@fldT115_2)))) (And.intro (And.intro (@szT116) (@arT116)) (And.intro (@conc116) (And.intro (@szT117) (@arT117))))) (And.intro (And.intro (And.intro (@conc117) (@szT118)) (And.intro (@arT118) (And.intro (@conc118) (@szT119)))) (And.intro (And.intro (@arT119) (@conc119)) (And.intro (@undS119) (And.intro (@elT119) (@azT119)))))) (And.intro (And.intro (And.intro (And.intro (@zeroT119) (@bT119)) (And.intro (@fldT119_0) (And.intro (@fldT119_1) (@szT120)))) (And.intro (And.intro (@arT120) (@conc120)) (And.intro (@undS120) (And.intro (@elT120) (@azT120))))) (And.intro (And.intro (And.intro (@zeroT120) (@bT120)) (And.intro (@fldT120_0) (And.intro (@fldT120_1) (@szT122)))) (And.intro (And.intro (@arT122) (And.intro (@conc122) (@szT123))) (And.intro (@arT123) (And.intro (@conc123) (@szT124)))))))) (And.intro (And.intro (And.intro (And.intro (And.intro (And.intro (@arT124) (@conc124)) (And.intro (@szT125) (And.intro (@arT125) (@conc125)))) (And.intro (And.intro (@szT126) (@arT126)) (And.intro (@conc126) (And.intro (@undS126) (@elT126))))) (And.intro (And.intro (And.intro (@azT126) (@zeroT126)) (And.intro (@bT126) (And.intro (@fldT126_0) (@fldT126_1)))) (And.intro (And.intro (@szT127) (@arT127)) (And.intro (@conc127) (And.intro (@undS127) (@elT127)))))) (And.intro (And.intro (And.intro (And.intro (@azT127) (@zeroT127)) (And.intro (@bT127) (And.intro (@fldT127_0) (@fldT127_1)))) (And.intro (And.intro (@szT129) (@arT129)) (And.intro (@conc129) (And.intro (@undS129) (@elT129))))) (And.intro (And.intro (And.intro (@elB129) (@bsT129)) (And.intro (@mkT129) (And.intro (@azT129) (@zeroT129)))) (And.intro (And.intro (@szT130) (And.intro (@arT130) (@conc130))) (And.intro (@szT131) (And.intro (@arT131) (@conc131))))))) (And.intro (And.intro (And.intro (And.intro (And.intro (@szT132) (@arT132)) (And.intro (@conc132) (And.intro (@undS132) (@intT132)))) (And.intro (And.intro (@elT132) (@azT132)) (And.intro (@zeroT132) (And.intro (@szT133) (@arT133))))) (And.intro (And.intro (And.intro (@conc133) (@szT134)) (And.intro (@arT134) (And.intro (@conc134) (@undS134)))) (And.intro (And.intro (@intT134) (@elT134)) (And.intro (@azT134) (And.intro (@zeroT134) (@szT135)))))) (And.intro (And.intro (And.intro (And.intro (@arT135) (@conc135)) (And.intro (@szT136) (And.intro (@arT136) (@conc136)))) (And.intro (And.intro (@szT144) (@arT144)) (And.intro (@conc144) (And.intro (@szT145) (@zeroT145))))) (And.intro (And.intro (And.intro (@arT145) (@conc145)) (And.intro (@szT150) (And.intro (@arT150) (@conc150)))) (And.intro (And.intro (@undS150) (And.intro (@elT150) (@azT150))) (And.intro (@zeroT150) (And.intro (@boolT4) (@ifcT20))))))))))) := And.intro (And.intro (And.intro (And.intro (And.intro (And.intro (And.intro (And.intro (And.intro (@szT1) (@arT1)) (And.intro (@conc1) (And.intro (@szT2) (@arT2)))) (And.intro (And.intro (@conc2) (@undS2)) (And.intro (@intT2) (And.intro (@elT2) (@azT2))))) (And.intro (And.intro (And.intro (@zeroT2) (@szT3)) (And.intro (@arT3) (And.intro (@conc3) (@undS3)))) (And.intro (And.intro (@intT3) (@elT3)) (And.intro (@azT3) (And.intro (@zeroT3) (@szT4)))))) (And.intro (And.intro (And.intro (And.intro (@arT4) (@conc4)) (And.intro (@undS4) (And.intro (@elT4) (@azT4)))) (And.intro (And.intro (@zeroT4) (@szT5)) (And.intro (@arT5) (And.intro (@conc5) (@undS5))))) (And.intro (And.intro (And.intro (@intT5) (@elT5)) (And.intro (@azT5) (And.intro (@zeroT5) (@szT12)))) (And.intro (And.intro (@arT12) (@conc12)) (And.intro (@undS12) (And.intro (@intT12) (@elT12))))))) (And.intro (And.intro (And.intro (And.intro (And.intro (@azT12) (@zeroT12)) (And.intro (@szT13) (And.intro (@arT13) (@conc13)))) (And.intro (And.intro (@undS13) (@elT13)) (And.intro (@azT13) (And.intro (@zeroT13) (@bT13))))) (And.intro (And.intro (And.intro (@fldT13_0) (@fldT13_1)) (And.intro (@szT20) (And.intro (@arT20) (@szT21)))) (And.intro (And.intro (@arT21) (@conc21)) (And.intro (@undS21) (And.intro (@intT21) (@elT21)))))) (And.intro (And.intro (And.intro (And.intro (@azT21) (@zeroT21)) (And.intro (@szT22) (And.intro (@arT22) (@conc22)))) (And.intro (And.intro (@undS22) (@elT22)) (And.intro (@elB22) (And.intro (@bsT22) (@mkT22))))) (And.intro (And.intro (And.intro (@azT22) (@zeroT22)) (And.intro (@szT23) (And.intro (@arT23) (@conc23)))) (And.intro (And.intro (@undS23) (And.intro (@elT23) (@elB23))) (And.intro (@bsT23) (And.intro (@mkT23) (@azT23)))))))) (And.intro (And.intro (And.intro (And.intro (And.intro (And.intro (@zeroT23) (@szT24)) (And.intro (@arT24) (And.intro (@conc24) (@undS24)))) (And.intro (And.intro (@elT24) (@elB24)) (And.intro (@bsT24) (And.intro (@mkT24) (@azT24))))) (And.intro (And.intro (And.intro (@zeroT24) (@szT25)) (And.intro (@arT25) (And.intro (@conc25) (@undS25)))) (And.intro (And.intro (@elT25) (@elB25)) (And.intro (@bsT25) (And.intro (@mkT25) (@azT25)))))) (And.intro (And.intro (And.intro (And.intro (@zeroT25) (@szT26)) (And.intro (@arT26) (And.intro (@conc26) (@undS26)))) (And.intro (And.intro (@elT26) (@azT26)) (And.intro (@zeroT26) (And.intro (@bT26) (@fldT26_0))))) (And.intro (And.intro (And.intro (@fldT26_1) (@fldT26_2)) (And.intro (@fldT26_3) (And.intro (@fldT26_4) (@szT27)))) (And.intro (And.intro (@arT27) (@conc27)) (And.intro (@undS27) (And.intro (@elT27) (@azT27))))))) (And.intro (And.intro (And.intro (And.intro (And.intro (@zeroT27) (@bT27)) (And.intro (@fldT27_0) (And.intro (@fldT27_1) (@fldT27_2)))) (And.intro (And.intro (@fldT27_3) (@fldT27_4)) (And.intro (@szT28) (And.intro (@arT28) (@conc28))))) (And.intro (And.intro (And.intro (@szT29) (@arT29)) (And.intro (@conc29) (And.intro (@szT30) (@arT30)))) (And.intro (And.intro (@conc30) (@undS30)) (And.intro (@intT30) (And.intro (@elT30) (@azT30)))))) (And.intro (And.intro (And.intro (And.intro (@zeroT30) (@szT32)) (And.intro (@arT32) (And.intro (@conc32) (@szT33)))) (And.intro (And.intro (@arT33) (@conc33)) (And.intro (@szT34) (And.intro (@arT34) (@conc34))))) (And.intro (And.intro (And.intro (@szT36) (@arT36)) (And.intro (@conc36) (And.intro (@szT37) (@arT37)))) (And.intro (And.intro (@conc37) (And.intro (@szT38) (@arT38))) (And.intro (@conc38) (And.intro (@undS38) (@elT38))))))))) (And.intro (And.intro (And.intro (And.intro (And.intro (And.intro (And.intro (@elB38) (@bsT38)) (And.intro (@mkT38) (And.intro (@azT38) (@zeroT38)))) (And.intro (And.intro (@szT40) (@arT40)) (And.intro (@conc40) (And.intro (@szT41) (@arT41))))) (And.intro (And.intro (And.intro (@conc41) (@szT42)) (And.intro (@arT42) (And.intro (@conc42) (@undS42)))) (And.intro (And.intro (@elT42) (@azT42)) (And.intro (@zeroT42) (And.intro (@bT42) (@fldT42_0)))))) (And.intro (And.intro (And.intro (And.intro (@fldT42_1) (@fldT42_2)) (And.intro (@szT43) (And.intro (@arT43) (@conc43)))) (And.intro (And.intro (@undS43) (@elT43)) (And.intro (@azT43) (And.intro (@zeroT43) (@bT43))))) (And.intro (And.intro (And.intro (@fldT43_0) (@fldT43_1)) (And.intro (@fldT43_2) (And.intro (@szT44) (@arT44)))) (And.intro (And.intro (@conc44) (@szT46)) (And.intro (@arT46) (And.intro (@conc46) (@szT47))))))) (And.intro (And.intro (And.intro (And.intro (And.intro (@arT47) (@conc47)) (And.intro (@szT48) (And.intro (@arT48) (@conc48)))) (And.intro (And.intro (@szT49) (@arT49)) (And.intro (@conc49) (And.intro (@szT50) (@arT50))))) (And.intro (And.intro (And.intro (@conc50) (@szT51)) (And.intro (@arT51) (And.intro (@conc51) (@undS51)))) (And.intro (And.intro (@elT51) (@elB51)) (And.intro (@bsT51) (And.intro (@mkT51) (@azT51)))))) (And.intro (And.intro (And.intro (And.intro (@zeroT51) (@szT52)) (And.intro (@arT52) (And.intro (@conc52) (@undS52)))) (And.intro (And.intro (@elT52) (@azT52)) (And.intro (@zeroT52) (And.intro (@bT52) (@fldT52_0))))) (And.intro (And.intro (And.intro (@fldT52_1) (@fldT52_2)) (And.intro (@szT53) (And.intro (@arT53) (@conc53)))) (And.intro (And.intro (@undS53) (And.intro (@elT53) (@azT53))) (And.intro (@zeroT53) (And.intro (@bT53) (@fldT53_0)))))))) (And.intro (And.intro (And.intro (And.intro (And.intro (And.intro (@fldT53_1) (@fldT53_2)) (And.intro (@szT54) (And.intro (@arT54) (@conc54)))) (And.intro (And.intro (@szT55) (@arT55)) (And.intro (@conc55) (And.intro (@szT56) (@arT56))))) (And.intro (And.intro (And.intro (@conc56) (@szT57)) (And.intro (@arT57) (And.intro (@conc57) (@szT58)))) (And.intro (And.intro (@zeroT58) (@arT58)) (And.intro (@conc58) (And.intro (@szT59) (@zeroT59)))))) (And.intro (And.intro (And.intro (And.intro (@arT59) (@conc59)) (And.intro (@szT60) (And.intro (@arT60) (@conc60)))) (And.intro (And.intro (@szT61) (@arT61)) (And.intro (@conc61) (And.intro (@szT62) (@arT62))))) (And.intro (And.intro (And.intro (@conc62) (@szT63)) (And.intro (@arT63) (And.intro (@conc63) (@szT64)))) (And.intro (And.intro (@arT64) (@conc64)) (And.intro (@szT65) (And.intro (@arT65) (@conc65))))))) (And.intro (And.intro (And.intro (And.intro (And.intro (@szT66) (@arT66)) (And.intro (@conc66) (And.intro (@szT67) (@arT67)))) (And.intro (And.intro (@conc67) (@szT68)) (And.intro (@arT68) (And.intro (@conc68) (@szT69))))) (And.intro (And.intro (And.intro (@arT69) (@conc69)) (And.intro (@szT70) (And.intro (@arT70) (@conc70)))) (And.intro (And.intro (@undS70) (@intT70)) (And.intro (@elT70) (And.intro (@azT70) (@zeroT70)))))) (And.intro (And.intro (And.intro (And.intro (@szT71) (@arT71)) (And.intro (@conc71) (And.intro (@undS71) (@elT71)))) (And.intro (And.intro (@azT71) (@zeroT71)) (And.intro (@bT71) (And.intro (@fldT71_0) (@fldT71_1))))) (And.intro (And.intro (And.intro (@fldT71_2) (@fldT71_3)) (And.intro (@szT72) (And.intro (@arT72) (@conc72)))) (And.intro (And.intro (@undS72) (And.intro (@elT72) (@azT72))) (And.intro (@zeroT72) (And.intro (@bT72) (@fldT72_0)))))))))) (And.intro (And.intro (And.intro (And.intro (And.intro (And.intro (And.intro (And.intro (@fldT72_1) (@fldT72_2)) (And.intro (@fldT72_3) (And.intro (@szT73) (@arT73)))) (And.intro (And.intro (@szT74) (@arT74)) (And.intro (@szT75) (And.intro (@arT75) (@conc75))))) (And.intro (And.intro (And.intro (@szT76) (@arT76)) (And.intro (@conc76) (And.intro (@szT77) (@arT77)))) (And.intro (And.intro (@conc77) (@undS77)) (And.intro (@elT77) (And.intro (@azT77) (@zeroT77)))))) (And.intro (And.intro (And.intro (And.intro (@bT77) (@fldT77_0)) (And.intro (@fldT77_1) (And.intro (@szT78) (@arT78)))) (And.intro (And.intro (@conc78) (@undS78)) (And.intro (@elT78) (And.intro (@azT78) (@zeroT78))))) (And.intro (And.intro (And.intro (@bT78) (@fldT78_0)) (And.intro (@fldT78_1) (And.intro (@szT80) (@arT80)))) (And.intro (And.intro (@conc80) (@szT81)) (And.intro (@arT81) (And.intro (@conc81) (@szT82))))))) (And.intro (And.intro (And.intro (And.intro (And.intro (@arT82) (@conc82)) (And.intro (@szT84) (And.intro (@arT84) (@conc84)))) (And.intro (And.intro (@szT86) (@arT86)) (And.intro (@conc86) (And.intro (@szT87) (@arT87))))) (And.intro (And.intro (And.intro (@conc87) (@szT88)) (And.intro (@arT88) (And.intro (@conc88) (@szT89)))) (And.intro (And.intro (@arT89) (@conc89)) (And.intro (@szT90) (And.intro (@arT90) (@conc90)))))) (And.intro (And.intro (And.intro (And.intro (@undS90) (@intT90)) (And.intro (@elT90) (And.intro (@azT90) (@zeroT90)))) (And.intro (And.intro (@szT91) (@arT91)) (And.intro (@conc91) (And.intro (@szT92) (@arT92))))) (And.intro (And.intro (And.intro (@conc92) (@undS92)) (And.intro (@intT92) (And.intro (@elT92) (@azT92)))) (And.intro (And.intro (@zeroT92) (And.intro (@szT95) (@arT95))) (And.intro (@conc95) (And.intro (@szT96) (@arT96)))))))) (And.intro (And.intro (And.intro (And.intro (And.intro (And.intro (@conc96) (@szT97)) (And.intro (@arT97) (And.intro (@conc97) (@szT98)))) (And.intro (And.intro (@arT98) (@conc98)) (And.intro (@szT99) (And.intro (@arT99) (@conc99))))) (And.intro (And.intro (And.intro (@undS99) (@elT99)) (And.intro (@azT99) (And.intro (@zeroT99) (@bT99)))) (And.intro (And.intro (@fldT99_0) (@fldT99_1)) (And.intro (@fldT99_2) (And.intro (@szT100) (@arT100)))))) (And.intro (And.intro (And.intro (And.intro (@conc100) (@undS100)) (And.intro (@elT100) (And.intro (@azT100) (@zeroT100)))) (And.intro (And.intro (@bT100) (@fldT100_0)) (And.intro (@fldT100_1) (And.intro (@fldT100_2) (@szT101))))) (And.intro (And.intro (And.intro (@conc101) (@undS101)) (And.intro (@elT101) (And.intro (@arT101) (@azT101)))) (And.intro (And.intro (@zeroT101) (@szT102)) (And.intro (@arT102) (And.intro (@conc102) (@undS102))))))) (And.intro (And.intro (And.intro (And.intro (And.intro (@elT102) (@azT102)) (And.intro (@zeroT102) (And.intro (@bT102) (@fldT102_0)))) (And.intro (And.intro (@fldT102_1) (@szT103)) (And.intro (@arT103) (And.intro (@conc103) (@undS103))))) (And.intro (And.intro (And.intro (@elT103) (@azT103)) (And.intro (@zeroT103) (And.intro (@bT103) (@fldT103_0)))) (And.intro (And.intro (@fldT103_1) (@szT104)) (And.intro (@arT104) (And.intro (@conc104) (@undS104)))))) (And.intro (And.intro (And.intro (And.intro (@elT104) (@azT104)) (And.intro (@zeroT104) (And.intro (@bT104) (@fldT104_0)))) (And.intro (And.intro (@szT105) (@arT105)) (And.intro (@conc105) (And.intro (@undS105) (@elT105))))) (And.intro (And.intro (And.intro (@azT105) (@zeroT105)) (And.intro (@bT105) (And.intro (@fldT105_0) (@szT106)))) (And.intro (And.intro (@arT106) (And.intro (@conc106) (@undS106))) (And.intro (@elT106) (And.intro (@azT106) (@zeroT106))))))))) (And.intro (And.intro (And.intro (And.intro (And.intro (And.intro (And.intro (@bT106) (@fldT106_0)) (And.intro (@szT107) (And.intro (@arT107) (@conc107)))) (And.intro (And.intro (@szT108) (@arT108)) (And.intro (@conc108) (And.intro (@szT109) (@arT109))))) (And.intro (And.intro (And.intro (@conc109) (@szT110)) (And.intro (@arT110) (And.intro (@conc110) (@szT111)))) (And.intro (And.intro (@arT111) (@conc111)) (And.intro (@szT112) (And.intro (@arT112) (@conc112)))))) (And.intro (And.intro (And.intro (And.intro (@szT113) (@arT113)) (And.intro (@conc113) (And.intro (@szT114) (@arT114)))) (And.intro (And.intro (@conc114) (@undS114)) (And.intro (@elT114) (And.intro (@azT114) (@zeroT114))))) (And.intro (And.intro (And.intro (@bT114) (@fldT114_0)) (And.intro (@fldT114_1) (And.intro (@fldT114_2) (@szT115)))) (And.intro (And.intro (@arT115) (@conc115)) (And.intro (@undS115) (And.intro (@elT115) (@azT115))))))) (And.intro (And.intro (And.intro (And.intro (And.intro (@zeroT115) (@bT115)) (And.intro (@fldT115_0) (And.intro (@fldT115_1) (@fldT115_2)))) (And.intro (And.intro (@szT116) (@arT116)) (And.intro (@conc116) (And.intro (@szT117) (@arT117))))) (And.intro (And.intro (And.intro (@conc117) (@szT118)) (And.intro (@arT118) (And.intro (@conc118) (@szT119)))) (And.intro (And.intro (@arT119) (@conc119)) (And.intro (@undS119) (And.intro (@elT119) (@azT119)))))) (And.intro (And.intro (And.intro (And.intro (@zeroT119) (@bT119)) (And.intro (@fldT119_0) (And.intro (@fldT119_1) (@szT120)))) (And.intro (And.intro (@arT120) (@conc120)) (And.intro (@undS120) (And.intro (@elT120) (@azT120))))) (And.intro (And.intro (And.intro (@zeroT120) (@bT120)) (And.intro (@fldT120_0) (And.intro (@fldT120_1) (@szT122)))) (And.intro (And.intro (@arT122) (And.intro (@conc122) (@szT123))) (And.intro (@arT123) (And.intro (@conc123) (@szT124)))))))) (And.intro (And.intro (And.intro (And.intro (And.intro (And.intro (@arT124) (@conc124)) (And.intro (@szT125) (And.intro (@arT125) (@conc125)))) (And.intro (And.intro (@szT126) (@arT126)) (And.intro (@conc126) (And.intro (@undS126) (@elT126))))) (And.intro (And.intro (And.intro (@azT126) (@zeroT126)) (And.intro (@bT126) (And.intro (@fldT126_0) (@fldT126_1)))) (And.intro (And.intro (@szT127) (@arT127)) (And.intro (@conc127) (And.intro (@undS127) (@elT127)))))) (And.intro (And.intro (And.intro (And.intro (@azT127) (@zeroT127)) (And.intro (@bT127) (And.intro (@fldT127_0) (@fldT127_1)))) (And.intro (And.intro (@szT129) (@arT129)) (And.intro (@conc129) (And.intro (@undS129) (@elT129))))) (And.intro (And.intro (And.intro (@elB129) (@bsT129)) (And.intro (@mkT129) (And.intro (@azT129) (@zeroT129)))) (And.intro (And.intro (@szT130) (And.intro (@arT130) (@conc130))) (And.intro (@szT131) (And.intro (@arT131) (@conc131))))))) (And.intro (And.intro (And.intro (And.intro (And.intro (@szT132) (@arT132)) (And.intro (@conc132) (And.intro (@undS132) (@intT132)))) (And.intro (And.intro (@elT132) (@azT132)) (And.intro (@zeroT132) (And.intro (@szT133) (@arT133))))) (And.intro (And.intro (And.intro (@conc133) (@szT134)) (And.intro (@arT134) (And.intro (@conc134) (@undS134)))) (And.intro (And.intro (@intT134) (@elT134)) (And.intro (@azT134) (And.intro (@zeroT134) (@szT135)))))) (And.intro (And.intro (And.intro (And.intro (@arT135) (@conc135)) (And.intro (@szT136) (And.intro (@arT136) (@conc136)))) (And.intro (And.intro (@szT144) (@arT144)) (And.intro (@conc144) (And.intro (@szT145) (@zeroT145))))) (And.intro (And.intro (And.intro (@arT145) (@conc145)) (And.intro (@szT150) (And.intro (@arT150) (@conc150)))) (And.intro (And.intro (@undS150) (And.intro (@elT150) (@azT150))) (And.intro (@zeroT150) (And.intro (@boolT4) (@ifcT20))))))))))
end Go.Proofs.Ytkonoggmdcdeeaa
end
section
set_option linter.unusedVariables false
set_option linter.unusedSimpArgs false
namespace Go.Proofs.Ytkonoggmdcdeeaa
open Go.V
/-- A mark. -/
structure Mk where
  f : Int
  lo : Int
  hi : Int
/-- A claim. -/
structure Cl where
  s : Int
  o : Int
  nt : Bool
/-- Irons. -/
structure Ir where
  F : Int
  ow : List (List Int)
  mo : List Int
  st : List (List Mk)
  cl : List Cl

def mk0 : Mk := ⟨0, 0, 0⟩
def cl0 : Cl := ⟨0, 0, false⟩
abbrev Mk.cs (m : Mk) : List AV := [i64 m.f, i64 m.lo, i64 m.hi]
abbrev Cl.cs (c : Cl) : List AV := [i64 c.s, i64 c.o, boo c.nt]
def mkF (l : List Mk) : Nat → List AV := fun i => (l.getD i mk0).cs
abbrev mksAV (l : List Mk) : AV := .rsl l.length 3 (mkF l)
def stF (l : List (List Mk)) : Nat → List AV := fun i => [mksAV (l.getD i [])]
abbrev stAV (l : List (List Mk)) : AV := .rsl l.length 1 (stF l)
def clF (l : List Cl) : Nat → List AV := fun i => (l.getD i cl0).cs
abbrev clAV (l : List Cl) : AV := .rsl l.length 3 (clF l)
theorem mkF_at (l : List Mk) (i : Nat) : mkF l i = [i64 (l.getD i mk0).f, i64 (l.getD i mk0).lo, i64 (l.getD i mk0).hi] := rfl
theorem stF_at (l : List (List Mk)) (i : Nat) : stF l i = [mksAV (l.getD i [])] := rfl
theorem clF_at (l : List Cl) (i : Nat) : clF l i = [i64 (l.getD i cl0).s, i64 (l.getD i cl0).o, boo (l.getD i cl0).nt] := rfl
abbrev Ir.cs (x : Ir) : List AV := [i64 x.F, llAV x.ow, intsAV x.mo, stAV x.st, clAV x.cl]
abbrev Ir.av (x : Ir) : AV := .agg x.cs

/-- Valid irons. -/
structure Ok (x : Ir) : Prop where
  F : 0 ≤ x.F ∧ x.F ≤ 4
  nO : x.ow.length ≤ 5
  nM : x.mo.length = x.ow.length
  nS : x.st.length ≤ 6
  nC : x.cl.length ≤ 8
  ow : ∀ i, i < x.ow.length → ((x.ow.getD i []).length : Int) = x.F
  mo : ∀ i, i < x.ow.length → 0 ≤ x.mo.getD i 0 ∧ x.mo.getD i 0 ≤ 6
  ov : ∀ i, i < x.ow.length → ∀ k : Nat, (k : Int) < x.F → 0 ≤ (x.ow.getD i []).getD k 0 ∧ (x.ow.getD i []).getD k 0 ≤ 9
  st : ∀ i, i < x.st.length → (x.st.getD i []).length ≤ 6
  sf : ∀ i, i < x.st.length → ∀ k, k < (x.st.getD i []).length → 0 ≤ ((x.st.getD i []).getD k mk0).f ∧ ((x.st.getD i []).getD k mk0).f < x.F
  sl : ∀ i, i < x.st.length → ∀ k, k < (x.st.getD i []).length → 0 ≤ ((x.st.getD i []).getD k mk0).lo ∧ ((x.st.getD i []).getD k mk0).lo ≤ ((x.st.getD i []).getD k mk0).hi ∧ ((x.st.getD i []).getD k mk0).hi ≤ 9
  cs : ∀ i, i < x.cl.length → 0 ≤ (x.cl.getD i cl0).s ∧ (x.cl.getD i cl0).s < x.st.length
  co : ∀ i, i < x.cl.length → 0 ≤ (x.cl.getD i cl0).o ∧ (x.cl.getD i cl0).o < x.ow.length

/-- Irons that may have one feature, and one mark, more than valid ones. -/
structure Gd (x : Ir) : Prop where
  F : 0 ≤ x.F ∧ x.F ≤ 5
  nO : x.ow.length ≤ 5
  nM : x.mo.length = x.ow.length
  nS : x.st.length ≤ 6
  nC : x.cl.length ≤ 8
  ow : ∀ i, i < x.ow.length → ((x.ow.getD i []).length : Int) = x.F
  mo : ∀ i, i < x.ow.length → 0 ≤ x.mo.getD i 0 ∧ x.mo.getD i 0 ≤ 6
  ov : ∀ i, i < x.ow.length → ∀ k : Nat, (k : Int) < x.F → 0 ≤ (x.ow.getD i []).getD k 0 ∧ (x.ow.getD i []).getD k 0 ≤ 9
  st : ∀ i, i < x.st.length → (x.st.getD i []).length ≤ 7
  sf : ∀ i, i < x.st.length → ∀ k, k < (x.st.getD i []).length → 0 ≤ ((x.st.getD i []).getD k mk0).f ∧ ((x.st.getD i []).getD k mk0).f < x.F
  sl : ∀ i, i < x.st.length → ∀ k, k < (x.st.getD i []).length → 0 ≤ ((x.st.getD i []).getD k mk0).lo ∧ ((x.st.getD i []).getD k mk0).lo ≤ ((x.st.getD i []).getD k mk0).hi ∧ ((x.st.getD i []).getD k mk0).hi ≤ 9
  cs : ∀ i, i < x.cl.length → 0 ≤ (x.cl.getD i cl0).s ∧ (x.cl.getD i cl0).s < x.st.length
  co : ∀ i, i < x.cl.length → 0 ≤ (x.cl.getD i cl0).o ∧ (x.cl.getD i cl0).o < x.ow.length

theorem Ok.gd {x : Ir} (k : Ok x) : Gd x := ⟨by have := k.F; omega, k.nO, k.nM, k.nS, k.nC, k.ow, k.mo, k.ov, fun i hi => by have := k.st i hi; omega, k.sf, k.sl, k.cs, k.co⟩

/-- No far too much of anything. -/
structure Near (x : Ir) : Prop where
  nO : x.ow.length ≤ 40
  nM : x.mo.length ≤ 40
  nS : x.st.length ≤ 40
  nC : x.cl.length ≤ 40
  ow : ∀ i, i < x.ow.length → (x.ow.getD i []).length ≤ 40
  st : ∀ i, i < x.st.length → (x.st.getD i []).length ≤ 40

theorem Ok.near {x : Ir} (k : Ok x) : Near x := ⟨by have := k.nO; omega, by have := k.nO; have := k.nM; omega, by have := k.nS; omega, by have := k.nC; omega, fun i hi => by have := k.ow i hi; have := k.F; omega, fun i hi => by have := k.st i hi; omega⟩

/-- Does a mark fit an iron? -/
def fitM (l : List Int) (m : Mk) : Bool := decide (m.lo ≤ l.getD m.f.toNat 0) && decide (l.getD m.f.toNat 0 ≤ m.hi)
/-- Does an owner's iron fit a strake? -/
def fitB (x : Ir) (o s : Nat) : Bool := (x.st.getD s []).all (fitM (x.ow.getD o []))
/-- Is a claim right, if an owner has its strake? -/
def rightO (c : Cl) (o : Int) : Bool := !(decide (o = c.o) == c.nt)
/-- Is it, in a truth? -/
def rightT (x : Ir) (t : List Int) (n : Nat) : Bool := rightO (x.cl.getD n cl0) (t.getD (x.cl.getD n cl0).s.toNat 0)
/-- The claims that are false in a truth. -/
def wrongN (x : Ir) (t : List Int) : Nat → Nat
  | 0 => 0
  | k + 1 => wrongN x t k + (if rightT x t k then 0 else 2 ^ k)
def wrongT (x : Ir) (t : List Int) : Nat := wrongN x t x.cl.length
theorem wrongN_lt (x : Ir) (t : List Int) (k : Nat) : wrongN x t k < 2 ^ k := by
  induction k with
  | zero => simp [wrongN]
  | succ k ih => simp only [wrongN, Nat.pow_succ]; split <;> omega

end Go.Proofs.Ytkonoggmdcdeeaa
end
section
set_option linter.unusedVariables false
set_option linter.unusedSimpArgs false
set_option maxHeartbeats 4000000
namespace Go.Proofs.Ytkonoggmdcdeeaa
open Go.V
abbrev fnA (f : FuncId) : AV := .func (.func f) [] []

theorem in_tri (n lo hi : Int) (H : Hp) : PTri Try.prog (fnA 75) [i64 n, i64 lo, i64 hi] H (boo (decide (lo ≤ n) && decide (n ≤ hi))) := by
  refine tri_v0 (fun _ => false) Try.func75 (by kernel_rfl) rfl (by simp only [List.length_append, List.length_cons, List.length_nil, Try.ntmps75]; decide) ?_
  simp only [vsAll, binA, binLitA, intA, pickA, opA, guardV, dstOk, nilSliceOp, resA, argFr, retA.eq_1, Nat.reduceLT, Nat.reduceEqDiff, ↓reduceIte, reduceCtorEq, implies_true, eq_self, Try.ntmps75, Try.results75]
theorem size_tri (s : Nat) (H : Hp) (hs : s < 2 ^ 60) : PTri Try.prog (fnA 32) [i64 s] H (i64 (pop s)) := by
  refine tri_v0 (fun _ => false) Try.func32 (by kernel_rfl) rfl (by simp only [List.length_append, List.length_cons, List.length_nil, Try.ntmps32]; decide) ?_
  simp only [vsAll, opA, dstOk, nilSliceOp, Nat.reduceLT, eq_self, Try.ntmps32]
  refine vs_loop (σ := Nat × Nat) (fun x => x.1 < 2 ^ 60 ∧ x.2 + pop x.1 = pop s) (fun x => [(0, i64 x.1), (3, i64 x.2)]) (fun _ => H) (fun x => x.1) (s, 0) ⟨hs, by simp⟩ ?_ ?_ fun x hx => ?_
  · simp only [vsAll, argFr, ↓reduceIte, reduceCtorEq, eq_self, Int.natCast_zero]
  · (repeat (first | exact HSub_rfl | refine HSub_put_eq (by simp only [vsAll, binA, binLitA, intA, aggA, boolA, nilA2, isConst, unA, loadA, loadRow, partA, partOk, fieldAddrA, indexAddrA, indexA, fieldA, extractA, lenA, nilCheckA, boxA, cellA, cellsA, fillA, okParts, buildSliceA, buildMutA, makeSliceA, partIdx, elemsA, lensA, ifaceA, convA, mmA, pickA, okAll, stAll, opsA, partsA, partsOk, opA, allocA, boxMutA, newCells, okCells, storeObj, appendA, guardV, taA, nM, mapUpA, lookA, sliceA, boundsA, opO, okO, copyA, dstOk, nilA, quietOk, nilSliceOp, panA, resA, argFr, retA.eq_1, retA.eq_2, Nat.reduceAdd, Nat.reduceSub, Nat.reduceMul, Nat.reduceLT, Nat.reduceLeDiff, Nat.reduceEqDiff, Nat.reduceBEq, Int.reduceAdd, Int.reduceSub, Int.reduceMul, Int.reduceNeg, Int.reduceLE, Int.reduceLT, Int.reduceEq, Int.reduceNe, Int.reduceToNat, ↓reduceIte, reduceCtorEq, implies_true, forall_const, eq_self, ne_eq, wtAll, Try.ntmps32, Try.results32]) ?_ | refine HSub_drop2 (by simp only [vsAll, binA, binLitA, intA, aggA, boolA, nilA2, isConst, unA, loadA, loadRow, partA, partOk, fieldAddrA, indexAddrA, indexA, fieldA, extractA, lenA, nilCheckA, boxA, cellA, cellsA, fillA, okParts, buildSliceA, buildMutA, makeSliceA, partIdx, elemsA, lensA, ifaceA, convA, mmA, pickA, okAll, stAll, opsA, partsA, partsOk, opA, allocA, boxMutA, newCells, okCells, storeObj, appendA, guardV, taA, nM, mapUpA, lookA, sliceA, boundsA, opO, okO, copyA, dstOk, nilA, quietOk, nilSliceOp, panA, resA, argFr, retA.eq_1, retA.eq_2, Nat.reduceAdd, Nat.reduceSub, Nat.reduceMul, Nat.reduceLT, Nat.reduceLeDiff, Nat.reduceEqDiff, Nat.reduceBEq, Int.reduceAdd, Int.reduceSub, Int.reduceMul, Int.reduceNeg, Int.reduceLE, Int.reduceLT, Int.reduceEq, Int.reduceNe, Int.reduceToNat, ↓reduceIte, reduceCtorEq, implies_true, forall_const, eq_self, ne_eq, wtAll, Try.ntmps32, Try.results32]) ?_ | refine HSub_keep_eq (by simp only [vsAll, binA, binLitA, intA, aggA, boolA, nilA2, isConst, unA, loadA, loadRow, partA, partOk, fieldAddrA, indexAddrA, indexA, fieldA, extractA, lenA, nilCheckA, boxA, cellA, cellsA, fillA, okParts, buildSliceA, buildMutA, makeSliceA, partIdx, elemsA, lensA, ifaceA, convA, mmA, pickA, okAll, stAll, opsA, partsA, partsOk, opA, allocA, boxMutA, newCells, okCells, storeObj, appendA, guardV, taA, nM, mapUpA, lookA, sliceA, boundsA, opO, okO, copyA, dstOk, nilA, quietOk, nilSliceOp, panA, resA, argFr, retA.eq_1, retA.eq_2, Nat.reduceAdd, Nat.reduceSub, Nat.reduceMul, Nat.reduceLT, Nat.reduceLeDiff, Nat.reduceEqDiff, Nat.reduceBEq, Int.reduceAdd, Int.reduceSub, Int.reduceMul, Int.reduceNeg, Int.reduceLE, Int.reduceLT, Int.reduceEq, Int.reduceNe, Int.reduceToNat, ↓reduceIte, reduceCtorEq, implies_true, forall_const, eq_self, ne_eq, wtAll, Try.ntmps32, Try.results32]) ?_))
  · obtain ⟨y, n⟩ := x
    obtain ⟨hy, hn⟩ := hx
    simp only at hy hn
    simp only [vsAll, binA, binLitA, intA, opA, dstOk, Nat.reduceLT, ↓reduceIte, eq_self]
    refine condD (fun hd => ?_) (fun hd => ?_)
    · have e1 : (y : Int).tmod 2 = ((y % 2 : Nat) : Int) := by rw [Int.tmod_eq_emod_of_nonneg (by omega)]; rfl
      have e2 : (y : Int).tdiv 2 = ((y / 2 : Nat) : Int) := by rw [Int.tdiv_eq_ediv_of_nonneg (by omega)]; rfl
      have hp := pop_le s
      have h3 := pop_step y hy
      simp only [vsAll, binA, binLitA, intA, opA, dstOk, nilSliceOp, Nat.reduceLT, Nat.reduceEqDiff, Int.reduceEq, ↓reduceIte, reduceCtorEq, eq_self, ne_eq]
      rw [e1, e2]
      simp only [InR_i64]
      refine ⟨by omega, by omega, loop_next (y / 2, n + y % 2) ⟨by show y / 2 < 2 ^ 60; omega, by show (n + y % 2) + pop (y / 2) = pop s; omega⟩ (by show y / 2 < y; omega) ?_ ?_⟩
      · simp only [vsAll, ↓reduceIte, reduceCtorEq, eq_self, Int.natCast_add]
      · (repeat (first | exact HSub_rfl | refine HSub_put_eq (by simp only [vsAll, binA, binLitA, intA, aggA, boolA, nilA2, isConst, unA, loadA, loadRow, partA, partOk, fieldAddrA, indexAddrA, indexA, fieldA, extractA, lenA, nilCheckA, boxA, cellA, cellsA, fillA, okParts, buildSliceA, buildMutA, makeSliceA, partIdx, elemsA, lensA, ifaceA, convA, mmA, pickA, okAll, stAll, opsA, partsA, partsOk, opA, allocA, boxMutA, newCells, okCells, storeObj, appendA, guardV, taA, nM, mapUpA, lookA, sliceA, boundsA, opO, okO, copyA, dstOk, nilA, quietOk, nilSliceOp, panA, resA, argFr, retA.eq_1, retA.eq_2, Nat.reduceAdd, Nat.reduceSub, Nat.reduceMul, Nat.reduceLT, Nat.reduceLeDiff, Nat.reduceEqDiff, Nat.reduceBEq, Int.reduceAdd, Int.reduceSub, Int.reduceMul, Int.reduceNeg, Int.reduceLE, Int.reduceLT, Int.reduceEq, Int.reduceNe, Int.reduceToNat, ↓reduceIte, reduceCtorEq, implies_true, forall_const, eq_self, ne_eq, wtAll, Try.ntmps32, Try.results32]) ?_ | refine HSub_drop2 (by simp only [vsAll, binA, binLitA, intA, aggA, boolA, nilA2, isConst, unA, loadA, loadRow, partA, partOk, fieldAddrA, indexAddrA, indexA, fieldA, extractA, lenA, nilCheckA, boxA, cellA, cellsA, fillA, okParts, buildSliceA, buildMutA, makeSliceA, partIdx, elemsA, lensA, ifaceA, convA, mmA, pickA, okAll, stAll, opsA, partsA, partsOk, opA, allocA, boxMutA, newCells, okCells, storeObj, appendA, guardV, taA, nM, mapUpA, lookA, sliceA, boundsA, opO, okO, copyA, dstOk, nilA, quietOk, nilSliceOp, panA, resA, argFr, retA.eq_1, retA.eq_2, Nat.reduceAdd, Nat.reduceSub, Nat.reduceMul, Nat.reduceLT, Nat.reduceLeDiff, Nat.reduceEqDiff, Nat.reduceBEq, Int.reduceAdd, Int.reduceSub, Int.reduceMul, Int.reduceNeg, Int.reduceLE, Int.reduceLT, Int.reduceEq, Int.reduceNe, Int.reduceToNat, ↓reduceIte, reduceCtorEq, implies_true, forall_const, eq_self, ne_eq, wtAll, Try.ntmps32, Try.results32]) ?_ | refine HSub_keep_eq (by simp only [vsAll, binA, binLitA, intA, aggA, boolA, nilA2, isConst, unA, loadA, loadRow, partA, partOk, fieldAddrA, indexAddrA, indexA, fieldA, extractA, lenA, nilCheckA, boxA, cellA, cellsA, fillA, okParts, buildSliceA, buildMutA, makeSliceA, partIdx, elemsA, lensA, ifaceA, convA, mmA, pickA, okAll, stAll, opsA, partsA, partsOk, opA, allocA, boxMutA, newCells, okCells, storeObj, appendA, guardV, taA, nM, mapUpA, lookA, sliceA, boundsA, opO, okO, copyA, dstOk, nilA, quietOk, nilSliceOp, panA, resA, argFr, retA.eq_1, retA.eq_2, Nat.reduceAdd, Nat.reduceSub, Nat.reduceMul, Nat.reduceLT, Nat.reduceLeDiff, Nat.reduceEqDiff, Nat.reduceBEq, Int.reduceAdd, Int.reduceSub, Int.reduceMul, Int.reduceNeg, Int.reduceLE, Int.reduceLT, Int.reduceEq, Int.reduceNe, Int.reduceToNat, ↓reduceIte, reduceCtorEq, implies_true, forall_const, eq_self, ne_eq, wtAll, Try.ntmps32, Try.results32]) ?_))
    · have : y = 0 := by omega
      subst this
      have e : n = pop s := by rw [← hn]; rfl
      simp only [vsAll, opA, dstOk, nilSliceOp, resA, retA.eq_1, Nat.reduceLT, Nat.reduceEqDiff, ↓reduceIte, reduceCtorEq, eq_self, Try.results32, e]
theorem strake_tri (x : Ir) (n : Int) (H : Hp) (k : Near x) : PTri Try.prog (fnA 48) [x.av, i64 n] H (boo (decide (0 ≤ n) && decide (n ≤ (x.st.length : Int) - 1))) := by
  have := k.nS
  refine tri_v0 (fun _ => false) Try.func48 (by kernel_rfl) rfl (by simp only [List.length_append, List.length_cons, List.length_nil, Try.ntmps48]; decide) ?_
  simp only [vsAll, binA, binLitA, intA, loadA, loadRow, partA, partOk, fieldAddrA, lenA, boxA, okAll, stAll, opsA, opA, dstOk, nilSliceOp, argFr, Nat.reduceAdd, Nat.reduceLT, Nat.reduceEqDiff, ↓reduceIte, eq_self, wtAll, Try.ntmps48]
  refine ⟨by simp only [InR_i64]; omega, callK_pure (in_tri _ _ _ _) ?_⟩
  simp only [vsAll, opA, dstOk, nilSliceOp, resA, retA.eq_1, Nat.reduceLT, ↓reduceIte, eq_self, Try.results48]
theorem owner_tri (x : Ir) (n : Int) (H : Hp) (k : Near x) : PTri Try.prog (fnA 76) [x.av, i64 n] H (boo (decide (0 ≤ n) && decide (n ≤ (x.ow.length : Int) - 1))) := by
  have := k.nO
  refine tri_v0 (fun _ => false) Try.func76 (by kernel_rfl) rfl (by simp only [List.length_append, List.length_cons, List.length_nil, Try.ntmps76]; decide) ?_
  simp only [vsAll, binA, binLitA, intA, loadA, loadRow, partA, partOk, fieldAddrA, lenA, boxA, okAll, stAll, opsA, opA, dstOk, nilSliceOp, argFr, Nat.reduceAdd, Nat.reduceLT, Nat.reduceEqDiff, ↓reduceIte, eq_self, wtAll, Try.ntmps76]
  refine ⟨by simp only [InR_i64]; omega, callK_pure (in_tri _ _ _ _) ?_⟩
  simp only [vsAll, opA, dstOk, nilSliceOp, resA, retA.eq_1, Nat.reduceLT, ↓reduceIte, eq_self, Try.results76]
end Go.Proofs.Ytkonoggmdcdeeaa
end
section
set_option linter.unusedVariables false
set_option linter.unusedSimpArgs false
set_option maxHeartbeats 4000000
set_option maxRecDepth 100000
namespace Go.Proofs.Ytkonoggmdcdeeaa
open Go.V
theorem all_take {α : Type} (l : List α) (p : α → Bool) (d : α) (i : Nat) (hi : i < l.length) : (l.take (i + 1)).all p = ((l.take i).all p && p (l.getD i d)) := by
  rw [take_snoc l i d hi]; simp
theorem all_no {α : Type} {l : List α} {p : α → Bool} (d : α) {i : Nat} (hi : i < l.length) (h : p (l.getD i d) = false) : l.all p = false := by
  rw [Bool.eq_false_iff]
  intro g
  rw [List.all_eq_true] at g
  have := g _ (mem_getD l i d hi)
  rw [h] at this; cases this

end Go.Proofs.Ytkonoggmdcdeeaa
end
section
set_option linter.unusedVariables false
set_option linter.unusedSimpArgs false
set_option maxHeartbeats 4000000
set_option maxRecDepth 100000
namespace Go.Proofs.Ytkonoggmdcdeeaa
open Go.V
def okO (x : Ir) (i : Nat) : Prop := (((x.ow.getD i []).length : Int) = x.F ∧ 0 ≤ x.mo.getD i 0 ∧ x.mo.getD i 0 ≤ 6) ∧ ∀ k : Nat, k < x.F.toNat → 0 ≤ (x.ow.getD i []).getD k 0 ∧ (x.ow.getD i []).getD k 0 ≤ 9
def okM (x : Ir) (m : Mk) : Prop := (0 ≤ m.f ∧ m.f < x.F) ∧ 0 ≤ m.lo ∧ m.lo ≤ m.hi ∧ m.hi ≤ 9
def okS (x : Ir) (i : Nat) : Prop := (x.st.getD i []).length ≤ 6 ∧ ∀ k : Nat, k < (x.st.getD i []).length → okM x ((x.st.getD i []).getD k mk0)
def okC (x : Ir) (i : Nat) : Prop := (0 ≤ (x.cl.getD i cl0).s ∧ (x.cl.getD i cl0).s < x.st.length) ∧ 0 ≤ (x.cl.getD i cl0).o ∧ (x.cl.getD i cl0).o < x.ow.length
def okN (x : Ir) : Prop := (0 ≤ x.F ∧ x.F ≤ 4) ∧ x.ow.length ≤ 5 ∧ x.mo.length = x.ow.length ∧ x.st.length ≤ 6 ∧ x.cl.length ≤ 8
instance (x : Ir) (i : Nat) : Decidable (okO x i) := by unfold okO; infer_instance
instance (x : Ir) (m : Mk) : Decidable (okM x m) := by unfold okM; infer_instance
instance (x : Ir) (i : Nat) : Decidable (okS x i) := by unfold okS; infer_instance
instance (x : Ir) (i : Nat) : Decidable (okC x i) := by unfold okC; infer_instance
instance (x : Ir) : Decidable (okN x) := by unfold okN; infer_instance
theorem ok_iff (x : Ir) : Ok x ↔ okN x ∧ (∀ i, i < x.ow.length → okO x i) ∧ (∀ i, i < x.st.length → okS x i) ∧ ∀ i, i < x.cl.length → okC x i := by
  constructor
  · intro k
    refine ⟨⟨k.F, k.nO, k.nM, k.nS, k.nC⟩, fun i hi => ⟨⟨k.ow i hi, k.mo i hi⟩, fun j hj => k.ov i hi j (by have := k.F; omega)⟩, fun i hi => ⟨k.st i hi, fun j hj => ⟨k.sf i hi j hj, k.sl i hi j hj⟩⟩, fun i hi => ⟨k.cs i hi, k.co i hi⟩⟩
  · rintro ⟨⟨a1, a2, a3, a4, a5⟩, b, c, d⟩
    exact ⟨a1, a2, a3, a4, a5, fun i hi => (b i hi).1.1, fun i hi => (b i hi).1.2, fun i hi j hj => (b i hi).2 j (by omega), fun i hi => (c i hi).1, fun i hi j hj => ((c i hi).2 j hj).1, fun i hi j hj => ((c i hi).2 j hj).2, fun i hi => (d i hi).1, fun i hi => (d i hi).2⟩
instance (x : Ir) : Decidable (Ok x) := decidable_of_iff _ (ok_iff x).symm

theorem rirons_tri (x : Ir) (H : Hp) (kn : Near x) : PTri Try.prog (fnA 41) [x.av] H (boo (decide (Ok x))) := by
  have nO := kn.nO
  have nM := kn.nM
  have nS := kn.nS
  have nC := kn.nC
  refine tri_vs (m := fun _ => false) Try.func41 (by kernel_rfl) rfl (by simp only [List.length_append, List.length_cons, List.length_nil, Try.ntmps41]; decide) ?_
  have fail : ¬ Ok x → decide (Ok x) = false := fun h => decide_eq_false h
  simp only [vsAll, loadA, loadRow, partA, partOk, fieldAddrA, boxA, okAll, stAll, opsA, opA, dstOk, nilSliceOp, argFr, Nat.reduceAdd, Nat.reduceLT, Nat.reduceEqDiff, ↓reduceIte, eq_self, wtAll, Try.ntmps41]
  refine callK_pure (in_tri _ _ _ _) ?_
  simp only [vsAll, binA, binLitA, intA, unA, loadA, loadRow, partA, partOk, fieldAddrA, lenA, pickA, opA, guardV, dstOk, Nat.reduceLT, Nat.reduceEqDiff, ↓reduceIte, implies_true, eq_self, wtAll]
  refine condV (fun hc => ?_) (fun hc => ?_)
  · have hno : ¬ Ok x := fun k => by
      have := k.F; have := k.nO; have := k.nM; have := k.nS; have := k.nC
      simp only [Bool.or_eq_true, Bool.and_eq_false_iff, Bool.not_eq_true', decide_eq_true_eq, decide_eq_false_iff_not] at hc
      omega
    simp only [vsAll, opA, dstOk, nilSliceOp, Nat.reduceLT, eq_self]
    refine ret0 ?_
    simp only [vsAll, resA, retA.eq_1, ↓reduceIte, eq_self, Try.results41, fail hno]
    exact dropR_pure rfl (by (repeat (first | exact HSub_rfl | refine HSub_put_eq (by simp only [vsAll, binA, binLitA, intA, aggA, boolA, nilA2, isConst, unA, loadA, loadRow, partA, partOk, fieldAddrA, indexAddrA, indexA, fieldA, extractA, lenA, nilCheckA, boxA, cellA, cellsA, fillA, okParts, buildSliceA, buildMutA, makeSliceA, partIdx, elemsA, lensA, ifaceA, convA, mmA, pickA, okAll, stAll, opsA, partsA, partsOk, opA, allocA, boxMutA, newCells, okCells, storeObj, appendA, guardV, taA, nM, mapUpA, lookA, sliceA, boundsA, opO, okO, copyA, dstOk, nilA, quietOk, nilSliceOp, panA, resA, argFr, retA.eq_1, retA.eq_2, Nat.reduceAdd, Nat.reduceSub, Nat.reduceMul, Nat.reduceLT, Nat.reduceLeDiff, Nat.reduceEqDiff, Nat.reduceBEq, Int.reduceAdd, Int.reduceSub, Int.reduceMul, Int.reduceNeg, Int.reduceLE, Int.reduceLT, Int.reduceEq, Int.reduceNe, Int.reduceToNat, ↓reduceIte, reduceCtorEq, implies_true, forall_const, eq_self, ne_eq, wtAll, Try.ntmps41, Try.results41]) ?_ | refine HSub_drop2 (by simp only [vsAll, binA, binLitA, intA, aggA, boolA, nilA2, isConst, unA, loadA, loadRow, partA, partOk, fieldAddrA, indexAddrA, indexA, fieldA, extractA, lenA, nilCheckA, boxA, cellA, cellsA, fillA, okParts, buildSliceA, buildMutA, makeSliceA, partIdx, elemsA, lensA, ifaceA, convA, mmA, pickA, okAll, stAll, opsA, partsA, partsOk, opA, allocA, boxMutA, newCells, okCells, storeObj, appendA, guardV, taA, nM, mapUpA, lookA, sliceA, boundsA, opO, okO, copyA, dstOk, nilA, quietOk, nilSliceOp, panA, resA, argFr, retA.eq_1, retA.eq_2, Nat.reduceAdd, Nat.reduceSub, Nat.reduceMul, Nat.reduceLT, Nat.reduceLeDiff, Nat.reduceEqDiff, Nat.reduceBEq, Int.reduceAdd, Int.reduceSub, Int.reduceMul, Int.reduceNeg, Int.reduceLE, Int.reduceLT, Int.reduceEq, Int.reduceNe, Int.reduceToNat, ↓reduceIte, reduceCtorEq, implies_true, forall_const, eq_self, ne_eq, wtAll, Try.ntmps41, Try.results41]) ?_ | refine HSub_keep_eq (by simp only [vsAll, binA, binLitA, intA, aggA, boolA, nilA2, isConst, unA, loadA, loadRow, partA, partOk, fieldAddrA, indexAddrA, indexA, fieldA, extractA, lenA, nilCheckA, boxA, cellA, cellsA, fillA, okParts, buildSliceA, buildMutA, makeSliceA, partIdx, elemsA, lensA, ifaceA, convA, mmA, pickA, okAll, stAll, opsA, partsA, partsOk, opA, allocA, boxMutA, newCells, okCells, storeObj, appendA, guardV, taA, nM, mapUpA, lookA, sliceA, boundsA, opO, okO, copyA, dstOk, nilA, quietOk, nilSliceOp, panA, resA, argFr, retA.eq_1, retA.eq_2, Nat.reduceAdd, Nat.reduceSub, Nat.reduceMul, Nat.reduceLT, Nat.reduceLeDiff, Nat.reduceEqDiff, Nat.reduceBEq, Int.reduceAdd, Int.reduceSub, Int.reduceMul, Int.reduceNeg, Int.reduceLE, Int.reduceLT, Int.reduceEq, Int.reduceNe, Int.reduceToNat, ↓reduceIte, reduceCtorEq, implies_true, forall_const, eq_self, ne_eq, wtAll, Try.ntmps41, Try.results41]) ?_)))
  have hN : okN x := by
    simp only [Bool.or_eq_false_iff, Bool.and_eq_true, Bool.not_eq_false', decide_eq_true_eq, decide_eq_false_iff_not] at hc
    unfold okN
    omega
  obtain ⟨hF, hO, hM, hS, hC⟩ := hN
  simp only [vsAll, opA, dstOk, nilSliceOp, Nat.reduceLT, eq_self]
  refine vs_loop (σ := Nat) (fun i => i ≤ x.ow.length ∧ ∀ j, j < i → okO x j) (fun i => [(1, .rptr 1 5 (fun _ => x.cs) 0 0), (3, i64 i)]) (fun _ => H) (fun i => x.ow.length - i) 0 ⟨Nat.zero_le _, fun j hj => absurd hj (by omega)⟩ ?_ ?_ fun i hi => ?_
  · simp only [vsAll, Nat.reduceEqDiff, ↓reduceIte, eq_self, Int.natCast_zero]
  · (repeat (first | exact HSub_rfl | refine HSub_put_eq (by simp only [vsAll, binA, binLitA, intA, aggA, boolA, nilA2, isConst, unA, loadA, loadRow, partA, partOk, fieldAddrA, indexAddrA, indexA, fieldA, extractA, lenA, nilCheckA, boxA, cellA, cellsA, fillA, okParts, buildSliceA, buildMutA, makeSliceA, partIdx, elemsA, lensA, ifaceA, convA, mmA, pickA, okAll, stAll, opsA, partsA, partsOk, opA, allocA, boxMutA, newCells, okCells, storeObj, appendA, guardV, taA, nM, mapUpA, lookA, sliceA, boundsA, opO, okO, copyA, dstOk, nilA, quietOk, nilSliceOp, panA, resA, argFr, retA.eq_1, retA.eq_2, Nat.reduceAdd, Nat.reduceSub, Nat.reduceMul, Nat.reduceLT, Nat.reduceLeDiff, Nat.reduceEqDiff, Nat.reduceBEq, Int.reduceAdd, Int.reduceSub, Int.reduceMul, Int.reduceNeg, Int.reduceLE, Int.reduceLT, Int.reduceEq, Int.reduceNe, Int.reduceToNat, ↓reduceIte, reduceCtorEq, implies_true, forall_const, eq_self, ne_eq, wtAll, Try.ntmps41, Try.results41]) ?_ | refine HSub_drop2 (by simp only [vsAll, binA, binLitA, intA, aggA, boolA, nilA2, isConst, unA, loadA, loadRow, partA, partOk, fieldAddrA, indexAddrA, indexA, fieldA, extractA, lenA, nilCheckA, boxA, cellA, cellsA, fillA, okParts, buildSliceA, buildMutA, makeSliceA, partIdx, elemsA, lensA, ifaceA, convA, mmA, pickA, okAll, stAll, opsA, partsA, partsOk, opA, allocA, boxMutA, newCells, okCells, storeObj, appendA, guardV, taA, nM, mapUpA, lookA, sliceA, boundsA, opO, okO, copyA, dstOk, nilA, quietOk, nilSliceOp, panA, resA, argFr, retA.eq_1, retA.eq_2, Nat.reduceAdd, Nat.reduceSub, Nat.reduceMul, Nat.reduceLT, Nat.reduceLeDiff, Nat.reduceEqDiff, Nat.reduceBEq, Int.reduceAdd, Int.reduceSub, Int.reduceMul, Int.reduceNeg, Int.reduceLE, Int.reduceLT, Int.reduceEq, Int.reduceNe, Int.reduceToNat, ↓reduceIte, reduceCtorEq, implies_true, forall_const, eq_self, ne_eq, wtAll, Try.ntmps41, Try.results41]) ?_ | refine HSub_keep_eq (by simp only [vsAll, binA, binLitA, intA, aggA, boolA, nilA2, isConst, unA, loadA, loadRow, partA, partOk, fieldAddrA, indexAddrA, indexA, fieldA, extractA, lenA, nilCheckA, boxA, cellA, cellsA, fillA, okParts, buildSliceA, buildMutA, makeSliceA, partIdx, elemsA, lensA, ifaceA, convA, mmA, pickA, okAll, stAll, opsA, partsA, partsOk, opA, allocA, boxMutA, newCells, okCells, storeObj, appendA, guardV, taA, nM, mapUpA, lookA, sliceA, boundsA, opO, okO, copyA, dstOk, nilA, quietOk, nilSliceOp, panA, resA, argFr, retA.eq_1, retA.eq_2, Nat.reduceAdd, Nat.reduceSub, Nat.reduceMul, Nat.reduceLT, Nat.reduceLeDiff, Nat.reduceEqDiff, Nat.reduceBEq, Int.reduceAdd, Int.reduceSub, Int.reduceMul, Int.reduceNeg, Int.reduceLE, Int.reduceLT, Int.reduceEq, Int.reduceNe, Int.reduceToNat, ↓reduceIte, reduceCtorEq, implies_true, forall_const, eq_self, ne_eq, wtAll, Try.ntmps41, Try.results41]) ?_))
  · obtain ⟨hi, hall⟩ := hi
    simp only [vsAll, binA, binLitA, intA, loadA, loadRow, partA, partOk, fieldAddrA, lenA, opA, okO, dstOk, Nat.reduceLT, Nat.reduceEqDiff, ↓reduceIte, eq_self, wtAll]
    refine condD (fun hd => ?_) (fun hd => ?_)
    · have hio : i < x.ow.length := by omega
      have hol := kn.ow i hio
      simp only [vsAll]
      refine vs_draw 16 (by decide +kernel) ?_
      simp only [vsAll, binA, binLitA, intA, loadA, loadRow, partA, partOk, fieldAddrA, indexAddrA, lenA, opA, guardV, dstOk, Nat.reduceLT, Nat.reduceEqDiff, ↓reduceIte, implies_true, eq_self, wtAll, llF_at, intF_at]
      refine ⟨⟨by omega, by omega⟩, hio, fun g => ⟨g, g, by omega, by omega⟩, fun g => ⟨g, by omega⟩, ?_⟩
      refine qgcall _ (fun g => ⟨by simp only [vsAll, opA], by simp only [vsAll, okAll, opsA, opA, ↓reduceIte, eq_self, g], in_tri _ _ _ _⟩) ?_
      simp only [vsAll, unA, pickA, opA, guardV, dstOk, Nat.reduceLT, Nat.reduceEqDiff, ↓reduceIte, implies_true, eq_self]
      refine condV (fun hc => ?_) (fun hc => ?_)
      · have hno : ¬ Ok x := fun k => by
          have := k.ow i hio
          have := k.mo i hio
          simp only [Bool.or_eq_true, Bool.and_eq_false_iff, Bool.not_eq_true', decide_eq_false_iff_not] at hc
          omega
        simp only [vsAll, opA, dstOk, nilSliceOp, Nat.reduceLT, eq_self]
        refine ret0 ?_
        simp only [vsAll, resA, retA.eq_1, ↓reduceIte, eq_self, Try.results41, fail hno]
        exact dropR_pure rfl (by (repeat (first | exact HSub_rfl | refine HSub_put_eq (by simp only [vsAll, binA, binLitA, intA, aggA, boolA, nilA2, isConst, unA, loadA, loadRow, partA, partOk, fieldAddrA, indexAddrA, indexA, fieldA, extractA, lenA, nilCheckA, boxA, cellA, cellsA, fillA, okParts, buildSliceA, buildMutA, makeSliceA, partIdx, elemsA, lensA, ifaceA, convA, mmA, pickA, okAll, stAll, opsA, partsA, partsOk, opA, allocA, boxMutA, newCells, okCells, storeObj, appendA, guardV, taA, nM, mapUpA, lookA, sliceA, boundsA, opO, okO, copyA, dstOk, nilA, quietOk, nilSliceOp, panA, resA, argFr, retA.eq_1, retA.eq_2, Nat.reduceAdd, Nat.reduceSub, Nat.reduceMul, Nat.reduceLT, Nat.reduceLeDiff, Nat.reduceEqDiff, Nat.reduceBEq, Int.reduceAdd, Int.reduceSub, Int.reduceMul, Int.reduceNeg, Int.reduceLE, Int.reduceLT, Int.reduceEq, Int.reduceNe, Int.reduceToNat, ↓reduceIte, reduceCtorEq, implies_true, forall_const, eq_self, ne_eq, wtAll, Try.ntmps41, Try.results41]) ?_ | refine HSub_drop2 (by simp only [vsAll, binA, binLitA, intA, aggA, boolA, nilA2, isConst, unA, loadA, loadRow, partA, partOk, fieldAddrA, indexAddrA, indexA, fieldA, extractA, lenA, nilCheckA, boxA, cellA, cellsA, fillA, okParts, buildSliceA, buildMutA, makeSliceA, partIdx, elemsA, lensA, ifaceA, convA, mmA, pickA, okAll, stAll, opsA, partsA, partsOk, opA, allocA, boxMutA, newCells, okCells, storeObj, appendA, guardV, taA, nM, mapUpA, lookA, sliceA, boundsA, opO, okO, copyA, dstOk, nilA, quietOk, nilSliceOp, panA, resA, argFr, retA.eq_1, retA.eq_2, Nat.reduceAdd, Nat.reduceSub, Nat.reduceMul, Nat.reduceLT, Nat.reduceLeDiff, Nat.reduceEqDiff, Nat.reduceBEq, Int.reduceAdd, Int.reduceSub, Int.reduceMul, Int.reduceNeg, Int.reduceLE, Int.reduceLT, Int.reduceEq, Int.reduceNe, Int.reduceToNat, ↓reduceIte, reduceCtorEq, implies_true, forall_const, eq_self, ne_eq, wtAll, Try.ntmps41, Try.results41]) ?_ | refine HSub_keep_eq (by simp only [vsAll, binA, binLitA, intA, aggA, boolA, nilA2, isConst, unA, loadA, loadRow, partA, partOk, fieldAddrA, indexAddrA, indexA, fieldA, extractA, lenA, nilCheckA, boxA, cellA, cellsA, fillA, okParts, buildSliceA, buildMutA, makeSliceA, partIdx, elemsA, lensA, ifaceA, convA, mmA, pickA, okAll, stAll, opsA, partsA, partsOk, opA, allocA, boxMutA, newCells, okCells, storeObj, appendA, guardV, taA, nM, mapUpA, lookA, sliceA, boundsA, opO, okO, copyA, dstOk, nilA, quietOk, nilSliceOp, panA, resA, argFr, retA.eq_1, retA.eq_2, Nat.reduceAdd, Nat.reduceSub, Nat.reduceMul, Nat.reduceLT, Nat.reduceLeDiff, Nat.reduceEqDiff, Nat.reduceBEq, Int.reduceAdd, Int.reduceSub, Int.reduceMul, Int.reduceNeg, Int.reduceLE, Int.reduceLT, Int.reduceEq, Int.reduceNe, Int.reduceToNat, ↓reduceIte, reduceCtorEq, implies_true, forall_const, eq_self, ne_eq, wtAll, Try.ntmps41, Try.results41]) ?_)))
      · have hq : ((x.ow.getD i []).length : Int) = x.F ∧ 0 ≤ x.mo.getD i 0 ∧ x.mo.getD i 0 ≤ 6 := by
          simp only [Bool.or_eq_false_iff, Bool.and_eq_true, Bool.not_eq_false', decide_eq_true_eq] at hc
          omega
        simp only [vsAll, opA, dstOk, nilSliceOp, Nat.reduceLT, eq_self]
        refine vs_loop (σ := Nat) (fun j => (j : Int) ≤ x.F ∧ ∀ q, q < j → 0 ≤ (x.ow.getD i []).getD q 0 ∧ (x.ow.getD i []).getD q 0 ≤ 9) (fun j => [(1, .rptr 1 5 (fun _ => x.cs) 0 0), (3, i64 i), (4, i64 j)]) (fun _ => H) (fun j => 10 - j) 0 ⟨by omega, fun q hq => absurd hq (by omega)⟩ ?_ ?_ fun j hj => ?_
        · simp only [vsAll, Nat.reduceEqDiff, ↓reduceIte, eq_self, Int.natCast_zero]
        · (repeat (first | exact HSub_rfl | refine HSub_put_eq (by simp only [vsAll, binA, binLitA, intA, aggA, boolA, nilA2, isConst, unA, loadA, loadRow, partA, partOk, fieldAddrA, indexAddrA, indexA, fieldA, extractA, lenA, nilCheckA, boxA, cellA, cellsA, fillA, okParts, buildSliceA, buildMutA, makeSliceA, partIdx, elemsA, lensA, ifaceA, convA, mmA, pickA, okAll, stAll, opsA, partsA, partsOk, opA, allocA, boxMutA, newCells, okCells, storeObj, appendA, guardV, taA, nM, mapUpA, lookA, sliceA, boundsA, opO, okO, copyA, dstOk, nilA, quietOk, nilSliceOp, panA, resA, argFr, retA.eq_1, retA.eq_2, Nat.reduceAdd, Nat.reduceSub, Nat.reduceMul, Nat.reduceLT, Nat.reduceLeDiff, Nat.reduceEqDiff, Nat.reduceBEq, Int.reduceAdd, Int.reduceSub, Int.reduceMul, Int.reduceNeg, Int.reduceLE, Int.reduceLT, Int.reduceEq, Int.reduceNe, Int.reduceToNat, ↓reduceIte, reduceCtorEq, implies_true, forall_const, eq_self, ne_eq, wtAll, Try.ntmps41, Try.results41]) ?_ | refine HSub_drop2 (by simp only [vsAll, binA, binLitA, intA, aggA, boolA, nilA2, isConst, unA, loadA, loadRow, partA, partOk, fieldAddrA, indexAddrA, indexA, fieldA, extractA, lenA, nilCheckA, boxA, cellA, cellsA, fillA, okParts, buildSliceA, buildMutA, makeSliceA, partIdx, elemsA, lensA, ifaceA, convA, mmA, pickA, okAll, stAll, opsA, partsA, partsOk, opA, allocA, boxMutA, newCells, okCells, storeObj, appendA, guardV, taA, nM, mapUpA, lookA, sliceA, boundsA, opO, okO, copyA, dstOk, nilA, quietOk, nilSliceOp, panA, resA, argFr, retA.eq_1, retA.eq_2, Nat.reduceAdd, Nat.reduceSub, Nat.reduceMul, Nat.reduceLT, Nat.reduceLeDiff, Nat.reduceEqDiff, Nat.reduceBEq, Int.reduceAdd, Int.reduceSub, Int.reduceMul, Int.reduceNeg, Int.reduceLE, Int.reduceLT, Int.reduceEq, Int.reduceNe, Int.reduceToNat, ↓reduceIte, reduceCtorEq, implies_true, forall_const, eq_self, ne_eq, wtAll, Try.ntmps41, Try.results41]) ?_ | refine HSub_keep_eq (by simp only [vsAll, binA, binLitA, intA, aggA, boolA, nilA2, isConst, unA, loadA, loadRow, partA, partOk, fieldAddrA, indexAddrA, indexA, fieldA, extractA, lenA, nilCheckA, boxA, cellA, cellsA, fillA, okParts, buildSliceA, buildMutA, makeSliceA, partIdx, elemsA, lensA, ifaceA, convA, mmA, pickA, okAll, stAll, opsA, partsA, partsOk, opA, allocA, boxMutA, newCells, okCells, storeObj, appendA, guardV, taA, nM, mapUpA, lookA, sliceA, boundsA, opO, okO, copyA, dstOk, nilA, quietOk, nilSliceOp, panA, resA, argFr, retA.eq_1, retA.eq_2, Nat.reduceAdd, Nat.reduceSub, Nat.reduceMul, Nat.reduceLT, Nat.reduceLeDiff, Nat.reduceEqDiff, Nat.reduceBEq, Int.reduceAdd, Int.reduceSub, Int.reduceMul, Int.reduceNeg, Int.reduceLE, Int.reduceLT, Int.reduceEq, Int.reduceNe, Int.reduceToNat, ↓reduceIte, reduceCtorEq, implies_true, forall_const, eq_self, ne_eq, wtAll, Try.ntmps41, Try.results41]) ?_))
        · obtain ⟨hj, hjl⟩ := hj
          simp only [vsAll, binA, binLitA, intA, loadA, loadRow, partA, partOk, fieldAddrA, opA, dstOk, Nat.reduceLT, Nat.reduceEqDiff, ↓reduceIte, eq_self, wtAll]
          refine condD (fun hd2 => ?_) (fun hd2 => ?_)
          · simp only [vsAll, loadA, loadRow, partA, partOk, fieldAddrA, indexAddrA, okAll, stAll, opsA, opA, dstOk, Nat.reduceLT, Nat.reduceEqDiff, ↓reduceIte, eq_self, wtAll, llF_at, intF_at]
            refine ⟨by omega, hio, by omega, by omega, ?_⟩
            refine callK_pure (in_tri _ _ _ _) ?_
            simp only [vsAll, unA, opA, dstOk, Nat.reduceLT, ↓reduceIte, eq_self]
            refine condV (fun hc2 => ?_) (fun hc2 => ?_)
            · have hno : ¬ Ok x := fun k => by
                have := k.ov i hio j (by omega)
                simp only [Bool.and_eq_false_iff, Bool.not_eq_true', decide_eq_false_iff_not] at hc2
                omega
              simp only [vsAll, opA, dstOk, nilSliceOp, Nat.reduceLT, eq_self]
              refine ret0 ?_
              simp only [vsAll, resA, retA.eq_1, ↓reduceIte, eq_self, Try.results41, fail hno]
              exact dropR_pure rfl (by (repeat (first | exact HSub_rfl | refine HSub_put_eq (by simp only [vsAll, binA, binLitA, intA, aggA, boolA, nilA2, isConst, unA, loadA, loadRow, partA, partOk, fieldAddrA, indexAddrA, indexA, fieldA, extractA, lenA, nilCheckA, boxA, cellA, cellsA, fillA, okParts, buildSliceA, buildMutA, makeSliceA, partIdx, elemsA, lensA, ifaceA, convA, mmA, pickA, okAll, stAll, opsA, partsA, partsOk, opA, allocA, boxMutA, newCells, okCells, storeObj, appendA, guardV, taA, nM, mapUpA, lookA, sliceA, boundsA, opO, okO, copyA, dstOk, nilA, quietOk, nilSliceOp, panA, resA, argFr, retA.eq_1, retA.eq_2, Nat.reduceAdd, Nat.reduceSub, Nat.reduceMul, Nat.reduceLT, Nat.reduceLeDiff, Nat.reduceEqDiff, Nat.reduceBEq, Int.reduceAdd, Int.reduceSub, Int.reduceMul, Int.reduceNeg, Int.reduceLE, Int.reduceLT, Int.reduceEq, Int.reduceNe, Int.reduceToNat, ↓reduceIte, reduceCtorEq, implies_true, forall_const, eq_self, ne_eq, wtAll, Try.ntmps41, Try.results41]) ?_ | refine HSub_drop2 (by simp only [vsAll, binA, binLitA, intA, aggA, boolA, nilA2, isConst, unA, loadA, loadRow, partA, partOk, fieldAddrA, indexAddrA, indexA, fieldA, extractA, lenA, nilCheckA, boxA, cellA, cellsA, fillA, okParts, buildSliceA, buildMutA, makeSliceA, partIdx, elemsA, lensA, ifaceA, convA, mmA, pickA, okAll, stAll, opsA, partsA, partsOk, opA, allocA, boxMutA, newCells, okCells, storeObj, appendA, guardV, taA, nM, mapUpA, lookA, sliceA, boundsA, opO, okO, copyA, dstOk, nilA, quietOk, nilSliceOp, panA, resA, argFr, retA.eq_1, retA.eq_2, Nat.reduceAdd, Nat.reduceSub, Nat.reduceMul, Nat.reduceLT, Nat.reduceLeDiff, Nat.reduceEqDiff, Nat.reduceBEq, Int.reduceAdd, Int.reduceSub, Int.reduceMul, Int.reduceNeg, Int.reduceLE, Int.reduceLT, Int.reduceEq, Int.reduceNe, Int.reduceToNat, ↓reduceIte, reduceCtorEq, implies_true, forall_const, eq_self, ne_eq, wtAll, Try.ntmps41, Try.results41]) ?_ | refine HSub_keep_eq (by simp only [vsAll, binA, binLitA, intA, aggA, boolA, nilA2, isConst, unA, loadA, loadRow, partA, partOk, fieldAddrA, indexAddrA, indexA, fieldA, extractA, lenA, nilCheckA, boxA, cellA, cellsA, fillA, okParts, buildSliceA, buildMutA, makeSliceA, partIdx, elemsA, lensA, ifaceA, convA, mmA, pickA, okAll, stAll, opsA, partsA, partsOk, opA, allocA, boxMutA, newCells, okCells, storeObj, appendA, guardV, taA, nM, mapUpA, lookA, sliceA, boundsA, opO, okO, copyA, dstOk, nilA, quietOk, nilSliceOp, panA, resA, argFr, retA.eq_1, retA.eq_2, Nat.reduceAdd, Nat.reduceSub, Nat.reduceMul, Nat.reduceLT, Nat.reduceLeDiff, Nat.reduceEqDiff, Nat.reduceBEq, Int.reduceAdd, Int.reduceSub, Int.reduceMul, Int.reduceNeg, Int.reduceLE, Int.reduceLT, Int.reduceEq, Int.reduceNe, Int.reduceToNat, ↓reduceIte, reduceCtorEq, implies_true, forall_const, eq_self, ne_eq, wtAll, Try.ntmps41, Try.results41]) ?_)))
            · have hv : 0 ≤ (x.ow.getD i []).getD j 0 ∧ (x.ow.getD i []).getD j 0 ≤ 9 := by
                simp only [Bool.and_eq_true, Bool.not_eq_false', decide_eq_true_eq] at hc2
                omega
              simp only [vsAll, binA, binLitA, intA, opA, dstOk, nilSliceOp, Nat.reduceLT, Nat.reduceEqDiff, ↓reduceIte, eq_self]
              refine ⟨by simp only [InR_i64]; omega, loop_next (j + 1) ⟨by omega, fun q hq => ?_⟩ (by omega) ?_ ?_⟩
              · by_cases e : q = j
                · subst e; exact hv
                · exact hjl q (by omega)
              · simp only [vsAll, Nat.reduceEqDiff, ↓reduceIte, eq_self, Int.natCast_add, Int.natCast_one]
              · (repeat (first | exact HSub_rfl | refine HSub_put_eq (by simp only [vsAll, binA, binLitA, intA, aggA, boolA, nilA2, isConst, unA, loadA, loadRow, partA, partOk, fieldAddrA, indexAddrA, indexA, fieldA, extractA, lenA, nilCheckA, boxA, cellA, cellsA, fillA, okParts, buildSliceA, buildMutA, makeSliceA, partIdx, elemsA, lensA, ifaceA, convA, mmA, pickA, okAll, stAll, opsA, partsA, partsOk, opA, allocA, boxMutA, newCells, okCells, storeObj, appendA, guardV, taA, nM, mapUpA, lookA, sliceA, boundsA, opO, okO, copyA, dstOk, nilA, quietOk, nilSliceOp, panA, resA, argFr, retA.eq_1, retA.eq_2, Nat.reduceAdd, Nat.reduceSub, Nat.reduceMul, Nat.reduceLT, Nat.reduceLeDiff, Nat.reduceEqDiff, Nat.reduceBEq, Int.reduceAdd, Int.reduceSub, Int.reduceMul, Int.reduceNeg, Int.reduceLE, Int.reduceLT, Int.reduceEq, Int.reduceNe, Int.reduceToNat, ↓reduceIte, reduceCtorEq, implies_true, forall_const, eq_self, ne_eq, wtAll, Try.ntmps41, Try.results41]) ?_ | refine HSub_drop2 (by simp only [vsAll, binA, binLitA, intA, aggA, boolA, nilA2, isConst, unA, loadA, loadRow, partA, partOk, fieldAddrA, indexAddrA, indexA, fieldA, extractA, lenA, nilCheckA, boxA, cellA, cellsA, fillA, okParts, buildSliceA, buildMutA, makeSliceA, partIdx, elemsA, lensA, ifaceA, convA, mmA, pickA, okAll, stAll, opsA, partsA, partsOk, opA, allocA, boxMutA, newCells, okCells, storeObj, appendA, guardV, taA, nM, mapUpA, lookA, sliceA, boundsA, opO, okO, copyA, dstOk, nilA, quietOk, nilSliceOp, panA, resA, argFr, retA.eq_1, retA.eq_2, Nat.reduceAdd, Nat.reduceSub, Nat.reduceMul, Nat.reduceLT, Nat.reduceLeDiff, Nat.reduceEqDiff, Nat.reduceBEq, Int.reduceAdd, Int.reduceSub, Int.reduceMul, Int.reduceNeg, Int.reduceLE, Int.reduceLT, Int.reduceEq, Int.reduceNe, Int.reduceToNat, ↓reduceIte, reduceCtorEq, implies_true, forall_const, eq_self, ne_eq, wtAll, Try.ntmps41, Try.results41]) ?_ | refine HSub_keep_eq (by simp only [vsAll, binA, binLitA, intA, aggA, boolA, nilA2, isConst, unA, loadA, loadRow, partA, partOk, fieldAddrA, indexAddrA, indexA, fieldA, extractA, lenA, nilCheckA, boxA, cellA, cellsA, fillA, okParts, buildSliceA, buildMutA, makeSliceA, partIdx, elemsA, lensA, ifaceA, convA, mmA, pickA, okAll, stAll, opsA, partsA, partsOk, opA, allocA, boxMutA, newCells, okCells, storeObj, appendA, guardV, taA, nM, mapUpA, lookA, sliceA, boundsA, opO, okO, copyA, dstOk, nilA, quietOk, nilSliceOp, panA, resA, argFr, retA.eq_1, retA.eq_2, Nat.reduceAdd, Nat.reduceSub, Nat.reduceMul, Nat.reduceLT, Nat.reduceLeDiff, Nat.reduceEqDiff, Nat.reduceBEq, Int.reduceAdd, Int.reduceSub, Int.reduceMul, Int.reduceNeg, Int.reduceLE, Int.reduceLT, Int.reduceEq, Int.reduceNe, Int.reduceToNat, ↓reduceIte, reduceCtorEq, implies_true, forall_const, eq_self, ne_eq, wtAll, Try.ntmps41, Try.results41]) ?_))
          · simp only [vsAll, binA, binLitA, intA, opA, dstOk, nilSliceOp, Nat.reduceLT, Nat.reduceEqDiff, ↓reduceIte, eq_self]
            refine ⟨by simp only [InR_i64]; omega, loop_next (i + 1) ⟨by omega, fun q hq2 => ?_⟩ (by omega) ?_ ?_⟩
            · by_cases e : q = i
              · subst e; exact ⟨hq, fun q hq => hjl q (by omega)⟩
              · exact hall q (by omega)
            · simp only [vsAll, Nat.reduceEqDiff, ↓reduceIte, eq_self, Int.natCast_add, Int.natCast_one]
            · (repeat (first | exact HSub_rfl | refine HSub_put_eq (by simp only [vsAll, binA, binLitA, intA, aggA, boolA, nilA2, isConst, unA, loadA, loadRow, partA, partOk, fieldAddrA, indexAddrA, indexA, fieldA, extractA, lenA, nilCheckA, boxA, cellA, cellsA, fillA, okParts, buildSliceA, buildMutA, makeSliceA, partIdx, elemsA, lensA, ifaceA, convA, mmA, pickA, okAll, stAll, opsA, partsA, partsOk, opA, allocA, boxMutA, newCells, okCells, storeObj, appendA, guardV, taA, nM, mapUpA, lookA, sliceA, boundsA, opO, okO, copyA, dstOk, nilA, quietOk, nilSliceOp, panA, resA, argFr, retA.eq_1, retA.eq_2, Nat.reduceAdd, Nat.reduceSub, Nat.reduceMul, Nat.reduceLT, Nat.reduceLeDiff, Nat.reduceEqDiff, Nat.reduceBEq, Int.reduceAdd, Int.reduceSub, Int.reduceMul, Int.reduceNeg, Int.reduceLE, Int.reduceLT, Int.reduceEq, Int.reduceNe, Int.reduceToNat, ↓reduceIte, reduceCtorEq, implies_true, forall_const, eq_self, ne_eq, wtAll, Try.ntmps41, Try.results41]) ?_ | refine HSub_drop2 (by simp only [vsAll, binA, binLitA, intA, aggA, boolA, nilA2, isConst, unA, loadA, loadRow, partA, partOk, fieldAddrA, indexAddrA, indexA, fieldA, extractA, lenA, nilCheckA, boxA, cellA, cellsA, fillA, okParts, buildSliceA, buildMutA, makeSliceA, partIdx, elemsA, lensA, ifaceA, convA, mmA, pickA, okAll, stAll, opsA, partsA, partsOk, opA, allocA, boxMutA, newCells, okCells, storeObj, appendA, guardV, taA, nM, mapUpA, lookA, sliceA, boundsA, opO, okO, copyA, dstOk, nilA, quietOk, nilSliceOp, panA, resA, argFr, retA.eq_1, retA.eq_2, Nat.reduceAdd, Nat.reduceSub, Nat.reduceMul, Nat.reduceLT, Nat.reduceLeDiff, Nat.reduceEqDiff, Nat.reduceBEq, Int.reduceAdd, Int.reduceSub, Int.reduceMul, Int.reduceNeg, Int.reduceLE, Int.reduceLT, Int.reduceEq, Int.reduceNe, Int.reduceToNat, ↓reduceIte, reduceCtorEq, implies_true, forall_const, eq_self, ne_eq, wtAll, Try.ntmps41, Try.results41]) ?_ | refine HSub_keep_eq (by simp only [vsAll, binA, binLitA, intA, aggA, boolA, nilA2, isConst, unA, loadA, loadRow, partA, partOk, fieldAddrA, indexAddrA, indexA, fieldA, extractA, lenA, nilCheckA, boxA, cellA, cellsA, fillA, okParts, buildSliceA, buildMutA, makeSliceA, partIdx, elemsA, lensA, ifaceA, convA, mmA, pickA, okAll, stAll, opsA, partsA, partsOk, opA, allocA, boxMutA, newCells, okCells, storeObj, appendA, guardV, taA, nM, mapUpA, lookA, sliceA, boundsA, opO, okO, copyA, dstOk, nilA, quietOk, nilSliceOp, panA, resA, argFr, retA.eq_1, retA.eq_2, Nat.reduceAdd, Nat.reduceSub, Nat.reduceMul, Nat.reduceLT, Nat.reduceLeDiff, Nat.reduceEqDiff, Nat.reduceBEq, Int.reduceAdd, Int.reduceSub, Int.reduceMul, Int.reduceNeg, Int.reduceLE, Int.reduceLT, Int.reduceEq, Int.reduceNe, Int.reduceToNat, ↓reduceIte, reduceCtorEq, implies_true, forall_const, eq_self, ne_eq, wtAll, Try.ntmps41, Try.results41]) ?_))
    · have hA : ∀ j, j < x.ow.length → okO x j := fun j hj => hall j (by omega)
      simp only [vsAll, opA, dstOk, nilSliceOp, Nat.reduceLT, ↓reduceIte, eq_self]
      refine vs_loop (σ := Nat) (fun i => i ≤ x.st.length ∧ ∀ j, j < i → okS x j) (fun i => [(1, .rptr 1 5 (fun _ => x.cs) 0 0), (5, i64 i)]) (fun _ => H) (fun i => x.st.length - i) 0 ⟨Nat.zero_le _, fun j hj => absurd hj (by omega)⟩ ?_ ?_ fun i hi => ?_
      · simp only [vsAll, Nat.reduceEqDiff, ↓reduceIte, eq_self, Int.natCast_zero]
      · (repeat (first | exact HSub_rfl | refine HSub_put_eq (by simp only [vsAll, binA, binLitA, intA, aggA, boolA, nilA2, isConst, unA, loadA, loadRow, partA, partOk, fieldAddrA, indexAddrA, indexA, fieldA, extractA, lenA, nilCheckA, boxA, cellA, cellsA, fillA, okParts, buildSliceA, buildMutA, makeSliceA, partIdx, elemsA, lensA, ifaceA, convA, mmA, pickA, okAll, stAll, opsA, partsA, partsOk, opA, allocA, boxMutA, newCells, okCells, storeObj, appendA, guardV, taA, nM, mapUpA, lookA, sliceA, boundsA, opO, okO, copyA, dstOk, nilA, quietOk, nilSliceOp, panA, resA, argFr, retA.eq_1, retA.eq_2, Nat.reduceAdd, Nat.reduceSub, Nat.reduceMul, Nat.reduceLT, Nat.reduceLeDiff, Nat.reduceEqDiff, Nat.reduceBEq, Int.reduceAdd, Int.reduceSub, Int.reduceMul, Int.reduceNeg, Int.reduceLE, Int.reduceLT, Int.reduceEq, Int.reduceNe, Int.reduceToNat, ↓reduceIte, reduceCtorEq, implies_true, forall_const, eq_self, ne_eq, wtAll, Try.ntmps41, Try.results41]) ?_ | refine HSub_drop2 (by simp only [vsAll, binA, binLitA, intA, aggA, boolA, nilA2, isConst, unA, loadA, loadRow, partA, partOk, fieldAddrA, indexAddrA, indexA, fieldA, extractA, lenA, nilCheckA, boxA, cellA, cellsA, fillA, okParts, buildSliceA, buildMutA, makeSliceA, partIdx, elemsA, lensA, ifaceA, convA, mmA, pickA, okAll, stAll, opsA, partsA, partsOk, opA, allocA, boxMutA, newCells, okCells, storeObj, appendA, guardV, taA, nM, mapUpA, lookA, sliceA, boundsA, opO, okO, copyA, dstOk, nilA, quietOk, nilSliceOp, panA, resA, argFr, retA.eq_1, retA.eq_2, Nat.reduceAdd, Nat.reduceSub, Nat.reduceMul, Nat.reduceLT, Nat.reduceLeDiff, Nat.reduceEqDiff, Nat.reduceBEq, Int.reduceAdd, Int.reduceSub, Int.reduceMul, Int.reduceNeg, Int.reduceLE, Int.reduceLT, Int.reduceEq, Int.reduceNe, Int.reduceToNat, ↓reduceIte, reduceCtorEq, implies_true, forall_const, eq_self, ne_eq, wtAll, Try.ntmps41, Try.results41]) ?_ | refine HSub_keep_eq (by simp only [vsAll, binA, binLitA, intA, aggA, boolA, nilA2, isConst, unA, loadA, loadRow, partA, partOk, fieldAddrA, indexAddrA, indexA, fieldA, extractA, lenA, nilCheckA, boxA, cellA, cellsA, fillA, okParts, buildSliceA, buildMutA, makeSliceA, partIdx, elemsA, lensA, ifaceA, convA, mmA, pickA, okAll, stAll, opsA, partsA, partsOk, opA, allocA, boxMutA, newCells, okCells, storeObj, appendA, guardV, taA, nM, mapUpA, lookA, sliceA, boundsA, opO, okO, copyA, dstOk, nilA, quietOk, nilSliceOp, panA, resA, argFr, retA.eq_1, retA.eq_2, Nat.reduceAdd, Nat.reduceSub, Nat.reduceMul, Nat.reduceLT, Nat.reduceLeDiff, Nat.reduceEqDiff, Nat.reduceBEq, Int.reduceAdd, Int.reduceSub, Int.reduceMul, Int.reduceNeg, Int.reduceLE, Int.reduceLT, Int.reduceEq, Int.reduceNe, Int.reduceToNat, ↓reduceIte, reduceCtorEq, implies_true, forall_const, eq_self, ne_eq, wtAll, Try.ntmps41, Try.results41]) ?_))
      · obtain ⟨hi, hall⟩ := hi
        simp only [vsAll, binA, binLitA, intA, loadA, loadRow, partA, partOk, fieldAddrA, lenA, opA, dstOk, Nat.reduceLT, Nat.reduceEqDiff, ↓reduceIte, eq_self, wtAll]
        refine condD (fun hd => ?_) (fun hd => ?_)
        · have his : i < x.st.length := by omega
          have hsl := kn.st i his
          simp only [vsAll, binA, binLitA, intA, loadA, loadRow, partA, partOk, fieldAddrA, indexAddrA, lenA, opA, dstOk, Nat.reduceLT, Nat.reduceEqDiff, ↓reduceIte, eq_self, wtAll, stF_at]
          refine ⟨⟨by omega, by omega⟩, his, ?_⟩
          refine condD (fun hd0 => ?_) (fun hd0 => ?_)
          · have hno : ¬ Ok x := fun k => by
              have := k.st i his
              omega
            simp only [vsAll, opA, dstOk, nilSliceOp, Nat.reduceLT, eq_self]
            refine ret0 ?_
            simp only [vsAll, resA, retA.eq_1, ↓reduceIte, eq_self, Try.results41, fail hno]
            exact dropR_pure rfl (by (repeat (first | exact HSub_rfl | refine HSub_put_eq (by simp only [vsAll, binA, binLitA, intA, aggA, boolA, nilA2, isConst, unA, loadA, loadRow, partA, partOk, fieldAddrA, indexAddrA, indexA, fieldA, extractA, lenA, nilCheckA, boxA, cellA, cellsA, fillA, okParts, buildSliceA, buildMutA, makeSliceA, partIdx, elemsA, lensA, ifaceA, convA, mmA, pickA, okAll, stAll, opsA, partsA, partsOk, opA, allocA, boxMutA, newCells, okCells, storeObj, appendA, guardV, taA, nM, mapUpA, lookA, sliceA, boundsA, opO, okO, copyA, dstOk, nilA, quietOk, nilSliceOp, panA, resA, argFr, retA.eq_1, retA.eq_2, Nat.reduceAdd, Nat.reduceSub, Nat.reduceMul, Nat.reduceLT, Nat.reduceLeDiff, Nat.reduceEqDiff, Nat.reduceBEq, Int.reduceAdd, Int.reduceSub, Int.reduceMul, Int.reduceNeg, Int.reduceLE, Int.reduceLT, Int.reduceEq, Int.reduceNe, Int.reduceToNat, ↓reduceIte, reduceCtorEq, implies_true, forall_const, eq_self, ne_eq, wtAll, Try.ntmps41, Try.results41]) ?_ | refine HSub_drop2 (by simp only [vsAll, binA, binLitA, intA, aggA, boolA, nilA2, isConst, unA, loadA, loadRow, partA, partOk, fieldAddrA, indexAddrA, indexA, fieldA, extractA, lenA, nilCheckA, boxA, cellA, cellsA, fillA, okParts, buildSliceA, buildMutA, makeSliceA, partIdx, elemsA, lensA, ifaceA, convA, mmA, pickA, okAll, stAll, opsA, partsA, partsOk, opA, allocA, boxMutA, newCells, okCells, storeObj, appendA, guardV, taA, nM, mapUpA, lookA, sliceA, boundsA, opO, okO, copyA, dstOk, nilA, quietOk, nilSliceOp, panA, resA, argFr, retA.eq_1, retA.eq_2, Nat.reduceAdd, Nat.reduceSub, Nat.reduceMul, Nat.reduceLT, Nat.reduceLeDiff, Nat.reduceEqDiff, Nat.reduceBEq, Int.reduceAdd, Int.reduceSub, Int.reduceMul, Int.reduceNeg, Int.reduceLE, Int.reduceLT, Int.reduceEq, Int.reduceNe, Int.reduceToNat, ↓reduceIte, reduceCtorEq, implies_true, forall_const, eq_self, ne_eq, wtAll, Try.ntmps41, Try.results41]) ?_ | refine HSub_keep_eq (by simp only [vsAll, binA, binLitA, intA, aggA, boolA, nilA2, isConst, unA, loadA, loadRow, partA, partOk, fieldAddrA, indexAddrA, indexA, fieldA, extractA, lenA, nilCheckA, boxA, cellA, cellsA, fillA, okParts, buildSliceA, buildMutA, makeSliceA, partIdx, elemsA, lensA, ifaceA, convA, mmA, pickA, okAll, stAll, opsA, partsA, partsOk, opA, allocA, boxMutA, newCells, okCells, storeObj, appendA, guardV, taA, nM, mapUpA, lookA, sliceA, boundsA, opO, okO, copyA, dstOk, nilA, quietOk, nilSliceOp, panA, resA, argFr, retA.eq_1, retA.eq_2, Nat.reduceAdd, Nat.reduceSub, Nat.reduceMul, Nat.reduceLT, Nat.reduceLeDiff, Nat.reduceEqDiff, Nat.reduceBEq, Int.reduceAdd, Int.reduceSub, Int.reduceMul, Int.reduceNeg, Int.reduceLE, Int.reduceLT, Int.reduceEq, Int.reduceNe, Int.reduceToNat, ↓reduceIte, reduceCtorEq, implies_true, forall_const, eq_self, ne_eq, wtAll, Try.ntmps41, Try.results41]) ?_)))
          · simp only [vsAll, opA, dstOk, nilSliceOp, Nat.reduceLT, eq_self]
            refine vs_loop (σ := Nat) (fun j => j ≤ (x.st.getD i []).length ∧ ∀ q, q < j → okM x ((x.st.getD i []).getD q mk0)) (fun j => [(1, .rptr 1 5 (fun _ => x.cs) 0 0), (5, i64 i), (6, i64 j)]) (fun _ => H) (fun j => (x.st.getD i []).length - j) 0 ⟨Nat.zero_le _, fun q hq => absurd hq (by omega)⟩ ?_ ?_ fun j hj => ?_
            · simp only [vsAll, Nat.reduceEqDiff, ↓reduceIte, eq_self, Int.natCast_zero]
            · (repeat (first | exact HSub_rfl | refine HSub_put_eq (by simp only [vsAll, binA, binLitA, intA, aggA, boolA, nilA2, isConst, unA, loadA, loadRow, partA, partOk, fieldAddrA, indexAddrA, indexA, fieldA, extractA, lenA, nilCheckA, boxA, cellA, cellsA, fillA, okParts, buildSliceA, buildMutA, makeSliceA, partIdx, elemsA, lensA, ifaceA, convA, mmA, pickA, okAll, stAll, opsA, partsA, partsOk, opA, allocA, boxMutA, newCells, okCells, storeObj, appendA, guardV, taA, nM, mapUpA, lookA, sliceA, boundsA, opO, okO, copyA, dstOk, nilA, quietOk, nilSliceOp, panA, resA, argFr, retA.eq_1, retA.eq_2, Nat.reduceAdd, Nat.reduceSub, Nat.reduceMul, Nat.reduceLT, Nat.reduceLeDiff, Nat.reduceEqDiff, Nat.reduceBEq, Int.reduceAdd, Int.reduceSub, Int.reduceMul, Int.reduceNeg, Int.reduceLE, Int.reduceLT, Int.reduceEq, Int.reduceNe, Int.reduceToNat, ↓reduceIte, reduceCtorEq, implies_true, forall_const, eq_self, ne_eq, wtAll, Try.ntmps41, Try.results41]) ?_ | refine HSub_drop2 (by simp only [vsAll, binA, binLitA, intA, aggA, boolA, nilA2, isConst, unA, loadA, loadRow, partA, partOk, fieldAddrA, indexAddrA, indexA, fieldA, extractA, lenA, nilCheckA, boxA, cellA, cellsA, fillA, okParts, buildSliceA, buildMutA, makeSliceA, partIdx, elemsA, lensA, ifaceA, convA, mmA, pickA, okAll, stAll, opsA, partsA, partsOk, opA, allocA, boxMutA, newCells, okCells, storeObj, appendA, guardV, taA, nM, mapUpA, lookA, sliceA, boundsA, opO, okO, copyA, dstOk, nilA, quietOk, nilSliceOp, panA, resA, argFr, retA.eq_1, retA.eq_2, Nat.reduceAdd, Nat.reduceSub, Nat.reduceMul, Nat.reduceLT, Nat.reduceLeDiff, Nat.reduceEqDiff, Nat.reduceBEq, Int.reduceAdd, Int.reduceSub, Int.reduceMul, Int.reduceNeg, Int.reduceLE, Int.reduceLT, Int.reduceEq, Int.reduceNe, Int.reduceToNat, ↓reduceIte, reduceCtorEq, implies_true, forall_const, eq_self, ne_eq, wtAll, Try.ntmps41, Try.results41]) ?_ | refine HSub_keep_eq (by simp only [vsAll, binA, binLitA, intA, aggA, boolA, nilA2, isConst, unA, loadA, loadRow, partA, partOk, fieldAddrA, indexAddrA, indexA, fieldA, extractA, lenA, nilCheckA, boxA, cellA, cellsA, fillA, okParts, buildSliceA, buildMutA, makeSliceA, partIdx, elemsA, lensA, ifaceA, convA, mmA, pickA, okAll, stAll, opsA, partsA, partsOk, opA, allocA, boxMutA, newCells, okCells, storeObj, appendA, guardV, taA, nM, mapUpA, lookA, sliceA, boundsA, opO, okO, copyA, dstOk, nilA, quietOk, nilSliceOp, panA, resA, argFr, retA.eq_1, retA.eq_2, Nat.reduceAdd, Nat.reduceSub, Nat.reduceMul, Nat.reduceLT, Nat.reduceLeDiff, Nat.reduceEqDiff, Nat.reduceBEq, Int.reduceAdd, Int.reduceSub, Int.reduceMul, Int.reduceNeg, Int.reduceLE, Int.reduceLT, Int.reduceEq, Int.reduceNe, Int.reduceToNat, ↓reduceIte, reduceCtorEq, implies_true, forall_const, eq_self, ne_eq, wtAll, Try.ntmps41, Try.results41]) ?_))
            · obtain ⟨hj, hjl⟩ := hj
              simp only [vsAll, binA, binLitA, intA, loadA, loadRow, partA, partOk, fieldAddrA, indexAddrA, lenA, opA, dstOk, Nat.reduceLT, Nat.reduceEqDiff, ↓reduceIte, eq_self, wtAll, stF_at]
              refine ⟨⟨by omega, by omega⟩, his, ?_⟩
              refine condD (fun hd2 => ?_) (fun hd2 => ?_)
              · have hjm : j < (x.st.getD i []).length := by omega
                simp only [vsAll, binA, binLitA, intA, loadA, loadRow, partA, partOk, fieldAddrA, indexAddrA, cellA, cellsA, okAll, stAll, opsA, opA, allocA, newCells, okCells, storeObj, dstOk, Nat.reduceAdd, Nat.reduceLT, Nat.reduceEqDiff, ↓reduceIte, eq_self, wtAll, stF_at, mkF_at]
                refine ⟨⟨by omega, by omega⟩, his, ⟨by omega, by omega⟩, hjm, ?_⟩
                intro i7 hh_i7; (try simp only [Hp.set_none, ite_none] at hh_i7)
                rw [Hp.set_set]
                refine ⟨by simp only [InR_i64]; ((try clear hh_i7); omega), callK_pure (in_tri _ _ _ _) ?_⟩
                simp only [vsAll, binA, binLitA, intA, unA, loadA, loadRow, partA, partOk, fieldAddrA, pickA, opA, guardV, dstOk, Nat.reduceLT, Nat.reduceEqDiff, ↓reduceIte, implies_true, eq_self, wtAll]
                refine condV (fun hc2 => ?_) (fun hc2 => ?_)
                · have hno : ¬ Ok x := fun k => by
                    have := k.sf i his j hjm
                    have := k.sl i his j hjm
                    simp only [Bool.or_eq_true, Bool.and_eq_false_iff, Bool.not_eq_true', decide_eq_true_eq, decide_eq_false_iff_not] at hc2
                    ((try clear hh_i7); omega)
                  simp only [vsAll, opA, dstOk, nilSliceOp, Nat.reduceLT, eq_self]
                  refine ret0 ?_
                  simp only [vsAll, resA, retA.eq_1, ↓reduceIte, eq_self, Try.results41, fail hno]
                  exact dropR_pure rfl (by (repeat (first | exact HSub_rfl | refine HSub_put_eq (by simp only [vsAll, binA, binLitA, intA, aggA, boolA, nilA2, isConst, unA, loadA, loadRow, partA, partOk, fieldAddrA, indexAddrA, indexA, fieldA, extractA, lenA, nilCheckA, boxA, cellA, cellsA, fillA, okParts, buildSliceA, buildMutA, makeSliceA, partIdx, elemsA, lensA, ifaceA, convA, mmA, pickA, okAll, stAll, opsA, partsA, partsOk, opA, allocA, boxMutA, newCells, okCells, storeObj, appendA, guardV, taA, nM, mapUpA, lookA, sliceA, boundsA, opO, okO, copyA, dstOk, nilA, quietOk, nilSliceOp, panA, resA, argFr, retA.eq_1, retA.eq_2, Nat.reduceAdd, Nat.reduceSub, Nat.reduceMul, Nat.reduceLT, Nat.reduceLeDiff, Nat.reduceEqDiff, Nat.reduceBEq, Int.reduceAdd, Int.reduceSub, Int.reduceMul, Int.reduceNeg, Int.reduceLE, Int.reduceLT, Int.reduceEq, Int.reduceNe, Int.reduceToNat, ↓reduceIte, reduceCtorEq, implies_true, forall_const, eq_self, ne_eq, wtAll, Try.ntmps41, Try.results41, hh_i7]) ?_ | refine HSub_drop2 (by simp only [eq_self, hh_i7]) ?_ | refine HSub_keep_eq (by simp only [vsAll, binA, binLitA, intA, aggA, boolA, nilA2, isConst, unA, loadA, loadRow, partA, partOk, fieldAddrA, indexAddrA, indexA, fieldA, extractA, lenA, nilCheckA, boxA, cellA, cellsA, fillA, okParts, buildSliceA, buildMutA, makeSliceA, partIdx, elemsA, lensA, ifaceA, convA, mmA, pickA, okAll, stAll, opsA, partsA, partsOk, opA, allocA, boxMutA, newCells, okCells, storeObj, appendA, guardV, taA, nM, mapUpA, lookA, sliceA, boundsA, opO, okO, copyA, dstOk, nilA, quietOk, nilSliceOp, panA, resA, argFr, retA.eq_1, retA.eq_2, Nat.reduceAdd, Nat.reduceSub, Nat.reduceMul, Nat.reduceLT, Nat.reduceLeDiff, Nat.reduceEqDiff, Nat.reduceBEq, Int.reduceAdd, Int.reduceSub, Int.reduceMul, Int.reduceNeg, Int.reduceLE, Int.reduceLT, Int.reduceEq, Int.reduceNe, Int.reduceToNat, ↓reduceIte, reduceCtorEq, implies_true, forall_const, eq_self, ne_eq, wtAll, Try.ntmps41, Try.results41, hh_i7]) ?_)))
                · have hv : okM x ((x.st.getD i []).getD j mk0) := by
                    simp only [Bool.or_eq_false_iff, Bool.and_eq_true, Bool.not_eq_false', decide_eq_true_eq, decide_eq_false_iff_not] at hc2
                    unfold okM
                    ((try clear hh_i7); omega)
                  simp only [vsAll, binA, binLitA, intA, opA, dstOk, nilSliceOp, Nat.reduceLT, Nat.reduceEqDiff, ↓reduceIte, eq_self]
                  refine ⟨by simp only [InR_i64]; ((try clear hh_i7); omega), loop_next (j + 1) ⟨by ((try clear hh_i7); omega), fun q hq => ?_⟩ (by ((try clear hh_i7); omega)) ?_ ?_⟩
                  · by_cases e : q = j
                    · subst e; exact hv
                    · exact hjl q (by ((try clear hh_i7); omega))
                  · simp only [vsAll, Nat.reduceEqDiff, ↓reduceIte, eq_self, Int.natCast_add, Int.natCast_one]
                  · (repeat (first | exact HSub_rfl | refine HSub_put_eq (by simp only [vsAll, binA, binLitA, intA, aggA, boolA, nilA2, isConst, unA, loadA, loadRow, partA, partOk, fieldAddrA, indexAddrA, indexA, fieldA, extractA, lenA, nilCheckA, boxA, cellA, cellsA, fillA, okParts, buildSliceA, buildMutA, makeSliceA, partIdx, elemsA, lensA, ifaceA, convA, mmA, pickA, okAll, stAll, opsA, partsA, partsOk, opA, allocA, boxMutA, newCells, okCells, storeObj, appendA, guardV, taA, nM, mapUpA, lookA, sliceA, boundsA, opO, okO, copyA, dstOk, nilA, quietOk, nilSliceOp, panA, resA, argFr, retA.eq_1, retA.eq_2, Nat.reduceAdd, Nat.reduceSub, Nat.reduceMul, Nat.reduceLT, Nat.reduceLeDiff, Nat.reduceEqDiff, Nat.reduceBEq, Int.reduceAdd, Int.reduceSub, Int.reduceMul, Int.reduceNeg, Int.reduceLE, Int.reduceLT, Int.reduceEq, Int.reduceNe, Int.reduceToNat, ↓reduceIte, reduceCtorEq, implies_true, forall_const, eq_self, ne_eq, wtAll, Try.ntmps41, Try.results41, hh_i7]) ?_ | refine HSub_drop2 (by simp only [eq_self, hh_i7]) ?_ | refine HSub_keep_eq (by simp only [vsAll, binA, binLitA, intA, aggA, boolA, nilA2, isConst, unA, loadA, loadRow, partA, partOk, fieldAddrA, indexAddrA, indexA, fieldA, extractA, lenA, nilCheckA, boxA, cellA, cellsA, fillA, okParts, buildSliceA, buildMutA, makeSliceA, partIdx, elemsA, lensA, ifaceA, convA, mmA, pickA, okAll, stAll, opsA, partsA, partsOk, opA, allocA, boxMutA, newCells, okCells, storeObj, appendA, guardV, taA, nM, mapUpA, lookA, sliceA, boundsA, opO, okO, copyA, dstOk, nilA, quietOk, nilSliceOp, panA, resA, argFr, retA.eq_1, retA.eq_2, Nat.reduceAdd, Nat.reduceSub, Nat.reduceMul, Nat.reduceLT, Nat.reduceLeDiff, Nat.reduceEqDiff, Nat.reduceBEq, Int.reduceAdd, Int.reduceSub, Int.reduceMul, Int.reduceNeg, Int.reduceLE, Int.reduceLT, Int.reduceEq, Int.reduceNe, Int.reduceToNat, ↓reduceIte, reduceCtorEq, implies_true, forall_const, eq_self, ne_eq, wtAll, Try.ntmps41, Try.results41, hh_i7]) ?_))
              · simp only [vsAll, binA, binLitA, intA, opA, dstOk, nilSliceOp, Nat.reduceLT, Nat.reduceEqDiff, ↓reduceIte, eq_self]
                refine ⟨by simp only [InR_i64]; omega, loop_next (i + 1) ⟨by omega, fun q hq2 => ?_⟩ (by omega) ?_ ?_⟩
                · by_cases e : q = i
                  · subst e; exact ⟨by omega, fun q hq => hjl q (by omega)⟩
                  · exact hall q (by omega)
                · simp only [vsAll, Nat.reduceEqDiff, ↓reduceIte, eq_self, Int.natCast_add, Int.natCast_one]
                · (repeat (first | exact HSub_rfl | refine HSub_put_eq (by simp only [vsAll, binA, binLitA, intA, aggA, boolA, nilA2, isConst, unA, loadA, loadRow, partA, partOk, fieldAddrA, indexAddrA, indexA, fieldA, extractA, lenA, nilCheckA, boxA, cellA, cellsA, fillA, okParts, buildSliceA, buildMutA, makeSliceA, partIdx, elemsA, lensA, ifaceA, convA, mmA, pickA, okAll, stAll, opsA, partsA, partsOk, opA, allocA, boxMutA, newCells, okCells, storeObj, appendA, guardV, taA, nM, mapUpA, lookA, sliceA, boundsA, opO, okO, copyA, dstOk, nilA, quietOk, nilSliceOp, panA, resA, argFr, retA.eq_1, retA.eq_2, Nat.reduceAdd, Nat.reduceSub, Nat.reduceMul, Nat.reduceLT, Nat.reduceLeDiff, Nat.reduceEqDiff, Nat.reduceBEq, Int.reduceAdd, Int.reduceSub, Int.reduceMul, Int.reduceNeg, Int.reduceLE, Int.reduceLT, Int.reduceEq, Int.reduceNe, Int.reduceToNat, ↓reduceIte, reduceCtorEq, implies_true, forall_const, eq_self, ne_eq, wtAll, Try.ntmps41, Try.results41]) ?_ | refine HSub_drop2 (by simp only [vsAll, binA, binLitA, intA, aggA, boolA, nilA2, isConst, unA, loadA, loadRow, partA, partOk, fieldAddrA, indexAddrA, indexA, fieldA, extractA, lenA, nilCheckA, boxA, cellA, cellsA, fillA, okParts, buildSliceA, buildMutA, makeSliceA, partIdx, elemsA, lensA, ifaceA, convA, mmA, pickA, okAll, stAll, opsA, partsA, partsOk, opA, allocA, boxMutA, newCells, okCells, storeObj, appendA, guardV, taA, nM, mapUpA, lookA, sliceA, boundsA, opO, okO, copyA, dstOk, nilA, quietOk, nilSliceOp, panA, resA, argFr, retA.eq_1, retA.eq_2, Nat.reduceAdd, Nat.reduceSub, Nat.reduceMul, Nat.reduceLT, Nat.reduceLeDiff, Nat.reduceEqDiff, Nat.reduceBEq, Int.reduceAdd, Int.reduceSub, Int.reduceMul, Int.reduceNeg, Int.reduceLE, Int.reduceLT, Int.reduceEq, Int.reduceNe, Int.reduceToNat, ↓reduceIte, reduceCtorEq, implies_true, forall_const, eq_self, ne_eq, wtAll, Try.ntmps41, Try.results41]) ?_ | refine HSub_keep_eq (by simp only [vsAll, binA, binLitA, intA, aggA, boolA, nilA2, isConst, unA, loadA, loadRow, partA, partOk, fieldAddrA, indexAddrA, indexA, fieldA, extractA, lenA, nilCheckA, boxA, cellA, cellsA, fillA, okParts, buildSliceA, buildMutA, makeSliceA, partIdx, elemsA, lensA, ifaceA, convA, mmA, pickA, okAll, stAll, opsA, partsA, partsOk, opA, allocA, boxMutA, newCells, okCells, storeObj, appendA, guardV, taA, nM, mapUpA, lookA, sliceA, boundsA, opO, okO, copyA, dstOk, nilA, quietOk, nilSliceOp, panA, resA, argFr, retA.eq_1, retA.eq_2, Nat.reduceAdd, Nat.reduceSub, Nat.reduceMul, Nat.reduceLT, Nat.reduceLeDiff, Nat.reduceEqDiff, Nat.reduceBEq, Int.reduceAdd, Int.reduceSub, Int.reduceMul, Int.reduceNeg, Int.reduceLE, Int.reduceLT, Int.reduceEq, Int.reduceNe, Int.reduceToNat, ↓reduceIte, reduceCtorEq, implies_true, forall_const, eq_self, ne_eq, wtAll, Try.ntmps41, Try.results41]) ?_))
        · have hB : ∀ j, j < x.st.length → okS x j := fun j hj => hall j (by omega)
          simp only [vsAll, opA, dstOk, nilSliceOp, Nat.reduceLT, ↓reduceIte, eq_self]
          refine vs_loop (σ := Nat) (fun i => i ≤ x.cl.length ∧ ∀ j, j < i → okC x j) (fun i => [(1, .rptr 1 5 (fun _ => x.cs) 0 0), (8, i64 i)]) (fun _ => H) (fun i => x.cl.length - i) 0 ⟨Nat.zero_le _, fun j hj => absurd hj (by omega)⟩ ?_ ?_ fun i hi => ?_
          · simp only [vsAll, Nat.reduceEqDiff, ↓reduceIte, eq_self, Int.natCast_zero]
          · (repeat (first | exact HSub_rfl | refine HSub_put_eq (by simp only [vsAll, binA, binLitA, intA, aggA, boolA, nilA2, isConst, unA, loadA, loadRow, partA, partOk, fieldAddrA, indexAddrA, indexA, fieldA, extractA, lenA, nilCheckA, boxA, cellA, cellsA, fillA, okParts, buildSliceA, buildMutA, makeSliceA, partIdx, elemsA, lensA, ifaceA, convA, mmA, pickA, okAll, stAll, opsA, partsA, partsOk, opA, allocA, boxMutA, newCells, okCells, storeObj, appendA, guardV, taA, nM, mapUpA, lookA, sliceA, boundsA, opO, okO, copyA, dstOk, nilA, quietOk, nilSliceOp, panA, resA, argFr, retA.eq_1, retA.eq_2, Nat.reduceAdd, Nat.reduceSub, Nat.reduceMul, Nat.reduceLT, Nat.reduceLeDiff, Nat.reduceEqDiff, Nat.reduceBEq, Int.reduceAdd, Int.reduceSub, Int.reduceMul, Int.reduceNeg, Int.reduceLE, Int.reduceLT, Int.reduceEq, Int.reduceNe, Int.reduceToNat, ↓reduceIte, reduceCtorEq, implies_true, forall_const, eq_self, ne_eq, wtAll, Try.ntmps41, Try.results41]) ?_ | refine HSub_drop2 (by simp only [vsAll, binA, binLitA, intA, aggA, boolA, nilA2, isConst, unA, loadA, loadRow, partA, partOk, fieldAddrA, indexAddrA, indexA, fieldA, extractA, lenA, nilCheckA, boxA, cellA, cellsA, fillA, okParts, buildSliceA, buildMutA, makeSliceA, partIdx, elemsA, lensA, ifaceA, convA, mmA, pickA, okAll, stAll, opsA, partsA, partsOk, opA, allocA, boxMutA, newCells, okCells, storeObj, appendA, guardV, taA, nM, mapUpA, lookA, sliceA, boundsA, opO, okO, copyA, dstOk, nilA, quietOk, nilSliceOp, panA, resA, argFr, retA.eq_1, retA.eq_2, Nat.reduceAdd, Nat.reduceSub, Nat.reduceMul, Nat.reduceLT, Nat.reduceLeDiff, Nat.reduceEqDiff, Nat.reduceBEq, Int.reduceAdd, Int.reduceSub, Int.reduceMul, Int.reduceNeg, Int.reduceLE, Int.reduceLT, Int.reduceEq, Int.reduceNe, Int.reduceToNat, ↓reduceIte, reduceCtorEq, implies_true, forall_const, eq_self, ne_eq, wtAll, Try.ntmps41, Try.results41]) ?_ | refine HSub_keep_eq (by simp only [vsAll, binA, binLitA, intA, aggA, boolA, nilA2, isConst, unA, loadA, loadRow, partA, partOk, fieldAddrA, indexAddrA, indexA, fieldA, extractA, lenA, nilCheckA, boxA, cellA, cellsA, fillA, okParts, buildSliceA, buildMutA, makeSliceA, partIdx, elemsA, lensA, ifaceA, convA, mmA, pickA, okAll, stAll, opsA, partsA, partsOk, opA, allocA, boxMutA, newCells, okCells, storeObj, appendA, guardV, taA, nM, mapUpA, lookA, sliceA, boundsA, opO, okO, copyA, dstOk, nilA, quietOk, nilSliceOp, panA, resA, argFr, retA.eq_1, retA.eq_2, Nat.reduceAdd, Nat.reduceSub, Nat.reduceMul, Nat.reduceLT, Nat.reduceLeDiff, Nat.reduceEqDiff, Nat.reduceBEq, Int.reduceAdd, Int.reduceSub, Int.reduceMul, Int.reduceNeg, Int.reduceLE, Int.reduceLT, Int.reduceEq, Int.reduceNe, Int.reduceToNat, ↓reduceIte, reduceCtorEq, implies_true, forall_const, eq_self, ne_eq, wtAll, Try.ntmps41, Try.results41]) ?_))
          · obtain ⟨hi, hall⟩ := hi
            simp only [vsAll, binA, binLitA, intA, loadA, loadRow, partA, partOk, fieldAddrA, lenA, opA, dstOk, Nat.reduceLT, Nat.reduceEqDiff, ↓reduceIte, eq_self, wtAll]
            refine condD (fun hd => ?_) (fun hd => ?_)
            · have hic : i < x.cl.length := by omega
              simp only [vsAll]
              refine vs_draw 20 (by decide +kernel) ?_
              simp only [vsAll, loadA, loadRow, partA, partOk, fieldAddrA, indexAddrA, opA, dstOk, Nat.reduceLT, Nat.reduceEqDiff, ↓reduceIte, eq_self, wtAll, clF_at]
              refine ⟨⟨by omega, by omega⟩, hic, ?_⟩
              refine qcall _ ⟨trivial, by simp only [vsAll, okAll, opsA, opA, Nat.reduceEqDiff, ↓reduceIte, eq_self], strake_tri x _ _ kn⟩ ?_
              simp only [vsAll, unA, loadA, loadRow, partA, partOk, fieldAddrA, indexAddrA, opA, guardV, dstOk, Nat.reduceLT, Nat.reduceEqDiff, ↓reduceIte, implies_true, eq_self, wtAll, clF_at]
              refine ⟨fun g => ⟨g, g, by omega, by omega⟩, fun g => ⟨g, hic⟩, ?_⟩
              refine qgcall _ (fun g => ⟨by simp only [vsAll, opA], by simp only [vsAll, okAll, opsA, opA, Nat.reduceEqDiff, ↓reduceIte, eq_self, g], owner_tri x _ _ kn⟩) ?_
              simp only [vsAll, unA, pickA, opA, guardV, dstOk, Nat.reduceLT, Nat.reduceEqDiff, ↓reduceIte, implies_true, eq_self]
              refine condV (fun hc2 => ?_) (fun hc2 => ?_)
              · have hno : ¬ Ok x := fun k => by
                  have := k.cs i hic
                  have := k.co i hic
                  simp only [Bool.or_eq_true, Bool.and_eq_false_iff, Bool.not_eq_true', decide_eq_false_iff_not] at hc2
                  omega
                simp only [vsAll, opA, dstOk, nilSliceOp, Nat.reduceLT, eq_self]
                refine ret0 ?_
                simp only [vsAll, resA, retA.eq_1, ↓reduceIte, eq_self, Try.results41, fail hno]
                exact dropR_pure rfl (by (repeat (first | exact HSub_rfl | refine HSub_put_eq (by simp only [vsAll, binA, binLitA, intA, aggA, boolA, nilA2, isConst, unA, loadA, loadRow, partA, partOk, fieldAddrA, indexAddrA, indexA, fieldA, extractA, lenA, nilCheckA, boxA, cellA, cellsA, fillA, okParts, buildSliceA, buildMutA, makeSliceA, partIdx, elemsA, lensA, ifaceA, convA, mmA, pickA, okAll, stAll, opsA, partsA, partsOk, opA, allocA, boxMutA, newCells, okCells, storeObj, appendA, guardV, taA, nM, mapUpA, lookA, sliceA, boundsA, opO, okO, copyA, dstOk, nilA, quietOk, nilSliceOp, panA, resA, argFr, retA.eq_1, retA.eq_2, Nat.reduceAdd, Nat.reduceSub, Nat.reduceMul, Nat.reduceLT, Nat.reduceLeDiff, Nat.reduceEqDiff, Nat.reduceBEq, Int.reduceAdd, Int.reduceSub, Int.reduceMul, Int.reduceNeg, Int.reduceLE, Int.reduceLT, Int.reduceEq, Int.reduceNe, Int.reduceToNat, ↓reduceIte, reduceCtorEq, implies_true, forall_const, eq_self, ne_eq, wtAll, Try.ntmps41, Try.results41]) ?_ | refine HSub_drop2 (by simp only [vsAll, binA, binLitA, intA, aggA, boolA, nilA2, isConst, unA, loadA, loadRow, partA, partOk, fieldAddrA, indexAddrA, indexA, fieldA, extractA, lenA, nilCheckA, boxA, cellA, cellsA, fillA, okParts, buildSliceA, buildMutA, makeSliceA, partIdx, elemsA, lensA, ifaceA, convA, mmA, pickA, okAll, stAll, opsA, partsA, partsOk, opA, allocA, boxMutA, newCells, okCells, storeObj, appendA, guardV, taA, nM, mapUpA, lookA, sliceA, boundsA, opO, okO, copyA, dstOk, nilA, quietOk, nilSliceOp, panA, resA, argFr, retA.eq_1, retA.eq_2, Nat.reduceAdd, Nat.reduceSub, Nat.reduceMul, Nat.reduceLT, Nat.reduceLeDiff, Nat.reduceEqDiff, Nat.reduceBEq, Int.reduceAdd, Int.reduceSub, Int.reduceMul, Int.reduceNeg, Int.reduceLE, Int.reduceLT, Int.reduceEq, Int.reduceNe, Int.reduceToNat, ↓reduceIte, reduceCtorEq, implies_true, forall_const, eq_self, ne_eq, wtAll, Try.ntmps41, Try.results41]) ?_ | refine HSub_keep_eq (by simp only [vsAll, binA, binLitA, intA, aggA, boolA, nilA2, isConst, unA, loadA, loadRow, partA, partOk, fieldAddrA, indexAddrA, indexA, fieldA, extractA, lenA, nilCheckA, boxA, cellA, cellsA, fillA, okParts, buildSliceA, buildMutA, makeSliceA, partIdx, elemsA, lensA, ifaceA, convA, mmA, pickA, okAll, stAll, opsA, partsA, partsOk, opA, allocA, boxMutA, newCells, okCells, storeObj, appendA, guardV, taA, nM, mapUpA, lookA, sliceA, boundsA, opO, okO, copyA, dstOk, nilA, quietOk, nilSliceOp, panA, resA, argFr, retA.eq_1, retA.eq_2, Nat.reduceAdd, Nat.reduceSub, Nat.reduceMul, Nat.reduceLT, Nat.reduceLeDiff, Nat.reduceEqDiff, Nat.reduceBEq, Int.reduceAdd, Int.reduceSub, Int.reduceMul, Int.reduceNeg, Int.reduceLE, Int.reduceLT, Int.reduceEq, Int.reduceNe, Int.reduceToNat, ↓reduceIte, reduceCtorEq, implies_true, forall_const, eq_self, ne_eq, wtAll, Try.ntmps41, Try.results41]) ?_)))
              · have hv : okC x i := by
                  simp only [Bool.or_eq_false_iff, Bool.and_eq_true, Bool.not_eq_false', decide_eq_true_eq] at hc2
                  unfold okC
                  omega
                simp only [vsAll, binA, binLitA, intA, opA, dstOk, nilSliceOp, Nat.reduceLT, Nat.reduceEqDiff, ↓reduceIte, eq_self]
                refine ⟨by simp only [InR_i64]; omega, loop_next (i + 1) ⟨by omega, fun q hq => ?_⟩ (by omega) ?_ ?_⟩
                · by_cases e : q = i
                  · subst e; exact hv
                  · exact hall q (by omega)
                · simp only [vsAll, Nat.reduceEqDiff, ↓reduceIte, eq_self, Int.natCast_add, Int.natCast_one]
                · (repeat (first | exact HSub_rfl | refine HSub_put_eq (by simp only [vsAll, binA, binLitA, intA, aggA, boolA, nilA2, isConst, unA, loadA, loadRow, partA, partOk, fieldAddrA, indexAddrA, indexA, fieldA, extractA, lenA, nilCheckA, boxA, cellA, cellsA, fillA, okParts, buildSliceA, buildMutA, makeSliceA, partIdx, elemsA, lensA, ifaceA, convA, mmA, pickA, okAll, stAll, opsA, partsA, partsOk, opA, allocA, boxMutA, newCells, okCells, storeObj, appendA, guardV, taA, nM, mapUpA, lookA, sliceA, boundsA, opO, okO, copyA, dstOk, nilA, quietOk, nilSliceOp, panA, resA, argFr, retA.eq_1, retA.eq_2, Nat.reduceAdd, Nat.reduceSub, Nat.reduceMul, Nat.reduceLT, Nat.reduceLeDiff, Nat.reduceEqDiff, Nat.reduceBEq, Int.reduceAdd, Int.reduceSub, Int.reduceMul, Int.reduceNeg, Int.reduceLE, Int.reduceLT, Int.reduceEq, Int.reduceNe, Int.reduceToNat, ↓reduceIte, reduceCtorEq, implies_true, forall_const, eq_self, ne_eq, wtAll, Try.ntmps41, Try.results41]) ?_ | refine HSub_drop2 (by simp only [vsAll, binA, binLitA, intA, aggA, boolA, nilA2, isConst, unA, loadA, loadRow, partA, partOk, fieldAddrA, indexAddrA, indexA, fieldA, extractA, lenA, nilCheckA, boxA, cellA, cellsA, fillA, okParts, buildSliceA, buildMutA, makeSliceA, partIdx, elemsA, lensA, ifaceA, convA, mmA, pickA, okAll, stAll, opsA, partsA, partsOk, opA, allocA, boxMutA, newCells, okCells, storeObj, appendA, guardV, taA, nM, mapUpA, lookA, sliceA, boundsA, opO, okO, copyA, dstOk, nilA, quietOk, nilSliceOp, panA, resA, argFr, retA.eq_1, retA.eq_2, Nat.reduceAdd, Nat.reduceSub, Nat.reduceMul, Nat.reduceLT, Nat.reduceLeDiff, Nat.reduceEqDiff, Nat.reduceBEq, Int.reduceAdd, Int.reduceSub, Int.reduceMul, Int.reduceNeg, Int.reduceLE, Int.reduceLT, Int.reduceEq, Int.reduceNe, Int.reduceToNat, ↓reduceIte, reduceCtorEq, implies_true, forall_const, eq_self, ne_eq, wtAll, Try.ntmps41, Try.results41]) ?_ | refine HSub_keep_eq (by simp only [vsAll, binA, binLitA, intA, aggA, boolA, nilA2, isConst, unA, loadA, loadRow, partA, partOk, fieldAddrA, indexAddrA, indexA, fieldA, extractA, lenA, nilCheckA, boxA, cellA, cellsA, fillA, okParts, buildSliceA, buildMutA, makeSliceA, partIdx, elemsA, lensA, ifaceA, convA, mmA, pickA, okAll, stAll, opsA, partsA, partsOk, opA, allocA, boxMutA, newCells, okCells, storeObj, appendA, guardV, taA, nM, mapUpA, lookA, sliceA, boundsA, opO, okO, copyA, dstOk, nilA, quietOk, nilSliceOp, panA, resA, argFr, retA.eq_1, retA.eq_2, Nat.reduceAdd, Nat.reduceSub, Nat.reduceMul, Nat.reduceLT, Nat.reduceLeDiff, Nat.reduceEqDiff, Nat.reduceBEq, Int.reduceAdd, Int.reduceSub, Int.reduceMul, Int.reduceNeg, Int.reduceLE, Int.reduceLT, Int.reduceEq, Int.reduceNe, Int.reduceToNat, ↓reduceIte, reduceCtorEq, implies_true, forall_const, eq_self, ne_eq, wtAll, Try.ntmps41, Try.results41]) ?_))
            · have hD : ∀ j, j < x.cl.length → okC x j := fun j hj => hall j (by omega)
              have hok : decide (Ok x) = true := decide_eq_true ((ok_iff x).2 ⟨⟨hF, hO, hM, hS, hC⟩, hA, hB, hD⟩)
              simp only [vsAll, opA, dstOk, nilSliceOp, Nat.reduceLT, ↓reduceIte, eq_self, hok]
              refine ret0 ?_
              simp only [vsAll, resA, retA.eq_1, ↓reduceIte, eq_self, Try.results41]
              exact dropR_pure rfl (by (repeat (first | exact HSub_rfl | refine HSub_put_eq (by simp only [vsAll, binA, binLitA, intA, aggA, boolA, nilA2, isConst, unA, loadA, loadRow, partA, partOk, fieldAddrA, indexAddrA, indexA, fieldA, extractA, lenA, nilCheckA, boxA, cellA, cellsA, fillA, okParts, buildSliceA, buildMutA, makeSliceA, partIdx, elemsA, lensA, ifaceA, convA, mmA, pickA, okAll, stAll, opsA, partsA, partsOk, opA, allocA, boxMutA, newCells, okCells, storeObj, appendA, guardV, taA, nM, mapUpA, lookA, sliceA, boundsA, opO, okO, copyA, dstOk, nilA, quietOk, nilSliceOp, panA, resA, argFr, retA.eq_1, retA.eq_2, Nat.reduceAdd, Nat.reduceSub, Nat.reduceMul, Nat.reduceLT, Nat.reduceLeDiff, Nat.reduceEqDiff, Nat.reduceBEq, Int.reduceAdd, Int.reduceSub, Int.reduceMul, Int.reduceNeg, Int.reduceLE, Int.reduceLT, Int.reduceEq, Int.reduceNe, Int.reduceToNat, ↓reduceIte, reduceCtorEq, implies_true, forall_const, eq_self, ne_eq, wtAll, Try.ntmps41, Try.results41]) ?_ | refine HSub_drop2 (by simp only [vsAll, binA, binLitA, intA, aggA, boolA, nilA2, isConst, unA, loadA, loadRow, partA, partOk, fieldAddrA, indexAddrA, indexA, fieldA, extractA, lenA, nilCheckA, boxA, cellA, cellsA, fillA, okParts, buildSliceA, buildMutA, makeSliceA, partIdx, elemsA, lensA, ifaceA, convA, mmA, pickA, okAll, stAll, opsA, partsA, partsOk, opA, allocA, boxMutA, newCells, okCells, storeObj, appendA, guardV, taA, nM, mapUpA, lookA, sliceA, boundsA, opO, okO, copyA, dstOk, nilA, quietOk, nilSliceOp, panA, resA, argFr, retA.eq_1, retA.eq_2, Nat.reduceAdd, Nat.reduceSub, Nat.reduceMul, Nat.reduceLT, Nat.reduceLeDiff, Nat.reduceEqDiff, Nat.reduceBEq, Int.reduceAdd, Int.reduceSub, Int.reduceMul, Int.reduceNeg, Int.reduceLE, Int.reduceLT, Int.reduceEq, Int.reduceNe, Int.reduceToNat, ↓reduceIte, reduceCtorEq, implies_true, forall_const, eq_self, ne_eq, wtAll, Try.ntmps41, Try.results41]) ?_ | refine HSub_keep_eq (by simp only [vsAll, binA, binLitA, intA, aggA, boolA, nilA2, isConst, unA, loadA, loadRow, partA, partOk, fieldAddrA, indexAddrA, indexA, fieldA, extractA, lenA, nilCheckA, boxA, cellA, cellsA, fillA, okParts, buildSliceA, buildMutA, makeSliceA, partIdx, elemsA, lensA, ifaceA, convA, mmA, pickA, okAll, stAll, opsA, partsA, partsOk, opA, allocA, boxMutA, newCells, okCells, storeObj, appendA, guardV, taA, nM, mapUpA, lookA, sliceA, boundsA, opO, okO, copyA, dstOk, nilA, quietOk, nilSliceOp, panA, resA, argFr, retA.eq_1, retA.eq_2, Nat.reduceAdd, Nat.reduceSub, Nat.reduceMul, Nat.reduceLT, Nat.reduceLeDiff, Nat.reduceEqDiff, Nat.reduceBEq, Int.reduceAdd, Int.reduceSub, Int.reduceMul, Int.reduceNeg, Int.reduceLE, Int.reduceLT, Int.reduceEq, Int.reduceNe, Int.reduceToNat, ↓reduceIte, reduceCtorEq, implies_true, forall_const, eq_self, ne_eq, wtAll, Try.ntmps41, Try.results41]) ?_)))

end Go.Proofs.Ytkonoggmdcdeeaa
end
section
set_option linter.unusedVariables false
set_option linter.unusedSimpArgs false
set_option maxHeartbeats 4000000
set_option maxRecDepth 100000
namespace Go.Proofs.Ytkonoggmdcdeeaa
open Go.V
def cntB (b : List Int) (o : Int) : Nat := b.countP fun z => decide (z = o)
/-- Can an owner have one strake more, the next one? -/
def canO (x : Ir) (b : List Int) (o : Nat) : Bool := fitB x o b.length && decide ((cntB b o : Int) < x.mo.getD o 0)
/-- All truths that go on from some owners, with the strakes of a set alone. -/
def tru (x : Ir) (S : Nat) : Nat → List Int → List (List Int)
  | 0, b => [b]
  | n + 1, b => if S.testBit b.length then (List.range x.ow.length).flatMap fun o : Nat => if canO x b o then tru x S n (b ++ [(o : Int)]) else [] else tru x S n (b ++ [-1])
def truP (x : Ir) (S n : Nat) (b : List Int) (i : Nat) : List (List Int) := (List.range i).flatMap fun o : Nat => if canO x b o then tru x S n (b ++ [(o : Int)]) else []
theorem cp_app (b : List Int) (z : Int) (i : Nat) (hi : i < b.length + 1) : appF b.length 1 (appF 0 b.length (fun i => []) (intF b)) (fun i => [[AV.lit (Value.int IntKind.i64 z)]].getD i []) i = intF (b ++ [z]) i := by
  rw [appF_at (by omega)]
  simp only [intF, getD_snoc]
  by_cases e : i = b.length
  · rw [if_neg (by omega), if_pos e, e, Nat.sub_self]; rfl
  · rw [if_pos (by omega), if_neg e, appF_at (by omega), if_neg (by omega), Nat.sub_zero]; rfl
def truR (x : Ir) (S n : Nat) (b : List Int) (id : Nat) (O : List (List Int)) (H : Hp) : Res → Hp → Prop := fun r H' =>
  r = .ret (.sl id 1 (O ++ tru x S n b).length) ∧ H' = H.set id (.row 1 (O ++ tru x S n b).length (llF (O ++ tru x S n b)))
end Go.Proofs.Ytkonoggmdcdeeaa
end
section
set_option linter.unusedVariables false
namespace Go.V
theorem AV.Le.nil (st : Nat) (f : Nat → List AV) : AV.Le (.lit (.slice none 0 0)) (.rsl 0 st f) := by
  intro S v hv
  have := hv.lit_inv
  subst this
  exact .rsl0
end Go.V
end
section
set_option linter.unusedVariables false
set_option linter.unusedSimpArgs false
set_option maxHeartbeats 4000000
set_option maxRecDepth 100000
namespace Go.Proofs.Ytkonoggmdcdeeaa
open Go.V
theorem tru_zero (x : Ir) (S : Nat) (b : List Int) : tru x S 0 b = [b] := rfl
theorem tru_yes {x : Ir} {S n : Nat} {b : List Int} (h : S.testBit b.length = true) : tru x S (n + 1) b = truP x S n b x.ow.length := by
  simp only [tru, h, if_true]; rfl
theorem tru_no {x : Ir} {S n : Nat} {b : List Int} (h : S.testBit b.length = false) : tru x S (n + 1) b = tru x S n (b ++ [-1]) := by
  simp only [tru, h, Bool.false_eq_true, if_false]
theorem truP_mem {x : Ir} {S n i : Nat} {b t : List Int} : t ∈ truP x S n b i ↔ ∃ o : Nat, o < i ∧ canO x b o = true ∧ t ∈ tru x S n (b ++ [(o : Int)]) := by
  simp only [truP, List.mem_flatMap, List.mem_range]
  constructor
  · rintro ⟨o, h1, h2⟩
    split at h2
    · rename_i hc; exact ⟨o, h1, hc, h2⟩
    · simp at h2
  · rintro ⟨o, h1, h2, h3⟩
    exact ⟨o, h1, by rw [if_pos h2]; exact h3⟩
theorem tru_mem {x : Ir} {S n : Nat} {b t : List Int} (h : t ∈ tru x S n b) :
    t.length = b.length + n ∧ (∀ j, j < b.length → t.getD j 0 = b.getD j 0) ∧ ∀ j, b.length ≤ j → j < b.length + n → (S.testBit j = true → ∃ o : Nat, o < x.ow.length ∧ t.getD j 0 = (o : Int)) ∧ (S.testBit j = false → t.getD j 0 = -1) := by
  induction n generalizing b with
  | zero =>
    rw [tru_zero, List.mem_singleton] at h
    subst h
    exact ⟨rfl, fun _ _ => rfl, fun j h1 h2 => by omega⟩
  | succ n ih =>
    have step : ∀ z : Int, t ∈ tru x S n (b ++ [z]) → t.length = b.length + (n + 1) ∧ (∀ j, j < b.length → t.getD j 0 = b.getD j 0) ∧ t.getD b.length 0 = z ∧ ∀ j, b.length < j → j < b.length + (n + 1) → (S.testBit j = true → ∃ o : Nat, o < x.ow.length ∧ t.getD j 0 = (o : Int)) ∧ (S.testBit j = false → t.getD j 0 = -1) := by
      intro z hz
      obtain ⟨h1, h2, h3⟩ := ih hz
      simp only [List.length_append, List.length_cons, List.length_nil] at h1 h2 h3
      refine ⟨by omega, fun j hj => ?_, ?_, fun j h4 h5 => h3 j (by omega) (by omega)⟩
      · rw [h2 j (by omega), getD_snoc, if_neg (by omega)]
      · rw [h2 b.length (by omega), getD_snoc, if_pos rfl]
    cases hb : S.testBit b.length with
    | true =>
      rw [tru_yes hb, truP_mem] at h
      obtain ⟨o, ho, _, h⟩ := h
      obtain ⟨h1, h2, h3, h4⟩ := step _ h
      refine ⟨h1, h2, fun j h5 h6 => ?_⟩
      by_cases e : j = b.length
      · subst e; exact ⟨fun _ => ⟨o, ho, h3⟩, fun q => (by rw [hb] at q; cases q)⟩
      · exact h4 j (by omega) h6
    | false =>
      rw [tru_no hb] at h
      obtain ⟨h1, h2, h3, h4⟩ := step _ h
      refine ⟨h1, h2, fun j h5 h6 => ?_⟩
      by_cases e : j = b.length
      · subst e; exact ⟨fun q => (by rw [hb] at q; cases q), fun _ => h3⟩
      · exact h4 j (by omega) h6

/-- All truths, with the strakes of a set alone; all. -/
def truS (x : Ir) (S : Nat) : List (List Int) := tru x S x.st.length []
def truA (x : Ir) : List (List Int) := truS x (2 ^ x.st.length - 1)
theorem truA_mem {x : Ir} {t : List Int} (h : t ∈ truA x) : t.length = x.st.length ∧ ∀ j, j < x.st.length → ∃ o : Nat, o < x.ow.length ∧ t.getD j 0 = (o : Int) := by
  obtain ⟨h1, _, h3⟩ := tru_mem h
  simp only [List.length_nil, Nat.zero_add] at h1 h3
  exact ⟨h1, fun j hj => (h3 j (Nat.zero_le _) hj).1 (full_bit _ _ hj)⟩

def whoN (l : List (List Int)) (s : Nat) : Nat → Nat
  | 0 => 0
  | i + 1 => if (whoN l s i).testBit ((l.getD i []).getD s 0).toNat then whoN l s i else whoN l s i + 2 ^ ((l.getD i []).getD s 0).toNat
def who (l : List (List Int)) (s : Nat) : Nat := whoN l s l.length
theorem add_or : ∀ a, a < 64 → ∀ n, n < 6 → a.testBit n = false → a + 2 ^ n = a ||| 2 ^ n := by decide +kernel
theorem whoN_ok {l : List (List Int)} {s : Nat} (hl : ∀ t, t ∈ l → ∃ o : Nat, o < 5 ∧ t.getD s 0 = (o : Int)) (i : Nat) (hi : i ≤ l.length) :
    whoN l s i < 64 ∧ ∀ o : Nat, (whoN l s i).testBit o = (l.take i).any fun t => decide (t.getD s 0 = (o : Int)) := by
  induction i with
  | zero => exact ⟨by simp [whoN], fun o => by simp [whoN]⟩
  | succ i ih =>
    obtain ⟨h1, h2⟩ := ih (by omega)
    obtain ⟨o, ho, e⟩ := hl _ (mem_getD l i [] (by omega))
    have e2 : ((l.getD i []).getD s 0).toNat = o := by rw [e]; rfl
    have hany : ∀ q : Nat, (l.take (i + 1)).any (fun t => decide (t.getD s 0 = (q : Int))) = ((l.take i).any (fun t => decide (t.getD s 0 = (q : Int))) || decide (o = q)) := fun q => by
      rw [take_snoc l i [] (by omega), List.any_append]
      simp only [List.any_cons, List.any_nil, Bool.or_false, e]
      congr 1
      rw [decide_eq_decide]; omega
    simp only [whoN, e2]
    cases hb : (whoN l s i).testBit o with
    | true =>
      rw [if_pos rfl]
      refine ⟨h1, fun q => ?_⟩
      rw [hany, h2 q]
      by_cases eq : o = q
      · subst eq; rw [← h2, hb]; rfl
      · simp [eq]
    | false =>
      rw [if_neg (by simp), add_or _ h1 o (by omega) hb]
      refine ⟨Nat.or_lt_two_pow (n := 6) h1 (Nat.lt_of_lt_of_le (Nat.pow_lt_pow_right (by decide) ho) (by decide)), fun q => ?_⟩
      rw [hany, Nat.testBit_or, Nat.testBit_two_pow, h2 q]

end Go.Proofs.Ytkonoggmdcdeeaa
end
section
set_option linter.unusedVariables false
set_option linter.unusedSimpArgs false
set_option maxHeartbeats 4000000
set_option maxRecDepth 100000
namespace Go.Proofs.Ytkonoggmdcdeeaa
open Go.V
def errE (x : Ir) (valid truth : Bool) : Int := if Ok x then if valid = true then if truth = true ∧ (truA x).length = 0 then 10 else 0 else 2 else 1
def strB (x : Ir) (n : Int) : Bool := decide (0 ≤ n) && decide (n ≤ (x.st.length : Int) - 1)
def ownB (x : Ir) (n : Int) : Bool := decide (0 ≤ n) && decide (n ≤ (x.ow.length : Int) - 1)
def numB (x : Ir) (n : Int) : Bool := decide (0 ≤ n) && decide (n ≤ (x.cl.length : Int) - 1)
theorem strB_iff (x : Ir) (n : Int) : strB x n = true ↔ 0 ≤ n ∧ n < x.st.length := by simp [strB]; omega
theorem numB_iff (x : Ir) (n : Int) : numB x n = true ↔ 0 ≤ n ∧ n < x.cl.length := by simp [numB]; omega
def fitsN (x : Ir) (s : Nat) : Nat → Nat
  | 0 => 0
  | o + 1 => fitsN x s o + (if fitB x o s then 2 ^ o else 0)
theorem fitsN_lt (x : Ir) (s o : Nat) : fitsN x s o < 2 ^ o := by
  induction o with
  | zero => simp [fitsN]
  | succ o ih => simp only [fitsN, Nat.pow_succ]; split <;> omega
def fitsE (x : Ir) (s : Int) : Int := errE x (strB x s) false
def fitsV (x : Ir) (s : Int) : Nat := if fitsE x s = 0 then fitsN x s.toNat x.ow.length else 0
end Go.Proofs.Ytkonoggmdcdeeaa
end
section
set_option linter.unusedVariables false
set_option linter.unusedSimpArgs false
set_option maxHeartbeats 4000000
set_option maxRecDepth 100000
namespace Go.Proofs.Ytkonoggmdcdeeaa
open Go.V
def countE (x : Ir) : Int := errE x true false
def countV (x : Ir) : Nat := if countE x = 0 then (truA x).length else 0
def canE (x : Ir) (s : Int) : Int := errE x (strB x s) true
def canV (x : Ir) (s : Int) : Nat := if canE x s = 0 then who (truA x) s.toNat else 0
def rcN (x : Ir) (n k : Nat) : Nat := ((truA x).take k).countP fun t => rightT x t n
def claimE (x : Ir) (n : Int) : Int := errE x (numB x n) true
def claimV (x : Ir) (n : Int) : Int := if claimE x n = 0 then if rcN x n.toNat (truA x).length = (truA x).length then 2 else if rcN x n.toNat (truA x).length = 0 then 0 else 1 else 0

end Go.Proofs.Ytkonoggmdcdeeaa
end
section
set_option linter.unusedVariables false
set_option linter.unusedSimpArgs false
set_option maxHeartbeats 4000000
set_option maxRecDepth 100000
namespace Go.Proofs.Ytkonoggmdcdeeaa
open Go.V
theorem within_tri (n low high : Int) (H : Hp) : PTri Try.prog (fnA 58) [i64 n, i64 low, i64 high] H (boo (decide (low ≤ n) && decide (n ≤ high))) := by
  refine tri_v0 (fun _ => false) Try.func58 (by kernel_rfl) rfl (by simp only [List.length_append, List.length_cons, List.length_nil, Try.ntmps58]; decide) ?_
  simp only [vsAll, binA, binLitA, intA, pickA, opA, guardV, dstOk, nilSliceOp, resA, argFr, retA.eq_1, Nat.reduceLT, Nat.reduceEqDiff, ↓reduceIte, reduceCtorEq, implies_true, eq_self, Try.ntmps58, Try.results58]

theorem ask_tri (b : Bool) (e : Int) (H : Hp) : Tri Try.prog (fnA 63) [boo b, i64 e] H fun r H' => H' = H ∧ r = if b then .ret (.tuple []) else .pan (.iface 92 (i64 e)) := by
  refine tri_v0 (fun _ => false) Try.func63 (by kernel_rfl) rfl (by simp only [List.length_append, List.length_cons, List.length_nil, Try.ntmps63]; decide) ?_
  simp only [vsAll, unA, opA, dstOk, argFr, Nat.reduceLT, ↓reduceIte, eq_self, Try.ntmps63]
  refine condV (fun hc => ?_) (fun hc => ?_)
  · simp only [Bool.not_eq_true'] at hc
    subst hc
    simp only [vsAll, ifaceA, opA, dstOk, panA, argFr, Nat.reduceLT, Nat.reduceEqDiff, ↓reduceIte, eq_self, wtAll]
  · simp only [Bool.not_eq_false'] at hc
    subst hc
    simp only [vsAll, resA, retA.eq_2, ↓reduceIte, eq_self, Try.results63]

theorem ask_call {b : Bool} {e : Int} {H : Hp} {K : AV → Hp → Prop} {Kp : AV → Hp → Prop} (h1 : b = true → K (.tuple []) H) (h2 : b = false → Kp (.iface 92 (i64 e)) H) :
    CallK Try.prog (fnA 63) [boo b, i64 e] H K Kp := by
  refine ⟨_, ask_tri b e H, ?_⟩
  rintro r H' ⟨rfl, rfl⟩
  cases b
  · exact h2 rfl
  · exact h1 rfl


theorem wps_of_vs {P : Program} {m : Option Tmp → Bool} {n : Nat} {c : Code} {s : Fr} {ds : List AD} {H : Hp} {Q : Post} (h : VS none P m n [.code c] s ds H Q) : WPS none P n c s ds H Q := vcC_sound c h
/-- What answer does. -/
-- tri_v0 (fun _ => false) Try.func43 (by kernel_rfl) rfl (by simp only [List.length_append, List.length_cons, List.length_nil, Try.ntmps43]; decide) ?_
theorem ans43 : AnsOk Try.prog 43 92 := by
  have hn : (1 : Nat) ≤ Try.f43.ntmps := by rw [Try.ntmps43]; decide
  refine ⟨fun H id f S vs ho hH ha => ?_, fun H id f c S vs ho hH ha => ?_, fun vs w => by kernel_rfl⟩
  · refine (ansD (args := [.ref id 0 1 0 0]) (t5 := 5) (t2 := 2) (Q := fun H' => H' = H) (u' := .returning) (rv := .lit .nilIface) (cv := .nilIface) Try.func43 rfl rfl hn (fun c₀ cs hu => .inr ⟨by simp [recoverD, hu], rfl, rfl⟩) hH ha (.lit _) ?_ (by rw [Try.ntmps43]; decide) (by rw [Try.ntmps43]; decide)).mono ?_
    · refine wps_of_vs (m := fun _ => false) ?_
      simp only [vsAll, binA, binLitA, nilA2, isConst, opA, dstOk, Nat.reduceLT, ↓reduceIte, reduceCtorEq, eq_self, wtAll, Try.ntmps43]
    · rintro e u w ⟨h1, h2, S', H', h3, h4, h5, rfl⟩
      exact ⟨h1, h2, S', h3, h4, h5⟩
  · refine (ansD (args := [.ref id 0 1 0 0]) (t5 := 5) (t2 := 2) (Q := fun H' => H' = H.set id (.box 1 1 fun _ => [i64 c])) (u' := .panicking [{ v := Go.V.refusal 92 c, recovered := true }]) (rv := .iface 92 (i64 c)) (cv := Go.V.refusal 92 c) Try.func43 rfl rfl hn (fun c₀ cs hu => .inl (by simp [recoverD, hu])) hH ha (.iface (.lit _)) ?_ (by rw [Try.ntmps43]; decide) (by rw [Try.ntmps43]; decide)).mono ?_
    · refine wps_of_vs (m := fun _ => false) ?_
      obtain ⟨bb, cc, e, q1, q2, q3, q4⟩ := hH.obj id _ ho
      have q5 := q4.2.1 0 (by omega)
      simp only [vsAll, binA, nilA2, unA, extractA, nilCheckA, cellA, cellsA, opA, newCells, okCells, storeObj, taA, dstOk, nilSliceOp, argFr, Nat.reduceAdd, Nat.reduceLT, Nat.reduceEqDiff, ↓reduceIte, reduceCtorEq, eq_self, wtAll, Try.ntmps43, ho]
      have : (f 0).drop 1 = [] := List.drop_eq_nil_of_le (by omega)
      rw [this]
    · rintro e u w ⟨h1, h2, S', H', h3, h4, h5, rfl⟩
      exact ⟨h1, h2, S', h3, h4, h5⟩


/-- Irons that are looked at. -/
abbrev irC (x : Ir) (S C : Nat) (m : Bool) : List AV := [i64 x.F, llAV x.ow, intsAV x.mo, stAV x.st, clAV x.cl, u64 S, u64 C, boo m]
abbrev irP (x : Ir) (S C : Nat) (m : Bool) : AV := .rptr 1 8 (fun _ => irC x S C m) 0 0
theorem isStrake_tri (x : Ir) (S C : Nat) (m : Bool) (n : Int) (H : Hp) (kn : Near x) : PTri Try.prog (fnA 77) [irP x S C m, i64 n] H (boo (strB x n)) := by
  have := kn.nS
  refine tri_v0 (fun _ => false) Try.func77 (by kernel_rfl) rfl (by simp only [List.length_append, List.length_cons, List.length_nil, Try.ntmps77]; decide) ?_
  simp only [vsAll, binA, binLitA, intA, loadA, loadRow, partA, partOk, fieldAddrA, lenA, nilCheckA, okAll, stAll, opsA, opA, dstOk, nilSliceOp, argFr, Nat.reduceLT, Nat.reduceEqDiff, ↓reduceIte, reduceCtorEq, eq_self, wtAll, Try.ntmps77]
  refine ⟨by simp only [InR_i64]; omega, callK_pure (within_tri _ _ _ _) ?_⟩
  simp only [vsAll, opA, dstOk, nilSliceOp, resA, retA.eq_1, Nat.reduceLT, ↓reduceIte, eq_self, Try.results77]
  rfl

end Go.Proofs.Ytkonoggmdcdeeaa
end
section
set_option linter.unusedVariables false
set_option linter.unusedSimpArgs false
set_option maxHeartbeats 4000000
set_option maxRecDepth 100000
namespace Go.Proofs.Ytkonoggmdcdeeaa
open Go.V
abbrev fullS (x : Ir) : Nat := 2 ^ x.st.length - 1
abbrev fullC (x : Ir) : Nat := 2 ^ x.cl.length - 1
/-- What comes of opening irons. -/
def openR (x : Ir) (v : Bool) (H : Hp) : Res → Hp → Prop := fun r H' =>
  H' = H ∧ if Ok x then (if v = true then r = .ret (irP x (fullS x) (fullC x) false) else r = .pan (.iface 92 (i64 2))) else r = .pan (.iface 92 (i64 1))
theorem open_tri (x : Ir) (fv : AV) (v : Bool) (H : Hp) (kn : Near x) (hfv : fv.ok) (hst : fv.st = fv)
    (hq : Ok x → ∀ (H' : Hp), PTri Try.prog fv [irP x (fullS x) (fullC x) false] H' (boo v)) : Tri Try.prog (fnA 44) [x.av, fv] H (openR x v H) := by
  have nO := kn.nO
  have nM := kn.nM
  have nS := kn.nS
  have nC := kn.nC
  refine tri_vs (m := fun _ => false) Try.func44 (by kernel_rfl) rfl (by simp only [List.length_append, List.length_cons, List.length_nil, Try.ntmps44]; decide) ?_
  have no : ∀ {r}, ¬ Ok x → r = .pan (.iface 92 (i64 1)) → openR x v H r H := fun hno e => ⟨rfl, by rw [if_neg hno]; exact e⟩
  simp only [vsAll, loadA, loadRow, partA, partOk, fieldAddrA, boxA, okAll, stAll, opsA, opA, dstOk, nilSliceOp, argFr, Nat.reduceAdd, Nat.reduceLT, Nat.reduceEqDiff, ↓reduceIte, eq_self, wtAll, Try.ntmps44]
  refine callK_pure (within_tri _ _ _ _) ?_
  simp only [vsAll, binA, binLitA, intA, loadA, loadRow, partA, partOk, fieldAddrA, lenA, pickA, okAll, stAll, opsA, opA, guardV, dstOk, Nat.reduceLT, Nat.reduceEqDiff, ↓reduceIte, implies_true, eq_self, wtAll]
  refine ask_call (fun hb => ?_) (fun hb => ?_)
  case refine_2 =>
    have hno : ¬ Ok x := fun k => by
      have := k.F; have := k.nO; have := k.nM; have := k.nS; have := k.nC
      simp only [Bool.and_eq_false_iff, decide_eq_false_iff_not] at hb
      omega
    simp only [vsAll, eq_self]
    exact ⟨H, HSub_rfl, no hno rfl⟩
  have hN : okN x := by
    simp only [Bool.and_eq_true, decide_eq_true_eq] at hb
    unfold okN
    omega
  obtain ⟨hF, hO, hM, hS, hC⟩ := hN
  simp only [vsAll, loadA, loadRow, partA, partOk, fieldAddrA, lenA, opA, dstOk, Nat.reduceLT, Nat.reduceEqDiff, ↓reduceIte, eq_self, wtAll]
  refine vs_loop (σ := Nat) (fun i => i ≤ x.ow.length ∧ ∀ j, j < i → okO x j) (fun i => [(1, fv), (2, .rptr 1 5 (fun _ => x.cs) 0 0), (48, llAV x.ow), (49, i64 x.ow.length), (50, i64 i)]) (fun _ => H) (fun i => x.ow.length - i) 0 ⟨Nat.zero_le _, fun j hj => absurd hj (by omega)⟩ ?_ ?_ fun i hi => ?_
  · simp only [vsAll, argFr, Nat.reduceEqDiff, ↓reduceIte, eq_self, Int.natCast_zero]
  · (repeat (first | exact HSub_rfl | refine HSub_put_eq (by simp only [vsAll, binA, binLitA, intA, aggA, boolA, nilA2, isConst, unA, loadA, loadRow, partA, partOk, fieldAddrA, indexAddrA, indexA, fieldA, extractA, lenA, nilCheckA, boxA, cellA, cellsA, fillA, okParts, buildSliceA, buildMutA, makeSliceA, partIdx, elemsA, lensA, ifaceA, convA, mmA, pickA, okAll, stAll, opsA, partsA, partsOk, opA, allocA, boxMutA, newCells, okCells, storeObj, appendA, guardV, taA, nM, mapUpA, lookA, sliceA, boundsA, opO, okO, copyA, dstOk, nilA, quietOk, nilSliceOp, panA, resA, argFr, retA.eq_1, retA.eq_2, Nat.reduceAdd, Nat.reduceSub, Nat.reduceMul, Nat.reduceLT, Nat.reduceLeDiff, Nat.reduceEqDiff, Nat.reduceBEq, Int.reduceAdd, Int.reduceSub, Int.reduceMul, Int.reduceNeg, Int.reduceLE, Int.reduceLT, Int.reduceEq, Int.reduceNe, Int.reduceToNat, ↓reduceIte, reduceCtorEq, implies_true, forall_const, eq_self, ne_eq, wtAll, Try.ntmps44, Try.results44]) ?_ | refine HSub_drop2 (by simp only [vsAll, binA, binLitA, intA, aggA, boolA, nilA2, isConst, unA, loadA, loadRow, partA, partOk, fieldAddrA, indexAddrA, indexA, fieldA, extractA, lenA, nilCheckA, boxA, cellA, cellsA, fillA, okParts, buildSliceA, buildMutA, makeSliceA, partIdx, elemsA, lensA, ifaceA, convA, mmA, pickA, okAll, stAll, opsA, partsA, partsOk, opA, allocA, boxMutA, newCells, okCells, storeObj, appendA, guardV, taA, nM, mapUpA, lookA, sliceA, boundsA, opO, okO, copyA, dstOk, nilA, quietOk, nilSliceOp, panA, resA, argFr, retA.eq_1, retA.eq_2, Nat.reduceAdd, Nat.reduceSub, Nat.reduceMul, Nat.reduceLT, Nat.reduceLeDiff, Nat.reduceEqDiff, Nat.reduceBEq, Int.reduceAdd, Int.reduceSub, Int.reduceMul, Int.reduceNeg, Int.reduceLE, Int.reduceLT, Int.reduceEq, Int.reduceNe, Int.reduceToNat, ↓reduceIte, reduceCtorEq, implies_true, forall_const, eq_self, ne_eq, wtAll, Try.ntmps44, Try.results44]) ?_ | refine HSub_keep_eq (by simp only [vsAll, binA, binLitA, intA, aggA, boolA, nilA2, isConst, unA, loadA, loadRow, partA, partOk, fieldAddrA, indexAddrA, indexA, fieldA, extractA, lenA, nilCheckA, boxA, cellA, cellsA, fillA, okParts, buildSliceA, buildMutA, makeSliceA, partIdx, elemsA, lensA, ifaceA, convA, mmA, pickA, okAll, stAll, opsA, partsA, partsOk, opA, allocA, boxMutA, newCells, okCells, storeObj, appendA, guardV, taA, nM, mapUpA, lookA, sliceA, boundsA, opO, okO, copyA, dstOk, nilA, quietOk, nilSliceOp, panA, resA, argFr, retA.eq_1, retA.eq_2, Nat.reduceAdd, Nat.reduceSub, Nat.reduceMul, Nat.reduceLT, Nat.reduceLeDiff, Nat.reduceEqDiff, Nat.reduceBEq, Int.reduceAdd, Int.reduceSub, Int.reduceMul, Int.reduceNeg, Int.reduceLE, Int.reduceLT, Int.reduceEq, Int.reduceNe, Int.reduceToNat, ↓reduceIte, reduceCtorEq, implies_true, forall_const, eq_self, ne_eq, wtAll, Try.ntmps44, Try.results44]) ?_))
  · obtain ⟨hi, hall⟩ := hi
    simp only [vsAll, binA, binLitA, intA, opA, okO, dstOk, Nat.reduceLT, Nat.reduceEqDiff, ↓reduceIte, eq_self]
    refine condD (fun hd => ?_) (fun hd => ?_)
    · have hio : i < x.ow.length := by omega
      have hol := kn.ow i hio
      simp only [vsAll, binA, binLitA, intA, loadA, loadRow, partA, partOk, fieldAddrA, indexAddrA, lenA, opA, guardV, dstOk, nilSliceOp, Nat.reduceLT, Nat.reduceEqDiff, ↓reduceIte, implies_true, eq_self, wtAll, llF_at, intF_at]
      refine ⟨⟨by omega, by omega⟩, hio, fun g => ⟨g, g, by omega, by omega⟩, fun g => ⟨g, by omega⟩, ?_⟩
      refine gcall _ (fun g => ⟨by simp only [vsAll, opA], by simp only [vsAll, okAll, opsA, opA, ↓reduceIte, eq_self, g], within_tri _ _ _ _⟩) ?_
      simp only [vsAll, pickA, okAll, stAll, opsA, opA, dstOk, Nat.reduceLT, Nat.reduceEqDiff, ↓reduceIte, implies_true, eq_self]
      refine ask_call (fun hc => ?_) (fun hc => ?_)
      case refine_2 =>
        have hno : ¬ Ok x := fun k => by
          have := k.ow i hio
          have := k.mo i hio
          simp only [Bool.and_eq_false_iff, decide_eq_false_iff_not] at hc
          omega
        simp only [vsAll, eq_self]
        exact ⟨H, HSub_rfl, no hno rfl⟩
      have hq : ((x.ow.getD i []).length : Int) = x.F ∧ 0 ≤ x.mo.getD i 0 ∧ x.mo.getD i 0 ≤ 6 := by
        simp only [Bool.and_eq_true, decide_eq_true_eq] at hc
        omega
      simp only [vsAll, lenA, opA, dstOk, Nat.reduceLT, Nat.reduceEqDiff, ↓reduceIte, eq_self, wtAll]
      refine vs_loop (σ := Nat) (fun j => (j : Int) ≤ x.F ∧ ∀ q, q < j → 0 ≤ (x.ow.getD i []).getD q 0 ∧ (x.ow.getD i []).getD q 0 ≤ 9) (fun j => [(1, fv), (2, .rptr 1 5 (fun _ => x.cs) 0 0), (48, llAV x.ow), (49, i64 x.ow.length), (50, i64 i), (69, intsAV (x.ow.getD i [])), (70, i64 (x.ow.getD i []).length), (71, i64 j)]) (fun _ => H) (fun j => 10 - j) 0 ⟨by omega, fun q hq => absurd hq (by omega)⟩ ?_ ?_ fun j hj => ?_
      · simp only [vsAll, Nat.reduceEqDiff, ↓reduceIte, eq_self, Int.natCast_zero]
      · (repeat (first | exact HSub_rfl | refine HSub_put_eq (by simp only [vsAll, binA, binLitA, intA, aggA, boolA, nilA2, isConst, unA, loadA, loadRow, partA, partOk, fieldAddrA, indexAddrA, indexA, fieldA, extractA, lenA, nilCheckA, boxA, cellA, cellsA, fillA, okParts, buildSliceA, buildMutA, makeSliceA, partIdx, elemsA, lensA, ifaceA, convA, mmA, pickA, okAll, stAll, opsA, partsA, partsOk, opA, allocA, boxMutA, newCells, okCells, storeObj, appendA, guardV, taA, nM, mapUpA, lookA, sliceA, boundsA, opO, okO, copyA, dstOk, nilA, quietOk, nilSliceOp, panA, resA, argFr, retA.eq_1, retA.eq_2, Nat.reduceAdd, Nat.reduceSub, Nat.reduceMul, Nat.reduceLT, Nat.reduceLeDiff, Nat.reduceEqDiff, Nat.reduceBEq, Int.reduceAdd, Int.reduceSub, Int.reduceMul, Int.reduceNeg, Int.reduceLE, Int.reduceLT, Int.reduceEq, Int.reduceNe, Int.reduceToNat, ↓reduceIte, reduceCtorEq, implies_true, forall_const, eq_self, ne_eq, wtAll, Try.ntmps44, Try.results44]) ?_ | refine HSub_drop2 (by simp only [vsAll, binA, binLitA, intA, aggA, boolA, nilA2, isConst, unA, loadA, loadRow, partA, partOk, fieldAddrA, indexAddrA, indexA, fieldA, extractA, lenA, nilCheckA, boxA, cellA, cellsA, fillA, okParts, buildSliceA, buildMutA, makeSliceA, partIdx, elemsA, lensA, ifaceA, convA, mmA, pickA, okAll, stAll, opsA, partsA, partsOk, opA, allocA, boxMutA, newCells, okCells, storeObj, appendA, guardV, taA, nM, mapUpA, lookA, sliceA, boundsA, opO, okO, copyA, dstOk, nilA, quietOk, nilSliceOp, panA, resA, argFr, retA.eq_1, retA.eq_2, Nat.reduceAdd, Nat.reduceSub, Nat.reduceMul, Nat.reduceLT, Nat.reduceLeDiff, Nat.reduceEqDiff, Nat.reduceBEq, Int.reduceAdd, Int.reduceSub, Int.reduceMul, Int.reduceNeg, Int.reduceLE, Int.reduceLT, Int.reduceEq, Int.reduceNe, Int.reduceToNat, ↓reduceIte, reduceCtorEq, implies_true, forall_const, eq_self, ne_eq, wtAll, Try.ntmps44, Try.results44]) ?_ | refine HSub_keep_eq (by simp only [vsAll, binA, binLitA, intA, aggA, boolA, nilA2, isConst, unA, loadA, loadRow, partA, partOk, fieldAddrA, indexAddrA, indexA, fieldA, extractA, lenA, nilCheckA, boxA, cellA, cellsA, fillA, okParts, buildSliceA, buildMutA, makeSliceA, partIdx, elemsA, lensA, ifaceA, convA, mmA, pickA, okAll, stAll, opsA, partsA, partsOk, opA, allocA, boxMutA, newCells, okCells, storeObj, appendA, guardV, taA, nM, mapUpA, lookA, sliceA, boundsA, opO, okO, copyA, dstOk, nilA, quietOk, nilSliceOp, panA, resA, argFr, retA.eq_1, retA.eq_2, Nat.reduceAdd, Nat.reduceSub, Nat.reduceMul, Nat.reduceLT, Nat.reduceLeDiff, Nat.reduceEqDiff, Nat.reduceBEq, Int.reduceAdd, Int.reduceSub, Int.reduceMul, Int.reduceNeg, Int.reduceLE, Int.reduceLT, Int.reduceEq, Int.reduceNe, Int.reduceToNat, ↓reduceIte, reduceCtorEq, implies_true, forall_const, eq_self, ne_eq, wtAll, Try.ntmps44, Try.results44]) ?_))
      · obtain ⟨hj, hjl⟩ := hj
        simp only [vsAll, binA, binLitA, intA, opA, dstOk, Nat.reduceLT, Nat.reduceEqDiff, ↓reduceIte, eq_self]
        refine condD (fun hd2 => ?_) (fun hd2 => ?_)
        · simp only [vsAll, loadA, loadRow, partA, partOk, indexAddrA, okAll, stAll, opsA, opA, dstOk, nilSliceOp, Nat.reduceLT, Nat.reduceEqDiff, ↓reduceIte, eq_self, wtAll, intF_at]
          refine ⟨by omega, by omega, callK_pure (within_tri _ _ _ _) ?_⟩
          simp only [vsAll, okAll, stAll, opsA, opA, dstOk, Nat.reduceLT, ↓reduceIte, eq_self]
          refine ask_call (fun hc2 => ?_) (fun hc2 => ?_)
          case refine_2 =>
            have hno : ¬ Ok x := fun k => by
              have := k.ov i hio j (by omega)
              simp only [Bool.and_eq_false_iff, decide_eq_false_iff_not] at hc2
              omega
            simp only [vsAll, eq_self]
            exact ⟨H, HSub_rfl, no hno rfl⟩
          have hv : 0 ≤ (x.ow.getD i []).getD j 0 ∧ (x.ow.getD i []).getD j 0 ≤ 9 := by
            simp only [Bool.and_eq_true, decide_eq_true_eq] at hc2
            omega
          simp only [vsAll, binA, binLitA, intA, opA, dstOk, Nat.reduceLT, Nat.reduceEqDiff, ↓reduceIte, eq_self]
          refine ⟨by simp only [InR_i64]; omega, loop_next (j + 1) ⟨by omega, fun q hq => ?_⟩ (by omega) ?_ ?_⟩
          · by_cases e : q = j
            · subst e; exact hv
            · exact hjl q (by omega)
          · simp only [vsAll, Nat.reduceEqDiff, ↓reduceIte, eq_self, Int.natCast_add, Int.natCast_one]
          · (repeat (first | exact HSub_rfl | refine HSub_put_eq (by simp only [vsAll, binA, binLitA, intA, aggA, boolA, nilA2, isConst, unA, loadA, loadRow, partA, partOk, fieldAddrA, indexAddrA, indexA, fieldA, extractA, lenA, nilCheckA, boxA, cellA, cellsA, fillA, okParts, buildSliceA, buildMutA, makeSliceA, partIdx, elemsA, lensA, ifaceA, convA, mmA, pickA, okAll, stAll, opsA, partsA, partsOk, opA, allocA, boxMutA, newCells, okCells, storeObj, appendA, guardV, taA, nM, mapUpA, lookA, sliceA, boundsA, opO, okO, copyA, dstOk, nilA, quietOk, nilSliceOp, panA, resA, argFr, retA.eq_1, retA.eq_2, Nat.reduceAdd, Nat.reduceSub, Nat.reduceMul, Nat.reduceLT, Nat.reduceLeDiff, Nat.reduceEqDiff, Nat.reduceBEq, Int.reduceAdd, Int.reduceSub, Int.reduceMul, Int.reduceNeg, Int.reduceLE, Int.reduceLT, Int.reduceEq, Int.reduceNe, Int.reduceToNat, ↓reduceIte, reduceCtorEq, implies_true, forall_const, eq_self, ne_eq, wtAll, Try.ntmps44, Try.results44]) ?_ | refine HSub_drop2 (by simp only [vsAll, binA, binLitA, intA, aggA, boolA, nilA2, isConst, unA, loadA, loadRow, partA, partOk, fieldAddrA, indexAddrA, indexA, fieldA, extractA, lenA, nilCheckA, boxA, cellA, cellsA, fillA, okParts, buildSliceA, buildMutA, makeSliceA, partIdx, elemsA, lensA, ifaceA, convA, mmA, pickA, okAll, stAll, opsA, partsA, partsOk, opA, allocA, boxMutA, newCells, okCells, storeObj, appendA, guardV, taA, nM, mapUpA, lookA, sliceA, boundsA, opO, okO, copyA, dstOk, nilA, quietOk, nilSliceOp, panA, resA, argFr, retA.eq_1, retA.eq_2, Nat.reduceAdd, Nat.reduceSub, Nat.reduceMul, Nat.reduceLT, Nat.reduceLeDiff, Nat.reduceEqDiff, Nat.reduceBEq, Int.reduceAdd, Int.reduceSub, Int.reduceMul, Int.reduceNeg, Int.reduceLE, Int.reduceLT, Int.reduceEq, Int.reduceNe, Int.reduceToNat, ↓reduceIte, reduceCtorEq, implies_true, forall_const, eq_self, ne_eq, wtAll, Try.ntmps44, Try.results44]) ?_ | refine HSub_keep_eq (by simp only [vsAll, binA, binLitA, intA, aggA, boolA, nilA2, isConst, unA, loadA, loadRow, partA, partOk, fieldAddrA, indexAddrA, indexA, fieldA, extractA, lenA, nilCheckA, boxA, cellA, cellsA, fillA, okParts, buildSliceA, buildMutA, makeSliceA, partIdx, elemsA, lensA, ifaceA, convA, mmA, pickA, okAll, stAll, opsA, partsA, partsOk, opA, allocA, boxMutA, newCells, okCells, storeObj, appendA, guardV, taA, nM, mapUpA, lookA, sliceA, boundsA, opO, okO, copyA, dstOk, nilA, quietOk, nilSliceOp, panA, resA, argFr, retA.eq_1, retA.eq_2, Nat.reduceAdd, Nat.reduceSub, Nat.reduceMul, Nat.reduceLT, Nat.reduceLeDiff, Nat.reduceEqDiff, Nat.reduceBEq, Int.reduceAdd, Int.reduceSub, Int.reduceMul, Int.reduceNeg, Int.reduceLE, Int.reduceLT, Int.reduceEq, Int.reduceNe, Int.reduceToNat, ↓reduceIte, reduceCtorEq, implies_true, forall_const, eq_self, ne_eq, wtAll, Try.ntmps44, Try.results44]) ?_))
        · simp only [vsAll, binA, binLitA, intA, opA, dstOk, Nat.reduceLT, Nat.reduceEqDiff, ↓reduceIte, eq_self]
          refine ⟨by simp only [InR_i64]; omega, loop_next (i + 1) ⟨by omega, fun q hq2 => ?_⟩ (by omega) ?_ ?_⟩
          · by_cases e : q = i
            · subst e; exact ⟨hq, fun q hq => hjl q (by omega)⟩
            · exact hall q (by omega)
          · simp only [vsAll, Nat.reduceEqDiff, ↓reduceIte, eq_self, Int.natCast_add, Int.natCast_one]
          · (repeat (first | exact HSub_rfl | refine HSub_put_eq (by simp only [vsAll, binA, binLitA, intA, aggA, boolA, nilA2, isConst, unA, loadA, loadRow, partA, partOk, fieldAddrA, indexAddrA, indexA, fieldA, extractA, lenA, nilCheckA, boxA, cellA, cellsA, fillA, okParts, buildSliceA, buildMutA, makeSliceA, partIdx, elemsA, lensA, ifaceA, convA, mmA, pickA, okAll, stAll, opsA, partsA, partsOk, opA, allocA, boxMutA, newCells, okCells, storeObj, appendA, guardV, taA, nM, mapUpA, lookA, sliceA, boundsA, opO, okO, copyA, dstOk, nilA, quietOk, nilSliceOp, panA, resA, argFr, retA.eq_1, retA.eq_2, Nat.reduceAdd, Nat.reduceSub, Nat.reduceMul, Nat.reduceLT, Nat.reduceLeDiff, Nat.reduceEqDiff, Nat.reduceBEq, Int.reduceAdd, Int.reduceSub, Int.reduceMul, Int.reduceNeg, Int.reduceLE, Int.reduceLT, Int.reduceEq, Int.reduceNe, Int.reduceToNat, ↓reduceIte, reduceCtorEq, implies_true, forall_const, eq_self, ne_eq, wtAll, Try.ntmps44, Try.results44]) ?_ | refine HSub_drop2 (by simp only [vsAll, binA, binLitA, intA, aggA, boolA, nilA2, isConst, unA, loadA, loadRow, partA, partOk, fieldAddrA, indexAddrA, indexA, fieldA, extractA, lenA, nilCheckA, boxA, cellA, cellsA, fillA, okParts, buildSliceA, buildMutA, makeSliceA, partIdx, elemsA, lensA, ifaceA, convA, mmA, pickA, okAll, stAll, opsA, partsA, partsOk, opA, allocA, boxMutA, newCells, okCells, storeObj, appendA, guardV, taA, nM, mapUpA, lookA, sliceA, boundsA, opO, okO, copyA, dstOk, nilA, quietOk, nilSliceOp, panA, resA, argFr, retA.eq_1, retA.eq_2, Nat.reduceAdd, Nat.reduceSub, Nat.reduceMul, Nat.reduceLT, Nat.reduceLeDiff, Nat.reduceEqDiff, Nat.reduceBEq, Int.reduceAdd, Int.reduceSub, Int.reduceMul, Int.reduceNeg, Int.reduceLE, Int.reduceLT, Int.reduceEq, Int.reduceNe, Int.reduceToNat, ↓reduceIte, reduceCtorEq, implies_true, forall_const, eq_self, ne_eq, wtAll, Try.ntmps44, Try.results44]) ?_ | refine HSub_keep_eq (by simp only [vsAll, binA, binLitA, intA, aggA, boolA, nilA2, isConst, unA, loadA, loadRow, partA, partOk, fieldAddrA, indexAddrA, indexA, fieldA, extractA, lenA, nilCheckA, boxA, cellA, cellsA, fillA, okParts, buildSliceA, buildMutA, makeSliceA, partIdx, elemsA, lensA, ifaceA, convA, mmA, pickA, okAll, stAll, opsA, partsA, partsOk, opA, allocA, boxMutA, newCells, okCells, storeObj, appendA, guardV, taA, nM, mapUpA, lookA, sliceA, boundsA, opO, okO, copyA, dstOk, nilA, quietOk, nilSliceOp, panA, resA, argFr, retA.eq_1, retA.eq_2, Nat.reduceAdd, Nat.reduceSub, Nat.reduceMul, Nat.reduceLT, Nat.reduceLeDiff, Nat.reduceEqDiff, Nat.reduceBEq, Int.reduceAdd, Int.reduceSub, Int.reduceMul, Int.reduceNeg, Int.reduceLE, Int.reduceLT, Int.reduceEq, Int.reduceNe, Int.reduceToNat, ↓reduceIte, reduceCtorEq, implies_true, forall_const, eq_self, ne_eq, wtAll, Try.ntmps44, Try.results44]) ?_))
    · have hA : ∀ j, j < x.ow.length → okO x j := fun j hj => hall j (by omega)
      simp only [vsAll, loadA, loadRow, partA, partOk, fieldAddrA, lenA, opA, dstOk, Nat.reduceLT, Nat.reduceEqDiff, ↓reduceIte, eq_self, wtAll]
      refine vs_loop (σ := Nat) (fun i => i ≤ x.st.length ∧ ∀ j, j < i → okS x j) (fun i => [(1, fv), (2, .rptr 1 5 (fun _ => x.cs) 0 0), (81, stAV x.st), (82, i64 x.st.length), (83, i64 i)]) (fun _ => H) (fun i => x.st.length - i) 0 ⟨Nat.zero_le _, fun j hj => absurd hj (by omega)⟩ ?_ ?_ fun i hi => ?_
      · simp only [vsAll, Nat.reduceEqDiff, ↓reduceIte, eq_self, Int.natCast_zero]
      · (repeat (first | exact HSub_rfl | refine HSub_put_eq (by simp only [vsAll, binA, binLitA, intA, aggA, boolA, nilA2, isConst, unA, loadA, loadRow, partA, partOk, fieldAddrA, indexAddrA, indexA, fieldA, extractA, lenA, nilCheckA, boxA, cellA, cellsA, fillA, okParts, buildSliceA, buildMutA, makeSliceA, partIdx, elemsA, lensA, ifaceA, convA, mmA, pickA, okAll, stAll, opsA, partsA, partsOk, opA, allocA, boxMutA, newCells, okCells, storeObj, appendA, guardV, taA, nM, mapUpA, lookA, sliceA, boundsA, opO, okO, copyA, dstOk, nilA, quietOk, nilSliceOp, panA, resA, argFr, retA.eq_1, retA.eq_2, Nat.reduceAdd, Nat.reduceSub, Nat.reduceMul, Nat.reduceLT, Nat.reduceLeDiff, Nat.reduceEqDiff, Nat.reduceBEq, Int.reduceAdd, Int.reduceSub, Int.reduceMul, Int.reduceNeg, Int.reduceLE, Int.reduceLT, Int.reduceEq, Int.reduceNe, Int.reduceToNat, ↓reduceIte, reduceCtorEq, implies_true, forall_const, eq_self, ne_eq, wtAll, Try.ntmps44, Try.results44]) ?_ | refine HSub_drop2 (by simp only [vsAll, binA, binLitA, intA, aggA, boolA, nilA2, isConst, unA, loadA, loadRow, partA, partOk, fieldAddrA, indexAddrA, indexA, fieldA, extractA, lenA, nilCheckA, boxA, cellA, cellsA, fillA, okParts, buildSliceA, buildMutA, makeSliceA, partIdx, elemsA, lensA, ifaceA, convA, mmA, pickA, okAll, stAll, opsA, partsA, partsOk, opA, allocA, boxMutA, newCells, okCells, storeObj, appendA, guardV, taA, nM, mapUpA, lookA, sliceA, boundsA, opO, okO, copyA, dstOk, nilA, quietOk, nilSliceOp, panA, resA, argFr, retA.eq_1, retA.eq_2, Nat.reduceAdd, Nat.reduceSub, Nat.reduceMul, Nat.reduceLT, Nat.reduceLeDiff, Nat.reduceEqDiff, Nat.reduceBEq, Int.reduceAdd, Int.reduceSub, Int.reduceMul, Int.reduceNeg, Int.reduceLE, Int.reduceLT, Int.reduceEq, Int.reduceNe, Int.reduceToNat, ↓reduceIte, reduceCtorEq, implies_true, forall_const, eq_self, ne_eq, wtAll, Try.ntmps44, Try.results44]) ?_ | refine HSub_keep_eq (by simp only [vsAll, binA, binLitA, intA, aggA, boolA, nilA2, isConst, unA, loadA, loadRow, partA, partOk, fieldAddrA, indexAddrA, indexA, fieldA, extractA, lenA, nilCheckA, boxA, cellA, cellsA, fillA, okParts, buildSliceA, buildMutA, makeSliceA, partIdx, elemsA, lensA, ifaceA, convA, mmA, pickA, okAll, stAll, opsA, partsA, partsOk, opA, allocA, boxMutA, newCells, okCells, storeObj, appendA, guardV, taA, nM, mapUpA, lookA, sliceA, boundsA, opO, okO, copyA, dstOk, nilA, quietOk, nilSliceOp, panA, resA, argFr, retA.eq_1, retA.eq_2, Nat.reduceAdd, Nat.reduceSub, Nat.reduceMul, Nat.reduceLT, Nat.reduceLeDiff, Nat.reduceEqDiff, Nat.reduceBEq, Int.reduceAdd, Int.reduceSub, Int.reduceMul, Int.reduceNeg, Int.reduceLE, Int.reduceLT, Int.reduceEq, Int.reduceNe, Int.reduceToNat, ↓reduceIte, reduceCtorEq, implies_true, forall_const, eq_self, ne_eq, wtAll, Try.ntmps44, Try.results44]) ?_))
      · obtain ⟨hi, hall⟩ := hi
        simp only [vsAll, binA, binLitA, intA, opA, dstOk, Nat.reduceLT, Nat.reduceEqDiff, ↓reduceIte, eq_self]
        refine condD (fun hd => ?_) (fun hd => ?_)
        · have his : i < x.st.length := by omega
          have hsl := kn.st i his
          simp only [vsAll, binA, binLitA, intA, loadA, loadRow, partA, partOk, indexAddrA, lenA, okAll, stAll, opsA, opA, dstOk, nilSliceOp, Nat.reduceLT, Nat.reduceEqDiff, ↓reduceIte, eq_self, wtAll, stF_at]
          refine ⟨by omega, his, ?_⟩
          refine ask_call (fun hc => ?_) (fun hc => ?_)
          case refine_2 =>
            have hno : ¬ Ok x := fun k => by
              have := k.st i his
              simp only [decide_eq_false_iff_not] at hc
              omega
            simp only [vsAll, eq_self]
            exact ⟨H, HSub_rfl, no hno rfl⟩
          simp only [decide_eq_true_eq] at hc
          simp only [vsAll, lenA, opA, dstOk, Nat.reduceLT, Nat.reduceEqDiff, ↓reduceIte, eq_self, wtAll]
          refine vs_loop (σ := Nat) (fun j => j ≤ (x.st.getD i []).length ∧ ∀ q, q < j → okM x ((x.st.getD i []).getD q mk0)) (fun j => [(1, fv), (2, .rptr 1 5 (fun _ => x.cs) 0 0), (81, stAV x.st), (82, i64 x.st.length), (83, i64 i), (91, mksAV (x.st.getD i [])), (92, i64 (x.st.getD i []).length), (93, i64 j)]) (fun _ => H) (fun j => (x.st.getD i []).length - j) 0 ⟨Nat.zero_le _, fun q hq => absurd hq (by omega)⟩ ?_ ?_ fun j hj => ?_
          · simp only [vsAll, Nat.reduceEqDiff, ↓reduceIte, eq_self, Int.natCast_zero]
          · (repeat (first | exact HSub_rfl | refine HSub_put_eq (by simp only [vsAll, binA, binLitA, intA, aggA, boolA, nilA2, isConst, unA, loadA, loadRow, partA, partOk, fieldAddrA, indexAddrA, indexA, fieldA, extractA, lenA, nilCheckA, boxA, cellA, cellsA, fillA, okParts, buildSliceA, buildMutA, makeSliceA, partIdx, elemsA, lensA, ifaceA, convA, mmA, pickA, okAll, stAll, opsA, partsA, partsOk, opA, allocA, boxMutA, newCells, okCells, storeObj, appendA, guardV, taA, nM, mapUpA, lookA, sliceA, boundsA, opO, okO, copyA, dstOk, nilA, quietOk, nilSliceOp, panA, resA, argFr, retA.eq_1, retA.eq_2, Nat.reduceAdd, Nat.reduceSub, Nat.reduceMul, Nat.reduceLT, Nat.reduceLeDiff, Nat.reduceEqDiff, Nat.reduceBEq, Int.reduceAdd, Int.reduceSub, Int.reduceMul, Int.reduceNeg, Int.reduceLE, Int.reduceLT, Int.reduceEq, Int.reduceNe, Int.reduceToNat, ↓reduceIte, reduceCtorEq, implies_true, forall_const, eq_self, ne_eq, wtAll, Try.ntmps44, Try.results44]) ?_ | refine HSub_drop2 (by simp only [vsAll, binA, binLitA, intA, aggA, boolA, nilA2, isConst, unA, loadA, loadRow, partA, partOk, fieldAddrA, indexAddrA, indexA, fieldA, extractA, lenA, nilCheckA, boxA, cellA, cellsA, fillA, okParts, buildSliceA, buildMutA, makeSliceA, partIdx, elemsA, lensA, ifaceA, convA, mmA, pickA, okAll, stAll, opsA, partsA, partsOk, opA, allocA, boxMutA, newCells, okCells, storeObj, appendA, guardV, taA, nM, mapUpA, lookA, sliceA, boundsA, opO, okO, copyA, dstOk, nilA, quietOk, nilSliceOp, panA, resA, argFr, retA.eq_1, retA.eq_2, Nat.reduceAdd, Nat.reduceSub, Nat.reduceMul, Nat.reduceLT, Nat.reduceLeDiff, Nat.reduceEqDiff, Nat.reduceBEq, Int.reduceAdd, Int.reduceSub, Int.reduceMul, Int.reduceNeg, Int.reduceLE, Int.reduceLT, Int.reduceEq, Int.reduceNe, Int.reduceToNat, ↓reduceIte, reduceCtorEq, implies_true, forall_const, eq_self, ne_eq, wtAll, Try.ntmps44, Try.results44]) ?_ | refine HSub_keep_eq (by simp only [vsAll, binA, binLitA, intA, aggA, boolA, nilA2, isConst, unA, loadA, loadRow, partA, partOk, fieldAddrA, indexAddrA, indexA, fieldA, extractA, lenA, nilCheckA, boxA, cellA, cellsA, fillA, okParts, buildSliceA, buildMutA, makeSliceA, partIdx, elemsA, lensA, ifaceA, convA, mmA, pickA, okAll, stAll, opsA, partsA, partsOk, opA, allocA, boxMutA, newCells, okCells, storeObj, appendA, guardV, taA, nM, mapUpA, lookA, sliceA, boundsA, opO, okO, copyA, dstOk, nilA, quietOk, nilSliceOp, panA, resA, argFr, retA.eq_1, retA.eq_2, Nat.reduceAdd, Nat.reduceSub, Nat.reduceMul, Nat.reduceLT, Nat.reduceLeDiff, Nat.reduceEqDiff, Nat.reduceBEq, Int.reduceAdd, Int.reduceSub, Int.reduceMul, Int.reduceNeg, Int.reduceLE, Int.reduceLT, Int.reduceEq, Int.reduceNe, Int.reduceToNat, ↓reduceIte, reduceCtorEq, implies_true, forall_const, eq_self, ne_eq, wtAll, Try.ntmps44, Try.results44]) ?_))
          · obtain ⟨hj, hjl⟩ := hj
            simp only [vsAll, binA, binLitA, intA, opA, dstOk, Nat.reduceLT, Nat.reduceEqDiff, ↓reduceIte, eq_self]
            refine condD (fun hd2 => ?_) (fun hd2 => ?_)
            · have hjm : j < (x.st.getD i []).length := by omega
              simp only [vsAll, binA, binLitA, intA, loadA, loadRow, partA, partOk, fieldAddrA, indexAddrA, cellA, cellsA, okAll, stAll, opsA, opA, allocA, newCells, okCells, storeObj, dstOk, Nat.reduceAdd, Nat.reduceLT, Nat.reduceEqDiff, ↓reduceIte, eq_self, wtAll, mkF_at]
              refine ⟨by omega, hjm, ?_⟩
              intro i12 hh_i12; (try simp only [Hp.set_none, ite_none] at hh_i12)
              rw [Hp.set_set]
              refine ⟨by simp only [InR_i64]; ((try clear hh_i12); omega), callK_pure (within_tri _ _ _ _) ?_⟩
              simp only [vsAll, binA, binLitA, intA, loadA, loadRow, partA, partOk, fieldAddrA, pickA, okAll, stAll, opsA, opA, guardV, dstOk, Nat.reduceLT, Nat.reduceEqDiff, ↓reduceIte, implies_true, eq_self, wtAll]
              refine ask_call (fun hc2 => ?_) (fun hc2 => ?_)
              case refine_2 =>
                have hno : ¬ Ok x := fun k => by
                  have := k.sf i his j hjm
                  have := k.sl i his j hjm
                  simp only [Bool.and_eq_false_iff, decide_eq_false_iff_not] at hc2
                  ((try clear hh_i12); omega)
                simp only [vsAll, eq_self]
                exact ⟨H, by (repeat (first | exact HSub_rfl | refine HSub_put_eq (by simp only [vsAll, binA, binLitA, intA, aggA, boolA, nilA2, isConst, unA, loadA, loadRow, partA, partOk, fieldAddrA, indexAddrA, indexA, fieldA, extractA, lenA, nilCheckA, boxA, cellA, cellsA, fillA, okParts, buildSliceA, buildMutA, makeSliceA, partIdx, elemsA, lensA, ifaceA, convA, mmA, pickA, okAll, stAll, opsA, partsA, partsOk, opA, allocA, boxMutA, newCells, okCells, storeObj, appendA, guardV, taA, nM, mapUpA, lookA, sliceA, boundsA, opO, okO, copyA, dstOk, nilA, quietOk, nilSliceOp, panA, resA, argFr, retA.eq_1, retA.eq_2, Nat.reduceAdd, Nat.reduceSub, Nat.reduceMul, Nat.reduceLT, Nat.reduceLeDiff, Nat.reduceEqDiff, Nat.reduceBEq, Int.reduceAdd, Int.reduceSub, Int.reduceMul, Int.reduceNeg, Int.reduceLE, Int.reduceLT, Int.reduceEq, Int.reduceNe, Int.reduceToNat, ↓reduceIte, reduceCtorEq, implies_true, forall_const, eq_self, ne_eq, wtAll, Try.ntmps44, Try.results44, hh_i12]) ?_ | refine HSub_drop2 (by simp only [eq_self, hh_i12]) ?_ | refine HSub_keep_eq (by simp only [vsAll, binA, binLitA, intA, aggA, boolA, nilA2, isConst, unA, loadA, loadRow, partA, partOk, fieldAddrA, indexAddrA, indexA, fieldA, extractA, lenA, nilCheckA, boxA, cellA, cellsA, fillA, okParts, buildSliceA, buildMutA, makeSliceA, partIdx, elemsA, lensA, ifaceA, convA, mmA, pickA, okAll, stAll, opsA, partsA, partsOk, opA, allocA, boxMutA, newCells, okCells, storeObj, appendA, guardV, taA, nM, mapUpA, lookA, sliceA, boundsA, opO, okO, copyA, dstOk, nilA, quietOk, nilSliceOp, panA, resA, argFr, retA.eq_1, retA.eq_2, Nat.reduceAdd, Nat.reduceSub, Nat.reduceMul, Nat.reduceLT, Nat.reduceLeDiff, Nat.reduceEqDiff, Nat.reduceBEq, Int.reduceAdd, Int.reduceSub, Int.reduceMul, Int.reduceNeg, Int.reduceLE, Int.reduceLT, Int.reduceEq, Int.reduceNe, Int.reduceToNat, ↓reduceIte, reduceCtorEq, implies_true, forall_const, eq_self, ne_eq, wtAll, Try.ntmps44, Try.results44, hh_i12]) ?_)), no hno rfl⟩
              have hv : okM x ((x.st.getD i []).getD j mk0) := by
                simp only [Bool.and_eq_true, decide_eq_true_eq] at hc2
                unfold okM
                ((try clear hh_i12); omega)
              simp only [vsAll, binA, binLitA, intA, opA, dstOk, Nat.reduceLT, Nat.reduceEqDiff, ↓reduceIte, eq_self]
              refine ⟨by simp only [InR_i64]; ((try clear hh_i12); omega), loop_next (j + 1) ⟨by ((try clear hh_i12); omega), fun q hq => ?_⟩ (by ((try clear hh_i12); omega)) ?_ ?_⟩
              · by_cases e : q = j
                · subst e; exact hv
                · exact hjl q (by ((try clear hh_i12); omega))
              · simp only [vsAll, Nat.reduceEqDiff, ↓reduceIte, eq_self, Int.natCast_add, Int.natCast_one]
              · (repeat (first | exact HSub_rfl | refine HSub_put_eq (by simp only [vsAll, binA, binLitA, intA, aggA, boolA, nilA2, isConst, unA, loadA, loadRow, partA, partOk, fieldAddrA, indexAddrA, indexA, fieldA, extractA, lenA, nilCheckA, boxA, cellA, cellsA, fillA, okParts, buildSliceA, buildMutA, makeSliceA, partIdx, elemsA, lensA, ifaceA, convA, mmA, pickA, okAll, stAll, opsA, partsA, partsOk, opA, allocA, boxMutA, newCells, okCells, storeObj, appendA, guardV, taA, nM, mapUpA, lookA, sliceA, boundsA, opO, okO, copyA, dstOk, nilA, quietOk, nilSliceOp, panA, resA, argFr, retA.eq_1, retA.eq_2, Nat.reduceAdd, Nat.reduceSub, Nat.reduceMul, Nat.reduceLT, Nat.reduceLeDiff, Nat.reduceEqDiff, Nat.reduceBEq, Int.reduceAdd, Int.reduceSub, Int.reduceMul, Int.reduceNeg, Int.reduceLE, Int.reduceLT, Int.reduceEq, Int.reduceNe, Int.reduceToNat, ↓reduceIte, reduceCtorEq, implies_true, forall_const, eq_self, ne_eq, wtAll, Try.ntmps44, Try.results44, hh_i12]) ?_ | refine HSub_drop2 (by simp only [eq_self, hh_i12]) ?_ | refine HSub_keep_eq (by simp only [vsAll, binA, binLitA, intA, aggA, boolA, nilA2, isConst, unA, loadA, loadRow, partA, partOk, fieldAddrA, indexAddrA, indexA, fieldA, extractA, lenA, nilCheckA, boxA, cellA, cellsA, fillA, okParts, buildSliceA, buildMutA, makeSliceA, partIdx, elemsA, lensA, ifaceA, convA, mmA, pickA, okAll, stAll, opsA, partsA, partsOk, opA, allocA, boxMutA, newCells, okCells, storeObj, appendA, guardV, taA, nM, mapUpA, lookA, sliceA, boundsA, opO, okO, copyA, dstOk, nilA, quietOk, nilSliceOp, panA, resA, argFr, retA.eq_1, retA.eq_2, Nat.reduceAdd, Nat.reduceSub, Nat.reduceMul, Nat.reduceLT, Nat.reduceLeDiff, Nat.reduceEqDiff, Nat.reduceBEq, Int.reduceAdd, Int.reduceSub, Int.reduceMul, Int.reduceNeg, Int.reduceLE, Int.reduceLT, Int.reduceEq, Int.reduceNe, Int.reduceToNat, ↓reduceIte, reduceCtorEq, implies_true, forall_const, eq_self, ne_eq, wtAll, Try.ntmps44, Try.results44, hh_i12]) ?_))
            · simp only [vsAll, binA, binLitA, intA, opA, dstOk, Nat.reduceLT, Nat.reduceEqDiff, ↓reduceIte, eq_self]
              refine ⟨by simp only [InR_i64]; omega, loop_next (i + 1) ⟨by omega, fun q hq2 => ?_⟩ (by omega) ?_ ?_⟩
              · by_cases e : q = i
                · subst e; exact ⟨by omega, fun q hq => hjl q (by omega)⟩
                · exact hall q (by omega)
              · simp only [vsAll, Nat.reduceEqDiff, ↓reduceIte, eq_self, Int.natCast_add, Int.natCast_one]
              · (repeat (first | exact HSub_rfl | refine HSub_put_eq (by simp only [vsAll, binA, binLitA, intA, aggA, boolA, nilA2, isConst, unA, loadA, loadRow, partA, partOk, fieldAddrA, indexAddrA, indexA, fieldA, extractA, lenA, nilCheckA, boxA, cellA, cellsA, fillA, okParts, buildSliceA, buildMutA, makeSliceA, partIdx, elemsA, lensA, ifaceA, convA, mmA, pickA, okAll, stAll, opsA, partsA, partsOk, opA, allocA, boxMutA, newCells, okCells, storeObj, appendA, guardV, taA, nM, mapUpA, lookA, sliceA, boundsA, opO, okO, copyA, dstOk, nilA, quietOk, nilSliceOp, panA, resA, argFr, retA.eq_1, retA.eq_2, Nat.reduceAdd, Nat.reduceSub, Nat.reduceMul, Nat.reduceLT, Nat.reduceLeDiff, Nat.reduceEqDiff, Nat.reduceBEq, Int.reduceAdd, Int.reduceSub, Int.reduceMul, Int.reduceNeg, Int.reduceLE, Int.reduceLT, Int.reduceEq, Int.reduceNe, Int.reduceToNat, ↓reduceIte, reduceCtorEq, implies_true, forall_const, eq_self, ne_eq, wtAll, Try.ntmps44, Try.results44]) ?_ | refine HSub_drop2 (by simp only [vsAll, binA, binLitA, intA, aggA, boolA, nilA2, isConst, unA, loadA, loadRow, partA, partOk, fieldAddrA, indexAddrA, indexA, fieldA, extractA, lenA, nilCheckA, boxA, cellA, cellsA, fillA, okParts, buildSliceA, buildMutA, makeSliceA, partIdx, elemsA, lensA, ifaceA, convA, mmA, pickA, okAll, stAll, opsA, partsA, partsOk, opA, allocA, boxMutA, newCells, okCells, storeObj, appendA, guardV, taA, nM, mapUpA, lookA, sliceA, boundsA, opO, okO, copyA, dstOk, nilA, quietOk, nilSliceOp, panA, resA, argFr, retA.eq_1, retA.eq_2, Nat.reduceAdd, Nat.reduceSub, Nat.reduceMul, Nat.reduceLT, Nat.reduceLeDiff, Nat.reduceEqDiff, Nat.reduceBEq, Int.reduceAdd, Int.reduceSub, Int.reduceMul, Int.reduceNeg, Int.reduceLE, Int.reduceLT, Int.reduceEq, Int.reduceNe, Int.reduceToNat, ↓reduceIte, reduceCtorEq, implies_true, forall_const, eq_self, ne_eq, wtAll, Try.ntmps44, Try.results44]) ?_ | refine HSub_keep_eq (by simp only [vsAll, binA, binLitA, intA, aggA, boolA, nilA2, isConst, unA, loadA, loadRow, partA, partOk, fieldAddrA, indexAddrA, indexA, fieldA, extractA, lenA, nilCheckA, boxA, cellA, cellsA, fillA, okParts, buildSliceA, buildMutA, makeSliceA, partIdx, elemsA, lensA, ifaceA, convA, mmA, pickA, okAll, stAll, opsA, partsA, partsOk, opA, allocA, boxMutA, newCells, okCells, storeObj, appendA, guardV, taA, nM, mapUpA, lookA, sliceA, boundsA, opO, okO, copyA, dstOk, nilA, quietOk, nilSliceOp, panA, resA, argFr, retA.eq_1, retA.eq_2, Nat.reduceAdd, Nat.reduceSub, Nat.reduceMul, Nat.reduceLT, Nat.reduceLeDiff, Nat.reduceEqDiff, Nat.reduceBEq, Int.reduceAdd, Int.reduceSub, Int.reduceMul, Int.reduceNeg, Int.reduceLE, Int.reduceLT, Int.reduceEq, Int.reduceNe, Int.reduceToNat, ↓reduceIte, reduceCtorEq, implies_true, forall_const, eq_self, ne_eq, wtAll, Try.ntmps44, Try.results44]) ?_))
        · have hB : ∀ j, j < x.st.length → okS x j := fun j hj => hall j (by omega)
          simp only [vsAll, ↓reduceIte, eq_self]
          refine vs_draw 12 (by decide +kernel) ?_
          simp only [vsAll, binA, binLitA, intA, loadA, loadRow, partA, partOk, fieldAddrA, lenA, boxA, cellA, cellsA, fillA, okParts, partsA, partsOk, opA, dstOk, nilSliceOp, Nat.reduceAdd, Nat.reduceLT, Nat.reduceLeDiff, Nat.reduceEqDiff, ↓reduceIte, eq_self, wtAll]
          have pS : 2 ^ x.st.length ≤ 2 ^ 6 := Nat.pow_le_pow_right (by decide) hS
          have pC : 2 ^ x.cl.length ≤ 2 ^ 8 := Nat.pow_le_pow_right (by decide) hC
          have zS : 0 < 2 ^ x.st.length := Nat.pow_pos (by decide)
          have zC : 0 < 2 ^ x.cl.length := Nat.pow_pos (by decide)
          have eS : (1 : Int) * 2 ^ x.st.length = ((2 ^ x.st.length : Nat) : Int) := by rw [Int.one_mul]; simp
          have eC : (1 : Int) * 2 ^ x.cl.length = ((2 ^ x.cl.length : Nat) : Int) := by rw [Int.one_mul]; simp
          have fS : ((2 ^ x.st.length : Nat) : Int) - 1 = ((fullS x : Nat) : Int) := by simp only [fullS]; omega
          have fC : ((2 ^ x.cl.length : Nat) : Int) - 1 = ((fullC x : Nat) : Int) := by simp only [fullC]; omega
          rw [eS, eC, fS, fC]
          refine ⟨⟨by omega, by omega, by simp only [InR_u64]; omega⟩, by simp only [InR_u64, fullS]; omega, ⟨by omega, by omega, by simp only [InR_u64]; omega⟩, by simp only [InR_u64, fullC]; omega, ?_⟩
          refine vs_loop (σ := Nat) (fun i => i ≤ x.cl.length ∧ ∀ j, j < i → okC x j) (fun i => [(1, fv), (2, .rptr 1 5 (fun _ => x.cs) 0 0), (13, irP x (fullS x) (fullC x) false), (137, clAV x.cl), (138, i64 x.cl.length), (139, i64 i)]) (fun _ => H) (fun i => x.cl.length - i) 0 ⟨Nat.zero_le _, fun j hj => absurd hj (by omega)⟩ ?_ ?_ fun i hi => ?_
          · simp only [vsAll, Nat.reduceEqDiff, ↓reduceIte, eq_self, Int.natCast_zero]
          · (repeat (first | exact HSub_rfl | refine HSub_put_eq (by simp only [vsAll, binA, binLitA, intA, aggA, boolA, nilA2, isConst, unA, loadA, loadRow, partA, partOk, fieldAddrA, indexAddrA, indexA, fieldA, extractA, lenA, nilCheckA, boxA, cellA, cellsA, fillA, okParts, buildSliceA, buildMutA, makeSliceA, partIdx, elemsA, lensA, ifaceA, convA, mmA, pickA, okAll, stAll, opsA, partsA, partsOk, opA, allocA, boxMutA, newCells, okCells, storeObj, appendA, guardV, taA, nM, mapUpA, lookA, sliceA, boundsA, opO, okO, copyA, dstOk, nilA, quietOk, nilSliceOp, panA, resA, argFr, retA.eq_1, retA.eq_2, Nat.reduceAdd, Nat.reduceSub, Nat.reduceMul, Nat.reduceLT, Nat.reduceLeDiff, Nat.reduceEqDiff, Nat.reduceBEq, Int.reduceAdd, Int.reduceSub, Int.reduceMul, Int.reduceNeg, Int.reduceLE, Int.reduceLT, Int.reduceEq, Int.reduceNe, Int.reduceToNat, ↓reduceIte, reduceCtorEq, implies_true, forall_const, eq_self, ne_eq, wtAll, Try.ntmps44, Try.results44]) ?_ | refine HSub_drop2 (by simp only [vsAll, binA, binLitA, intA, aggA, boolA, nilA2, isConst, unA, loadA, loadRow, partA, partOk, fieldAddrA, indexAddrA, indexA, fieldA, extractA, lenA, nilCheckA, boxA, cellA, cellsA, fillA, okParts, buildSliceA, buildMutA, makeSliceA, partIdx, elemsA, lensA, ifaceA, convA, mmA, pickA, okAll, stAll, opsA, partsA, partsOk, opA, allocA, boxMutA, newCells, okCells, storeObj, appendA, guardV, taA, nM, mapUpA, lookA, sliceA, boundsA, opO, okO, copyA, dstOk, nilA, quietOk, nilSliceOp, panA, resA, argFr, retA.eq_1, retA.eq_2, Nat.reduceAdd, Nat.reduceSub, Nat.reduceMul, Nat.reduceLT, Nat.reduceLeDiff, Nat.reduceEqDiff, Nat.reduceBEq, Int.reduceAdd, Int.reduceSub, Int.reduceMul, Int.reduceNeg, Int.reduceLE, Int.reduceLT, Int.reduceEq, Int.reduceNe, Int.reduceToNat, ↓reduceIte, reduceCtorEq, implies_true, forall_const, eq_self, ne_eq, wtAll, Try.ntmps44, Try.results44]) ?_ | refine HSub_keep_eq (by simp only [vsAll, binA, binLitA, intA, aggA, boolA, nilA2, isConst, unA, loadA, loadRow, partA, partOk, fieldAddrA, indexAddrA, indexA, fieldA, extractA, lenA, nilCheckA, boxA, cellA, cellsA, fillA, okParts, buildSliceA, buildMutA, makeSliceA, partIdx, elemsA, lensA, ifaceA, convA, mmA, pickA, okAll, stAll, opsA, partsA, partsOk, opA, allocA, boxMutA, newCells, okCells, storeObj, appendA, guardV, taA, nM, mapUpA, lookA, sliceA, boundsA, opO, okO, copyA, dstOk, nilA, quietOk, nilSliceOp, panA, resA, argFr, retA.eq_1, retA.eq_2, Nat.reduceAdd, Nat.reduceSub, Nat.reduceMul, Nat.reduceLT, Nat.reduceLeDiff, Nat.reduceEqDiff, Nat.reduceBEq, Int.reduceAdd, Int.reduceSub, Int.reduceMul, Int.reduceNeg, Int.reduceLE, Int.reduceLT, Int.reduceEq, Int.reduceNe, Int.reduceToNat, ↓reduceIte, reduceCtorEq, implies_true, forall_const, eq_self, ne_eq, wtAll, Try.ntmps44, Try.results44]) ?_))
          · obtain ⟨hi, hall⟩ := hi
            simp only [vsAll, binA, binLitA, intA, opA, dstOk, Nat.reduceLT, Nat.reduceEqDiff, ↓reduceIte, eq_self]
            refine condD (fun hd => ?_) (fun hd => ?_)
            · have hic : i < x.cl.length := by omega
              simp only [vsAll, loadA, loadRow, partA, partOk, fieldAddrA, indexAddrA, cellA, cellsA, okAll, stAll, opsA, opA, allocA, newCells, okCells, storeObj, dstOk, Nat.reduceAdd, Nat.reduceLT, Nat.reduceEqDiff, ↓reduceIte, eq_self, wtAll, clF_at]
              refine ⟨by omega, hic, ?_⟩
              intro i15 hh_i15; (try simp only [Hp.set_none, ite_none] at hh_i15)
              rw [Hp.set_set]
              refine callK_pure (isStrake_tri x _ _ _ _ _ kn) ?_
              simp only [vsAll, binA, binLitA, intA, loadA, loadRow, partA, partOk, fieldAddrA, lenA, opA, guardV, dstOk, Nat.reduceLT, Nat.reduceEqDiff, ↓reduceIte, implies_true, eq_self, wtAll]
              refine ⟨fun g => ⟨g, by simp only [InR_i64]; ((try clear hh_i15); omega)⟩, ?_⟩
              refine gcall _ (fun g => ⟨by simp only [vsAll, opA], by simp only [vsAll, okAll, opsA, opA, Nat.reduceEqDiff, ↓reduceIte, eq_self, g], within_tri _ _ _ _⟩) ?_
              simp only [vsAll, pickA, okAll, stAll, opsA, opA, dstOk, Nat.reduceLT, Nat.reduceEqDiff, ↓reduceIte, implies_true, eq_self]
              refine ask_call (fun hc2 => ?_) (fun hc2 => ?_)
              case refine_2 =>
                have hno : ¬ Ok x := fun k => by
                  have := k.cs i hic
                  have := k.co i hic
                  simp only [strB] at hc2
                  simp only [Bool.and_eq_false_iff, decide_eq_false_iff_not] at hc2
                  ((try clear hh_i15); omega)
                simp only [vsAll, eq_self]
                exact ⟨H, by (repeat (first | exact HSub_rfl | refine HSub_put_eq (by simp only [vsAll, binA, binLitA, intA, aggA, boolA, nilA2, isConst, unA, loadA, loadRow, partA, partOk, fieldAddrA, indexAddrA, indexA, fieldA, extractA, lenA, nilCheckA, boxA, cellA, cellsA, fillA, okParts, buildSliceA, buildMutA, makeSliceA, partIdx, elemsA, lensA, ifaceA, convA, mmA, pickA, okAll, stAll, opsA, partsA, partsOk, opA, allocA, boxMutA, newCells, okCells, storeObj, appendA, guardV, taA, nM, mapUpA, lookA, sliceA, boundsA, opO, okO, copyA, dstOk, nilA, quietOk, nilSliceOp, panA, resA, argFr, retA.eq_1, retA.eq_2, Nat.reduceAdd, Nat.reduceSub, Nat.reduceMul, Nat.reduceLT, Nat.reduceLeDiff, Nat.reduceEqDiff, Nat.reduceBEq, Int.reduceAdd, Int.reduceSub, Int.reduceMul, Int.reduceNeg, Int.reduceLE, Int.reduceLT, Int.reduceEq, Int.reduceNe, Int.reduceToNat, ↓reduceIte, reduceCtorEq, implies_true, forall_const, eq_self, ne_eq, wtAll, Try.ntmps44, Try.results44, hh_i15]) ?_ | refine HSub_drop2 (by simp only [eq_self, hh_i15]) ?_ | refine HSub_keep_eq (by simp only [vsAll, binA, binLitA, intA, aggA, boolA, nilA2, isConst, unA, loadA, loadRow, partA, partOk, fieldAddrA, indexAddrA, indexA, fieldA, extractA, lenA, nilCheckA, boxA, cellA, cellsA, fillA, okParts, buildSliceA, buildMutA, makeSliceA, partIdx, elemsA, lensA, ifaceA, convA, mmA, pickA, okAll, stAll, opsA, partsA, partsOk, opA, allocA, boxMutA, newCells, okCells, storeObj, appendA, guardV, taA, nM, mapUpA, lookA, sliceA, boundsA, opO, okO, copyA, dstOk, nilA, quietOk, nilSliceOp, panA, resA, argFr, retA.eq_1, retA.eq_2, Nat.reduceAdd, Nat.reduceSub, Nat.reduceMul, Nat.reduceLT, Nat.reduceLeDiff, Nat.reduceEqDiff, Nat.reduceBEq, Int.reduceAdd, Int.reduceSub, Int.reduceMul, Int.reduceNeg, Int.reduceLE, Int.reduceLT, Int.reduceEq, Int.reduceNe, Int.reduceToNat, ↓reduceIte, reduceCtorEq, implies_true, forall_const, eq_self, ne_eq, wtAll, Try.ntmps44, Try.results44, hh_i15]) ?_)), no hno rfl⟩
              have hv : okC x i := by
                simp only [strB] at hc2
                simp only [Bool.and_eq_true, decide_eq_true_eq] at hc2
                unfold okC
                ((try clear hh_i15); omega)
              simp only [vsAll, binA, binLitA, intA, opA, dstOk, Nat.reduceLT, Nat.reduceEqDiff, ↓reduceIte, eq_self]
              refine ⟨by simp only [InR_i64]; ((try clear hh_i15); omega), loop_next (i + 1) ⟨by ((try clear hh_i15); omega), fun q hq => ?_⟩ (by ((try clear hh_i15); omega)) ?_ ?_⟩
              · by_cases e : q = i
                · subst e; exact hv
                · exact hall q (by ((try clear hh_i15); omega))
              · simp only [vsAll, Nat.reduceEqDiff, ↓reduceIte, eq_self, Int.natCast_add, Int.natCast_one]
              · (repeat (first | exact HSub_rfl | refine HSub_put_eq (by simp only [vsAll, binA, binLitA, intA, aggA, boolA, nilA2, isConst, unA, loadA, loadRow, partA, partOk, fieldAddrA, indexAddrA, indexA, fieldA, extractA, lenA, nilCheckA, boxA, cellA, cellsA, fillA, okParts, buildSliceA, buildMutA, makeSliceA, partIdx, elemsA, lensA, ifaceA, convA, mmA, pickA, okAll, stAll, opsA, partsA, partsOk, opA, allocA, boxMutA, newCells, okCells, storeObj, appendA, guardV, taA, nM, mapUpA, lookA, sliceA, boundsA, opO, okO, copyA, dstOk, nilA, quietOk, nilSliceOp, panA, resA, argFr, retA.eq_1, retA.eq_2, Nat.reduceAdd, Nat.reduceSub, Nat.reduceMul, Nat.reduceLT, Nat.reduceLeDiff, Nat.reduceEqDiff, Nat.reduceBEq, Int.reduceAdd, Int.reduceSub, Int.reduceMul, Int.reduceNeg, Int.reduceLE, Int.reduceLT, Int.reduceEq, Int.reduceNe, Int.reduceToNat, ↓reduceIte, reduceCtorEq, implies_true, forall_const, eq_self, ne_eq, wtAll, Try.ntmps44, Try.results44, hh_i15]) ?_ | refine HSub_drop2 (by simp only [eq_self, hh_i15]) ?_ | refine HSub_keep_eq (by simp only [vsAll, binA, binLitA, intA, aggA, boolA, nilA2, isConst, unA, loadA, loadRow, partA, partOk, fieldAddrA, indexAddrA, indexA, fieldA, extractA, lenA, nilCheckA, boxA, cellA, cellsA, fillA, okParts, buildSliceA, buildMutA, makeSliceA, partIdx, elemsA, lensA, ifaceA, convA, mmA, pickA, okAll, stAll, opsA, partsA, partsOk, opA, allocA, boxMutA, newCells, okCells, storeObj, appendA, guardV, taA, nM, mapUpA, lookA, sliceA, boundsA, opO, okO, copyA, dstOk, nilA, quietOk, nilSliceOp, panA, resA, argFr, retA.eq_1, retA.eq_2, Nat.reduceAdd, Nat.reduceSub, Nat.reduceMul, Nat.reduceLT, Nat.reduceLeDiff, Nat.reduceEqDiff, Nat.reduceBEq, Int.reduceAdd, Int.reduceSub, Int.reduceMul, Int.reduceNeg, Int.reduceLE, Int.reduceLT, Int.reduceEq, Int.reduceNe, Int.reduceToNat, ↓reduceIte, reduceCtorEq, implies_true, forall_const, eq_self, ne_eq, wtAll, Try.ntmps44, Try.results44, hh_i15]) ?_))
            · have hD : ∀ j, j < x.cl.length → okC x j := fun j hj => hall j (by omega)
              have hok : Ok x := (ok_iff x).2 ⟨⟨hF, hO, hM, hS, hC⟩, hA, hB, hD⟩
              simp only [vsAll, okAll, stAll, opsA, opA, dstOk, Nat.reduceLT, Nat.reduceEqDiff, ↓reduceIte, eq_self, hst, hfv]
              refine callK_pure (hq hok _) ?_
              simp only [vsAll, okAll, stAll, opsA, opA, dstOk, Nat.reduceLT, ↓reduceIte, eq_self]
              refine ask_call (fun c4 => ?_) (fun c4 => ?_)
              · simp only [vsAll, opA, dstOk, nilSliceOp, Nat.reduceLT, Nat.reduceEqDiff, ↓reduceIte, eq_self]
                refine ret0 ?_
                simp only [vsAll, resA, retA.eq_1, ↓reduceIte, eq_self, Try.results44]
                exact ⟨H, HSub_rfl, rfl, by rw [if_pos hok, if_pos c4]⟩
              · simp only [vsAll, eq_self]
                exact ⟨H, HSub_rfl, rfl, by rw [if_pos hok, if_neg (by rw [c4]; decide)]⟩

end Go.Proofs.Ytkonoggmdcdeeaa
end
section
set_option linter.unusedVariables false
set_option linter.unusedSimpArgs false
set_option maxHeartbeats 4000000
set_option maxRecDepth 100000
namespace Go.Proofs.Ytkonoggmdcdeeaa
open Go.V
theorem wfit_tri (x : Ir) (S C : Nat) (m : Bool) (o s : Nat) (H : Hp) (k : Gd x) (ho : o < x.ow.length) (hs : s < x.st.length) : PTri Try.prog (fnA 46) [irP x S C m, i64 o, i64 s] H (boo (fitB x o s)) := by
  have nO := k.nO
  have nS := k.nS
  have hl := k.st s hs
  refine tri_vs (m := fun _ => false) Try.func46 (by kernel_rfl) rfl (by simp only [List.length_append, List.length_cons, List.length_nil, Try.ntmps46]; decide) ?_
  simp only [vsAll, loadA, loadRow, partA, partOk, fieldAddrA, indexAddrA, lenA, nilCheckA, opA, dstOk, nilSliceOp, argFr, Nat.reduceLT, Nat.reduceEqDiff, ↓reduceIte, reduceCtorEq, eq_self, wtAll, Try.ntmps46, stF_at]
  refine ⟨by omega, hs, ?_⟩
  refine vs_loop (σ := Nat) (fun i => i ≤ (x.st.getD s []).length ∧ ((x.st.getD s []).take i).all (fitM (x.ow.getD o [])) = true) (fun i => [(0, irP x S C m), (1, i64 o), (16, mksAV (x.st.getD s [])), (17, i64 (x.st.getD s []).length), (18, i64 i)]) (fun _ => H) (fun i => (x.st.getD s []).length - i) 0 ⟨Nat.zero_le _, rfl⟩ ?_ ?_ fun i hi => ?_
  · simp only [vsAll, argFr, Nat.reduceEqDiff, ↓reduceIte, reduceCtorEq, eq_self, Int.natCast_zero]
  · (repeat (first | exact HSub_rfl | refine HSub_put_eq (by simp only [vsAll, binA, binLitA, intA, aggA, boolA, nilA2, isConst, unA, loadA, loadRow, partA, partOk, fieldAddrA, indexAddrA, indexA, fieldA, extractA, lenA, nilCheckA, boxA, cellA, cellsA, fillA, okParts, buildSliceA, buildMutA, makeSliceA, partIdx, elemsA, lensA, ifaceA, convA, mmA, pickA, okAll, stAll, opsA, partsA, partsOk, opA, allocA, boxMutA, newCells, okCells, storeObj, appendA, guardV, taA, nM, mapUpA, lookA, sliceA, boundsA, opO, okO, copyA, dstOk, nilA, quietOk, nilSliceOp, panA, resA, argFr, retA.eq_1, retA.eq_2, Nat.reduceAdd, Nat.reduceSub, Nat.reduceMul, Nat.reduceLT, Nat.reduceLeDiff, Nat.reduceEqDiff, Nat.reduceBEq, Int.reduceAdd, Int.reduceSub, Int.reduceMul, Int.reduceNeg, Int.reduceLE, Int.reduceLT, Int.reduceEq, Int.reduceNe, Int.reduceToNat, ↓reduceIte, reduceCtorEq, implies_true, forall_const, eq_self, ne_eq, wtAll, Try.ntmps46, Try.results46]) ?_ | refine HSub_drop2 (by simp only [vsAll, binA, binLitA, intA, aggA, boolA, nilA2, isConst, unA, loadA, loadRow, partA, partOk, fieldAddrA, indexAddrA, indexA, fieldA, extractA, lenA, nilCheckA, boxA, cellA, cellsA, fillA, okParts, buildSliceA, buildMutA, makeSliceA, partIdx, elemsA, lensA, ifaceA, convA, mmA, pickA, okAll, stAll, opsA, partsA, partsOk, opA, allocA, boxMutA, newCells, okCells, storeObj, appendA, guardV, taA, nM, mapUpA, lookA, sliceA, boundsA, opO, okO, copyA, dstOk, nilA, quietOk, nilSliceOp, panA, resA, argFr, retA.eq_1, retA.eq_2, Nat.reduceAdd, Nat.reduceSub, Nat.reduceMul, Nat.reduceLT, Nat.reduceLeDiff, Nat.reduceEqDiff, Nat.reduceBEq, Int.reduceAdd, Int.reduceSub, Int.reduceMul, Int.reduceNeg, Int.reduceLE, Int.reduceLT, Int.reduceEq, Int.reduceNe, Int.reduceToNat, ↓reduceIte, reduceCtorEq, implies_true, forall_const, eq_self, ne_eq, wtAll, Try.ntmps46, Try.results46]) ?_ | refine HSub_keep_eq (by simp only [vsAll, binA, binLitA, intA, aggA, boolA, nilA2, isConst, unA, loadA, loadRow, partA, partOk, fieldAddrA, indexAddrA, indexA, fieldA, extractA, lenA, nilCheckA, boxA, cellA, cellsA, fillA, okParts, buildSliceA, buildMutA, makeSliceA, partIdx, elemsA, lensA, ifaceA, convA, mmA, pickA, okAll, stAll, opsA, partsA, partsOk, opA, allocA, boxMutA, newCells, okCells, storeObj, appendA, guardV, taA, nM, mapUpA, lookA, sliceA, boundsA, opO, okO, copyA, dstOk, nilA, quietOk, nilSliceOp, panA, resA, argFr, retA.eq_1, retA.eq_2, Nat.reduceAdd, Nat.reduceSub, Nat.reduceMul, Nat.reduceLT, Nat.reduceLeDiff, Nat.reduceEqDiff, Nat.reduceBEq, Int.reduceAdd, Int.reduceSub, Int.reduceMul, Int.reduceNeg, Int.reduceLE, Int.reduceLT, Int.reduceEq, Int.reduceNe, Int.reduceToNat, ↓reduceIte, reduceCtorEq, implies_true, forall_const, eq_self, ne_eq, wtAll, Try.ntmps46, Try.results46]) ?_))
  · obtain ⟨hi, hall⟩ := hi
    simp only [vsAll, binA, binLitA, intA, opA, dstOk, Nat.reduceLT, Nat.reduceEqDiff, ↓reduceIte, reduceCtorEq, eq_self]
    refine condD (fun hd => ?_) (fun hd => ?_)
    · have hat := all_take (x.st.getD s []) (fitM (x.ow.getD o [])) mk0 i (by omega)
      have hno := @all_no _ (x.st.getD s []) (fitM (x.ow.getD o [])) mk0 i (by omega)
      have hf := k.sf s hs i (by omega)
      have hw := k.ow o ho
      simp only [vsAll, loadA, loadRow, partA, partOk, indexAddrA, cellA, cellsA, opA, allocA, newCells, okCells, storeObj, dstOk, Nat.reduceAdd, Nat.reduceLT, Nat.reduceEqDiff, ↓reduceIte, reduceCtorEq, eq_self, wtAll, mkF_at]
      refine ⟨by omega, by omega, ?_⟩
      intro i8 hh_i8; (try simp only [Hp.set_none, ite_none] at hh_i8)
      rw [Hp.set_set]
      refine vs_draw 18 (by decide +kernel) ?_
      simp only [vsAll, loadA, loadRow, partA, partOk, fieldAddrA, indexAddrA, nilCheckA, opA, dstOk, Nat.reduceLT, Nat.reduceEqDiff, ↓reduceIte, reduceCtorEq, eq_self, wtAll, llF_at, intF_at]
      refine ⟨⟨by ((try clear hh_i8); omega), by ((try clear hh_i8); omega)⟩, ho, ⟨by ((try clear hh_i8); omega), by ((try clear hh_i8); omega)⟩, by ((try clear hh_i8); omega), ?_⟩
      refine qcall _ ⟨trivial, by simp only [vsAll, okAll, opsA, opA, Nat.reduceEqDiff, ↓reduceIte, eq_self], within_tri _ _ _ _⟩ ?_
      simp only [vsAll, unA, opA, dstOk, Nat.reduceLT, ↓reduceIte, eq_self]
      refine condV (fun hc => ?_) (fun hc => ?_)
      · have hfm : fitM (x.ow.getD o []) ((x.st.getD s []).getD i mk0) = false := by rw [Bool.not_eq_true'] at hc; exact hc
        have hr : fitB x o s = false := hno hfm
        simp only [vsAll, opA, dstOk, nilSliceOp, Nat.reduceLT, eq_self]
        refine ret0 ?_
        simp only [vsAll, resA, retA.eq_1, ↓reduceIte, eq_self, Try.results46, hr]
        exact dropR_pure rfl (by (repeat (first | exact HSub_rfl | refine HSub_put_eq (by simp only [vsAll, binA, binLitA, intA, aggA, boolA, nilA2, isConst, unA, loadA, loadRow, partA, partOk, fieldAddrA, indexAddrA, indexA, fieldA, extractA, lenA, nilCheckA, boxA, cellA, cellsA, fillA, okParts, buildSliceA, buildMutA, makeSliceA, partIdx, elemsA, lensA, ifaceA, convA, mmA, pickA, okAll, stAll, opsA, partsA, partsOk, opA, allocA, boxMutA, newCells, okCells, storeObj, appendA, guardV, taA, nM, mapUpA, lookA, sliceA, boundsA, opO, okO, copyA, dstOk, nilA, quietOk, nilSliceOp, panA, resA, argFr, retA.eq_1, retA.eq_2, Nat.reduceAdd, Nat.reduceSub, Nat.reduceMul, Nat.reduceLT, Nat.reduceLeDiff, Nat.reduceEqDiff, Nat.reduceBEq, Int.reduceAdd, Int.reduceSub, Int.reduceMul, Int.reduceNeg, Int.reduceLE, Int.reduceLT, Int.reduceEq, Int.reduceNe, Int.reduceToNat, ↓reduceIte, reduceCtorEq, implies_true, forall_const, eq_self, ne_eq, wtAll, Try.ntmps46, Try.results46, hh_i8]) ?_ | refine HSub_drop2 (by simp only [eq_self, hh_i8]) ?_ | refine HSub_keep_eq (by simp only [vsAll, binA, binLitA, intA, aggA, boolA, nilA2, isConst, unA, loadA, loadRow, partA, partOk, fieldAddrA, indexAddrA, indexA, fieldA, extractA, lenA, nilCheckA, boxA, cellA, cellsA, fillA, okParts, buildSliceA, buildMutA, makeSliceA, partIdx, elemsA, lensA, ifaceA, convA, mmA, pickA, okAll, stAll, opsA, partsA, partsOk, opA, allocA, boxMutA, newCells, okCells, storeObj, appendA, guardV, taA, nM, mapUpA, lookA, sliceA, boundsA, opO, okO, copyA, dstOk, nilA, quietOk, nilSliceOp, panA, resA, argFr, retA.eq_1, retA.eq_2, Nat.reduceAdd, Nat.reduceSub, Nat.reduceMul, Nat.reduceLT, Nat.reduceLeDiff, Nat.reduceEqDiff, Nat.reduceBEq, Int.reduceAdd, Int.reduceSub, Int.reduceMul, Int.reduceNeg, Int.reduceLE, Int.reduceLT, Int.reduceEq, Int.reduceNe, Int.reduceToNat, ↓reduceIte, reduceCtorEq, implies_true, forall_const, eq_self, ne_eq, wtAll, Try.ntmps46, Try.results46, hh_i8]) ?_)))
      · have hfm : fitM (x.ow.getD o []) ((x.st.getD s []).getD i mk0) = true := by rw [Bool.not_eq_false'] at hc; exact hc
        rw [hall, hfm] at hat
        simp only [vsAll, binA, binLitA, intA, opA, dstOk, Nat.reduceLT, Nat.reduceEqDiff, ↓reduceIte, reduceCtorEq, eq_self]
        refine ⟨by simp only [InR_i64]; ((try clear hh_i8); omega), loop_next (i + 1) ⟨by ((try clear hh_i8); omega), hat⟩ (by ((try clear hh_i8); omega)) ?_ ?_⟩
        · simp only [vsAll, Nat.reduceEqDiff, ↓reduceIte, reduceCtorEq, eq_self, Int.natCast_add, Int.natCast_one]
        · (repeat (first | exact HSub_rfl | refine HSub_put_eq (by simp only [vsAll, binA, binLitA, intA, aggA, boolA, nilA2, isConst, unA, loadA, loadRow, partA, partOk, fieldAddrA, indexAddrA, indexA, fieldA, extractA, lenA, nilCheckA, boxA, cellA, cellsA, fillA, okParts, buildSliceA, buildMutA, makeSliceA, partIdx, elemsA, lensA, ifaceA, convA, mmA, pickA, okAll, stAll, opsA, partsA, partsOk, opA, allocA, boxMutA, newCells, okCells, storeObj, appendA, guardV, taA, nM, mapUpA, lookA, sliceA, boundsA, opO, okO, copyA, dstOk, nilA, quietOk, nilSliceOp, panA, resA, argFr, retA.eq_1, retA.eq_2, Nat.reduceAdd, Nat.reduceSub, Nat.reduceMul, Nat.reduceLT, Nat.reduceLeDiff, Nat.reduceEqDiff, Nat.reduceBEq, Int.reduceAdd, Int.reduceSub, Int.reduceMul, Int.reduceNeg, Int.reduceLE, Int.reduceLT, Int.reduceEq, Int.reduceNe, Int.reduceToNat, ↓reduceIte, reduceCtorEq, implies_true, forall_const, eq_self, ne_eq, wtAll, Try.ntmps46, Try.results46, hh_i8]) ?_ | refine HSub_drop2 (by simp only [eq_self, hh_i8]) ?_ | refine HSub_keep_eq (by simp only [vsAll, binA, binLitA, intA, aggA, boolA, nilA2, isConst, unA, loadA, loadRow, partA, partOk, fieldAddrA, indexAddrA, indexA, fieldA, extractA, lenA, nilCheckA, boxA, cellA, cellsA, fillA, okParts, buildSliceA, buildMutA, makeSliceA, partIdx, elemsA, lensA, ifaceA, convA, mmA, pickA, okAll, stAll, opsA, partsA, partsOk, opA, allocA, boxMutA, newCells, okCells, storeObj, appendA, guardV, taA, nM, mapUpA, lookA, sliceA, boundsA, opO, okO, copyA, dstOk, nilA, quietOk, nilSliceOp, panA, resA, argFr, retA.eq_1, retA.eq_2, Nat.reduceAdd, Nat.reduceSub, Nat.reduceMul, Nat.reduceLT, Nat.reduceLeDiff, Nat.reduceEqDiff, Nat.reduceBEq, Int.reduceAdd, Int.reduceSub, Int.reduceMul, Int.reduceNeg, Int.reduceLE, Int.reduceLT, Int.reduceEq, Int.reduceNe, Int.reduceToNat, ↓reduceIte, reduceCtorEq, implies_true, forall_const, eq_self, ne_eq, wtAll, Try.ntmps46, Try.results46, hh_i8]) ?_))
    · have ei : i = (x.st.getD s []).length := by omega
      have hr : fitB x o s = true := by rw [ei, List.take_length] at hall; exact hall
      simp only [vsAll, opA, dstOk, nilSliceOp, Nat.reduceLT, ↓reduceIte, eq_self]
      refine ret0 ?_
      simp only [vsAll, resA, retA.eq_1, ↓reduceIte, eq_self, Try.results46, hr]
      exact dropR_pure rfl (by (repeat (first | exact HSub_rfl | refine HSub_put_eq (by simp only [vsAll, binA, binLitA, intA, aggA, boolA, nilA2, isConst, unA, loadA, loadRow, partA, partOk, fieldAddrA, indexAddrA, indexA, fieldA, extractA, lenA, nilCheckA, boxA, cellA, cellsA, fillA, okParts, buildSliceA, buildMutA, makeSliceA, partIdx, elemsA, lensA, ifaceA, convA, mmA, pickA, okAll, stAll, opsA, partsA, partsOk, opA, allocA, boxMutA, newCells, okCells, storeObj, appendA, guardV, taA, nM, mapUpA, lookA, sliceA, boundsA, opO, okO, copyA, dstOk, nilA, quietOk, nilSliceOp, panA, resA, argFr, retA.eq_1, retA.eq_2, Nat.reduceAdd, Nat.reduceSub, Nat.reduceMul, Nat.reduceLT, Nat.reduceLeDiff, Nat.reduceEqDiff, Nat.reduceBEq, Int.reduceAdd, Int.reduceSub, Int.reduceMul, Int.reduceNeg, Int.reduceLE, Int.reduceLT, Int.reduceEq, Int.reduceNe, Int.reduceToNat, ↓reduceIte, reduceCtorEq, implies_true, forall_const, eq_self, ne_eq, wtAll, Try.ntmps46, Try.results46]) ?_ | refine HSub_drop2 (by simp only [vsAll, binA, binLitA, intA, aggA, boolA, nilA2, isConst, unA, loadA, loadRow, partA, partOk, fieldAddrA, indexAddrA, indexA, fieldA, extractA, lenA, nilCheckA, boxA, cellA, cellsA, fillA, okParts, buildSliceA, buildMutA, makeSliceA, partIdx, elemsA, lensA, ifaceA, convA, mmA, pickA, okAll, stAll, opsA, partsA, partsOk, opA, allocA, boxMutA, newCells, okCells, storeObj, appendA, guardV, taA, nM, mapUpA, lookA, sliceA, boundsA, opO, okO, copyA, dstOk, nilA, quietOk, nilSliceOp, panA, resA, argFr, retA.eq_1, retA.eq_2, Nat.reduceAdd, Nat.reduceSub, Nat.reduceMul, Nat.reduceLT, Nat.reduceLeDiff, Nat.reduceEqDiff, Nat.reduceBEq, Int.reduceAdd, Int.reduceSub, Int.reduceMul, Int.reduceNeg, Int.reduceLE, Int.reduceLT, Int.reduceEq, Int.reduceNe, Int.reduceToNat, ↓reduceIte, reduceCtorEq, implies_true, forall_const, eq_self, ne_eq, wtAll, Try.ntmps46, Try.results46]) ?_ | refine HSub_keep_eq (by simp only [vsAll, binA, binLitA, intA, aggA, boolA, nilA2, isConst, unA, loadA, loadRow, partA, partOk, fieldAddrA, indexAddrA, indexA, fieldA, extractA, lenA, nilCheckA, boxA, cellA, cellsA, fillA, okParts, buildSliceA, buildMutA, makeSliceA, partIdx, elemsA, lensA, ifaceA, convA, mmA, pickA, okAll, stAll, opsA, partsA, partsOk, opA, allocA, boxMutA, newCells, okCells, storeObj, appendA, guardV, taA, nM, mapUpA, lookA, sliceA, boundsA, opO, okO, copyA, dstOk, nilA, quietOk, nilSliceOp, panA, resA, argFr, retA.eq_1, retA.eq_2, Nat.reduceAdd, Nat.reduceSub, Nat.reduceMul, Nat.reduceLT, Nat.reduceLeDiff, Nat.reduceEqDiff, Nat.reduceBEq, Int.reduceAdd, Int.reduceSub, Int.reduceMul, Int.reduceNeg, Int.reduceLE, Int.reduceLT, Int.reduceEq, Int.reduceNe, Int.reduceToNat, ↓reduceIte, reduceCtorEq, implies_true, forall_const, eq_self, ne_eq, wtAll, Try.ntmps46, Try.results46]) ?_)))

abbrev isStrakeF (n : Int) : AV := .func (.func 78) [] [bx n]
theorem isStrakeF_tri (n : Int) (H : Hp) : PTri Try.prog (fnA 45) [i64 n] H (isStrakeF n) := by
  refine tri_v0 (fun _ => false) Try.func45 (by kernel_rfl) rfl (by simp only [List.length_append, List.length_cons, List.length_nil, Try.ntmps45]; decide) ?_
  simp only [vsAll, boxA, cellA, okAll, stAll, opsA, opA, dstOk, nilSliceOp, resA, argFr, retA.eq_1, Nat.reduceLT, Nat.reduceEqDiff, ↓reduceIte, eq_self, Try.ntmps45, Try.results45]
theorem isStrake1_tri (x : Ir) (S C : Nat) (m : Bool) (n : Int) (H : Hp) (kn : Near x) : PTri Try.prog (isStrakeF n) [irP x S C m] H (boo (strB x n)) := by
  refine tri_v0 (fun _ => false) Try.func78 (by kernel_rfl) rfl (by simp only [List.length_append, List.length_cons, List.length_nil, Try.ntmps78]; decide) ?_
  simp only [vsAll, loadA, loadRow, partA, partOk, okAll, stAll, opsA, opA, dstOk, nilSliceOp, argFr, Nat.reduceLT, Nat.reduceEqDiff, ↓reduceIte, reduceCtorEq, eq_self, wtAll, Try.ntmps78]
  refine callK_pure (isStrake_tri x S C m n _ kn) ?_
  simp only [vsAll, opA, dstOk, nilSliceOp, resA, retA.eq_1, Nat.reduceLT, ↓reduceIte, eq_self, Try.results78]
theorem always_tri (y : AV) (H : Hp) : PTri Try.prog (fnA 51) [y] H (boo true) := by
  refine tri_v0 (fun _ => false) Try.func51 (by kernel_rfl) rfl (by simp only [List.length_append, List.length_cons, List.length_nil, Try.ntmps51]; decide) ?_
  simp only [vsAll, opA, dstOk, nilSliceOp, resA, retA.eq_1, Nat.reduceLT, ↓reduceIte, eq_self, Try.ntmps51, Try.results51]
theorem errE_no {x : Ir} (hno : ¬ Ok x) (v t : Bool) : errE x v t = 1 := by unfold errE; rw [if_neg hno]
theorem errE_bad {x : Ir} (k : Ok x) (t : Bool) : errE x false t = 2 := by unfold errE; rw [if_pos k, if_neg (by decide)]
theorem errE_ok {x : Ir} (k : Ok x) : errE x true false = 0 := by unfold errE; rw [if_pos k, if_pos rfl, if_neg (fun q => by cases q.1)]
/-- A call of open, by its outcomes. -/
theorem open_call {x : Ir} {fv : AV} {v : Bool} {H : Hp} {K : AV → Hp → Prop} {Kp : AV → Hp → Prop} (ht : Tri Try.prog (fnA 44) [x.av, fv] H (openR x v H))
    (h1 : ¬ Ok x → Kp (.iface 92 (i64 1)) H) (h2 : Ok x → v = false → Kp (.iface 92 (i64 2)) H) (h3 : Ok x → v = true → K (irP x (fullS x) (fullC x) false) H) : CallK Try.prog (fnA 44) [x.av, fv] H K Kp := by
  refine ⟨_, ht, fun r H' hr => ?_⟩
  obtain ⟨rfl, hr⟩ := hr
  split at hr
  · rename_i hk
    split at hr
    · rename_i hv
      subst hr
      exact h3 hk hv
    · rename_i hv
      subst hr
      exact h2 hk (by simpa using hv)
  · rename_i hk
    subst hr
    exact h1 hk

theorem or_bit (a n : Nat) (h : a < 2 ^ n) : a ||| 2 ^ n = a + 2 ^ n := by
  have := Nat.two_pow_add_eq_or_of_lt h 1
  rw [Nat.mul_one] at this
  rw [Nat.or_comm, ← this]; omega
theorem wfits_tri (x : Ir) (s : Int) (H : Hp) (kn : Near x) : PTri Try.prog (fnA 15) [x.av, i64 s] H (.tuple [i64 (fitsV x s : Nat), i64 (fitsE x s)]) := by
  refine Tri.drop ?_
  refine tri_a (m := fun _ => false) ans43 Try.func15 (by kernel_rfl) rfl (by simp only [List.length_append, List.length_cons, List.length_nil, Try.ntmps15]; decide) ?_
  simp only [vsAll, boxA, okAll, stAll, opsA, opA, allocA, dstOk, nilSliceOp, argFr, Nat.reduceAdd, Nat.reduceLT, ↓reduceIte, eq_self, wtAll, Try.ntmps15]
  intro i5 hh_i5; (try simp only [Hp.set_none, ite_none] at hh_i5)
  refine vs_draw2 [0, 0, 0, 1, 2, 2] [([0, 1, 2], [], 3)] [4, 5] (by decide +kernel) ?_
  simp only [vsAll, loadA, loadRow, partA, partOk, opA, dstOk, argFr, Nat.reduceLT, Nat.reduceEqDiff, ↓reduceIte, eq_self, wtAll]
  refine qcall _ ⟨trivial, by simp only [vsAll, okAll, opsA, opA, ↓reduceIte, eq_self], isStrakeF_tri s _⟩ ?_
  simp only [vsAll, okAll, stAll, opsA, opA, dstOk, Nat.reduceLT, Nat.reduceEqDiff, ↓reduceIte, eq_self]
  refine open_call (open_tri x _ (strB x s) _ kn trivial rfl (fun hk H' => isStrake1_tri x _ _ _ s H' kn)) (fun hno => ?_) (fun hk hv => ?_) (fun hk hv => ?_)
  · have e : fitsE x s = 1 := errE_no hno _ _
    have ev : fitsV x s = 0 := by simp only [fitsV, e]; rfl
    simp only [vsAll]
    refine ⟨1, i5, _, rfl, rfl, by simp only [vsAll, ↓reduceIte, eq_self]; try rfl, ?_⟩
    simp only [vsAll, loadA, loadRow, partA, partOk, resA, retA.eq_2, Nat.reduceLT, Nat.reduceEqDiff, ↓reduceIte, eq_self, wtAll, Try.results15]
    refine dropR_pure ?_ (by (repeat (first | exact HSub_rfl | refine HSub_put_eq (by simp only [vsAll, binA, binLitA, intA, aggA, boolA, nilA2, isConst, unA, loadA, loadRow, partA, partOk, fieldAddrA, indexAddrA, indexA, fieldA, extractA, lenA, nilCheckA, boxA, cellA, cellsA, fillA, okParts, buildSliceA, buildMutA, makeSliceA, partIdx, elemsA, lensA, ifaceA, convA, mmA, pickA, okAll, stAll, opsA, partsA, partsOk, opA, allocA, boxMutA, newCells, okCells, storeObj, appendA, guardV, taA, nM, mapUpA, lookA, sliceA, boundsA, opO, okO, copyA, dstOk, nilA, quietOk, nilSliceOp, panA, resA, argFr, retA.eq_1, retA.eq_2, Nat.reduceAdd, Nat.reduceSub, Nat.reduceMul, Nat.reduceLT, Nat.reduceLeDiff, Nat.reduceEqDiff, Nat.reduceBEq, Int.reduceAdd, Int.reduceSub, Int.reduceMul, Int.reduceNeg, Int.reduceLE, Int.reduceLT, Int.reduceEq, Int.reduceNe, Int.reduceToNat, ↓reduceIte, reduceCtorEq, implies_true, forall_const, eq_self, ne_eq, wtAll, Try.ntmps15, Try.results15, hh_i5]) ?_ | refine HSub_drop2 (by simp only [eq_self, hh_i5]) ?_ | refine HSub_keep_eq (by simp only [vsAll, binA, binLitA, intA, aggA, boolA, nilA2, isConst, unA, loadA, loadRow, partA, partOk, fieldAddrA, indexAddrA, indexA, fieldA, extractA, lenA, nilCheckA, boxA, cellA, cellsA, fillA, okParts, buildSliceA, buildMutA, makeSliceA, partIdx, elemsA, lensA, ifaceA, convA, mmA, pickA, okAll, stAll, opsA, partsA, partsOk, opA, allocA, boxMutA, newCells, okCells, storeObj, appendA, guardV, taA, nM, mapUpA, lookA, sliceA, boundsA, opO, okO, copyA, dstOk, nilA, quietOk, nilSliceOp, panA, resA, argFr, retA.eq_1, retA.eq_2, Nat.reduceAdd, Nat.reduceSub, Nat.reduceMul, Nat.reduceLT, Nat.reduceLeDiff, Nat.reduceEqDiff, Nat.reduceBEq, Int.reduceAdd, Int.reduceSub, Int.reduceMul, Int.reduceNeg, Int.reduceLE, Int.reduceLT, Int.reduceEq, Int.reduceNe, Int.reduceToNat, ↓reduceIte, reduceCtorEq, implies_true, forall_const, eq_self, ne_eq, wtAll, Try.ntmps15, Try.results15, hh_i5]) ?_)))
    simp only [eq_self, ev, e, Int.natCast_zero]
  · have e : fitsE x s = 2 := by unfold fitsE; rw [hv]; exact errE_bad hk _
    have ev : fitsV x s = 0 := by simp only [fitsV, e]; rfl
    simp only [vsAll]
    refine ⟨2, i5, _, rfl, rfl, by simp only [vsAll, ↓reduceIte, eq_self]; try rfl, ?_⟩
    simp only [vsAll, loadA, loadRow, partA, partOk, resA, retA.eq_2, Nat.reduceLT, Nat.reduceEqDiff, ↓reduceIte, eq_self, wtAll, Try.results15]
    refine dropR_pure ?_ (by (repeat (first | exact HSub_rfl | refine HSub_put_eq (by simp only [vsAll, binA, binLitA, intA, aggA, boolA, nilA2, isConst, unA, loadA, loadRow, partA, partOk, fieldAddrA, indexAddrA, indexA, fieldA, extractA, lenA, nilCheckA, boxA, cellA, cellsA, fillA, okParts, buildSliceA, buildMutA, makeSliceA, partIdx, elemsA, lensA, ifaceA, convA, mmA, pickA, okAll, stAll, opsA, partsA, partsOk, opA, allocA, boxMutA, newCells, okCells, storeObj, appendA, guardV, taA, nM, mapUpA, lookA, sliceA, boundsA, opO, okO, copyA, dstOk, nilA, quietOk, nilSliceOp, panA, resA, argFr, retA.eq_1, retA.eq_2, Nat.reduceAdd, Nat.reduceSub, Nat.reduceMul, Nat.reduceLT, Nat.reduceLeDiff, Nat.reduceEqDiff, Nat.reduceBEq, Int.reduceAdd, Int.reduceSub, Int.reduceMul, Int.reduceNeg, Int.reduceLE, Int.reduceLT, Int.reduceEq, Int.reduceNe, Int.reduceToNat, ↓reduceIte, reduceCtorEq, implies_true, forall_const, eq_self, ne_eq, wtAll, Try.ntmps15, Try.results15, hh_i5]) ?_ | refine HSub_drop2 (by simp only [eq_self, hh_i5]) ?_ | refine HSub_keep_eq (by simp only [vsAll, binA, binLitA, intA, aggA, boolA, nilA2, isConst, unA, loadA, loadRow, partA, partOk, fieldAddrA, indexAddrA, indexA, fieldA, extractA, lenA, nilCheckA, boxA, cellA, cellsA, fillA, okParts, buildSliceA, buildMutA, makeSliceA, partIdx, elemsA, lensA, ifaceA, convA, mmA, pickA, okAll, stAll, opsA, partsA, partsOk, opA, allocA, boxMutA, newCells, okCells, storeObj, appendA, guardV, taA, nM, mapUpA, lookA, sliceA, boundsA, opO, okO, copyA, dstOk, nilA, quietOk, nilSliceOp, panA, resA, argFr, retA.eq_1, retA.eq_2, Nat.reduceAdd, Nat.reduceSub, Nat.reduceMul, Nat.reduceLT, Nat.reduceLeDiff, Nat.reduceEqDiff, Nat.reduceBEq, Int.reduceAdd, Int.reduceSub, Int.reduceMul, Int.reduceNeg, Int.reduceLE, Int.reduceLT, Int.reduceEq, Int.reduceNe, Int.reduceToNat, ↓reduceIte, reduceCtorEq, implies_true, forall_const, eq_self, ne_eq, wtAll, Try.ntmps15, Try.results15, hh_i5]) ?_)))
    simp only [eq_self, ev, e, Int.natCast_zero]
  · have e : fitsE x s = 0 := by unfold fitsE; rw [hv]; exact errE_ok hk
    rw [strB_iff] at hv
    have nO := hk.nO
    obtain ⟨q, rfl⟩ : ∃ q : Nat, s = (q : Int) := ⟨s.toNat, by ((try clear hh_i5); omega)⟩
    simp only [vsAll, loadA, loadRow, partA, partOk, fieldAddrA, lenA, opA, dstOk, Nat.reduceLT, Nat.reduceEqDiff, ↓reduceIte, eq_self, wtAll]
    refine vs_loop (σ := Nat) (fun i => i ≤ x.ow.length) (fun i => [(1, i64 q), (5, .ref i5 0 1 0 0), (6, irP x (fullS x) (fullC x) false), (7, i64 (fitsN x q i : Nat)), (15, i64 x.ow.length), (16, i64 i)]) (fun _ => H.set i5 (.box 1 1 fun _ => [i64 0])) (fun i => x.ow.length - i) 0 (Nat.zero_le _) ?_ ?_ fun i hi => ?_
    · simp only [vsAll, argFr, Nat.reduceEqDiff, ↓reduceIte, eq_self, Int.natCast_zero, fitsN]
    · (repeat (first | exact HSub_rfl | refine HSub_put_eq (by simp only [vsAll, binA, binLitA, intA, aggA, boolA, nilA2, isConst, unA, loadA, loadRow, partA, partOk, fieldAddrA, indexAddrA, indexA, fieldA, extractA, lenA, nilCheckA, boxA, cellA, cellsA, fillA, okParts, buildSliceA, buildMutA, makeSliceA, partIdx, elemsA, lensA, ifaceA, convA, mmA, pickA, okAll, stAll, opsA, partsA, partsOk, opA, allocA, boxMutA, newCells, okCells, storeObj, appendA, guardV, taA, nM, mapUpA, lookA, sliceA, boundsA, opO, okO, copyA, dstOk, nilA, quietOk, nilSliceOp, panA, resA, argFr, retA.eq_1, retA.eq_2, Nat.reduceAdd, Nat.reduceSub, Nat.reduceMul, Nat.reduceLT, Nat.reduceLeDiff, Nat.reduceEqDiff, Nat.reduceBEq, Int.reduceAdd, Int.reduceSub, Int.reduceMul, Int.reduceNeg, Int.reduceLE, Int.reduceLT, Int.reduceEq, Int.reduceNe, Int.reduceToNat, ↓reduceIte, reduceCtorEq, implies_true, forall_const, eq_self, ne_eq, wtAll, Try.ntmps15, Try.results15, hh_i5]) ?_ | refine HSub_drop2 (by simp only [vsAll, binA, binLitA, intA, aggA, boolA, nilA2, isConst, unA, loadA, loadRow, partA, partOk, fieldAddrA, indexAddrA, indexA, fieldA, extractA, lenA, nilCheckA, boxA, cellA, cellsA, fillA, okParts, buildSliceA, buildMutA, makeSliceA, partIdx, elemsA, lensA, ifaceA, convA, mmA, pickA, okAll, stAll, opsA, partsA, partsOk, opA, allocA, boxMutA, newCells, okCells, storeObj, appendA, guardV, taA, nM, mapUpA, lookA, sliceA, boundsA, opO, okO, copyA, dstOk, nilA, quietOk, nilSliceOp, panA, resA, argFr, retA.eq_1, retA.eq_2, Nat.reduceAdd, Nat.reduceSub, Nat.reduceMul, Nat.reduceLT, Nat.reduceLeDiff, Nat.reduceEqDiff, Nat.reduceBEq, Int.reduceAdd, Int.reduceSub, Int.reduceMul, Int.reduceNeg, Int.reduceLE, Int.reduceLT, Int.reduceEq, Int.reduceNe, Int.reduceToNat, ↓reduceIte, reduceCtorEq, implies_true, forall_const, eq_self, ne_eq, wtAll, Try.ntmps15, Try.results15, hh_i5]) ?_ | refine HSub_keep_eq (by simp only [vsAll, binA, binLitA, intA, aggA, boolA, nilA2, isConst, unA, loadA, loadRow, partA, partOk, fieldAddrA, indexAddrA, indexA, fieldA, extractA, lenA, nilCheckA, boxA, cellA, cellsA, fillA, okParts, buildSliceA, buildMutA, makeSliceA, partIdx, elemsA, lensA, ifaceA, convA, mmA, pickA, okAll, stAll, opsA, partsA, partsOk, opA, allocA, boxMutA, newCells, okCells, storeObj, appendA, guardV, taA, nM, mapUpA, lookA, sliceA, boundsA, opO, okO, copyA, dstOk, nilA, quietOk, nilSliceOp, panA, resA, argFr, retA.eq_1, retA.eq_2, Nat.reduceAdd, Nat.reduceSub, Nat.reduceMul, Nat.reduceLT, Nat.reduceLeDiff, Nat.reduceEqDiff, Nat.reduceBEq, Int.reduceAdd, Int.reduceSub, Int.reduceMul, Int.reduceNeg, Int.reduceLE, Int.reduceLT, Int.reduceEq, Int.reduceNe, Int.reduceToNat, ↓reduceIte, reduceCtorEq, implies_true, forall_const, eq_self, ne_eq, wtAll, Try.ntmps15, Try.results15, hh_i5]) ?_))
    · simp only [vsAll, binA, binLitA, intA, opA, dstOk, Nat.reduceLT, Nat.reduceEqDiff, ↓reduceIte, eq_self]
      refine condD (fun hd => ?_) (fun hd => ?_)
      · have hb := fitsN_lt x q i
        have hp : 2 ^ i ≤ 2 ^ 5 := Nat.pow_le_pow_right (by decide) (by ((try clear hh_i5); omega))
        have ep : (1 : Int) * 2 ^ i = ((2 ^ i : Nat) : Int) := by rw [Int.one_mul]; simp
        simp only [vsAll, okAll, stAll, opsA, opA, dstOk, nilSliceOp, Nat.reduceLT, Nat.reduceEqDiff, ↓reduceIte, eq_self]
        refine callK_pure (wfit_tri x _ _ _ i q _ hk.gd (by ((try clear hh_i5); omega)) (by ((try clear hh_i5); omega))) ?_
        simp only [vsAll, opA, ↓reduceIte, eq_self]
        refine condV (fun hf => ?_) (fun hf => ?_)
        · have e : fitsN x q (i + 1) = fitsN x q i + 2 ^ i := by simp only [fitsN, hf, if_true]
          simp only [vsAll, binA, binLitA, intA, opA, dstOk, nilSliceOp, Nat.reduceLT, Nat.reduceEqDiff, ↓reduceIte, eq_self, ep]
          have eo : fitsN x q i ||| 2 ^ i = fitsN x q (i + 1) := by rw [or_bit _ _ hb, e]
          refine ⟨⟨by ((try clear hh_i5); omega), by ((try clear hh_i5); omega), by simp only [InR_i64]; ((try clear hh_i5); omega)⟩, ⟨by ((try clear hh_i5); omega), by ((try clear hh_i5); omega), by simp only [InR_i64]; ((try clear hh_i5); omega), by simp only [InR_i64]; ((try clear hh_i5); omega)⟩, by simp only [InR_i64]; ((try clear hh_i5); omega), loop_next (i + 1) (by ((try clear hh_i5); omega)) (by ((try clear hh_i5); omega)) ?_ ?_⟩
          · simp only [vsAll, Nat.reduceEqDiff, ↓reduceIte, eq_self, Int.natCast_add, Int.natCast_one, eo]
          · (repeat (first | exact HSub_rfl | refine HSub_put_eq (by simp only [vsAll, binA, binLitA, intA, aggA, boolA, nilA2, isConst, unA, loadA, loadRow, partA, partOk, fieldAddrA, indexAddrA, indexA, fieldA, extractA, lenA, nilCheckA, boxA, cellA, cellsA, fillA, okParts, buildSliceA, buildMutA, makeSliceA, partIdx, elemsA, lensA, ifaceA, convA, mmA, pickA, okAll, stAll, opsA, partsA, partsOk, opA, allocA, boxMutA, newCells, okCells, storeObj, appendA, guardV, taA, nM, mapUpA, lookA, sliceA, boundsA, opO, okO, copyA, dstOk, nilA, quietOk, nilSliceOp, panA, resA, argFr, retA.eq_1, retA.eq_2, Nat.reduceAdd, Nat.reduceSub, Nat.reduceMul, Nat.reduceLT, Nat.reduceLeDiff, Nat.reduceEqDiff, Nat.reduceBEq, Int.reduceAdd, Int.reduceSub, Int.reduceMul, Int.reduceNeg, Int.reduceLE, Int.reduceLT, Int.reduceEq, Int.reduceNe, Int.reduceToNat, ↓reduceIte, reduceCtorEq, implies_true, forall_const, eq_self, ne_eq, wtAll, Try.ntmps15, Try.results15, hh_i5]) ?_ | refine HSub_drop2 (by simp only [vsAll, binA, binLitA, intA, aggA, boolA, nilA2, isConst, unA, loadA, loadRow, partA, partOk, fieldAddrA, indexAddrA, indexA, fieldA, extractA, lenA, nilCheckA, boxA, cellA, cellsA, fillA, okParts, buildSliceA, buildMutA, makeSliceA, partIdx, elemsA, lensA, ifaceA, convA, mmA, pickA, okAll, stAll, opsA, partsA, partsOk, opA, allocA, boxMutA, newCells, okCells, storeObj, appendA, guardV, taA, nM, mapUpA, lookA, sliceA, boundsA, opO, okO, copyA, dstOk, nilA, quietOk, nilSliceOp, panA, resA, argFr, retA.eq_1, retA.eq_2, Nat.reduceAdd, Nat.reduceSub, Nat.reduceMul, Nat.reduceLT, Nat.reduceLeDiff, Nat.reduceEqDiff, Nat.reduceBEq, Int.reduceAdd, Int.reduceSub, Int.reduceMul, Int.reduceNeg, Int.reduceLE, Int.reduceLT, Int.reduceEq, Int.reduceNe, Int.reduceToNat, ↓reduceIte, reduceCtorEq, implies_true, forall_const, eq_self, ne_eq, wtAll, Try.ntmps15, Try.results15, hh_i5]) ?_ | refine HSub_keep_eq (by simp only [vsAll, binA, binLitA, intA, aggA, boolA, nilA2, isConst, unA, loadA, loadRow, partA, partOk, fieldAddrA, indexAddrA, indexA, fieldA, extractA, lenA, nilCheckA, boxA, cellA, cellsA, fillA, okParts, buildSliceA, buildMutA, makeSliceA, partIdx, elemsA, lensA, ifaceA, convA, mmA, pickA, okAll, stAll, opsA, partsA, partsOk, opA, allocA, boxMutA, newCells, okCells, storeObj, appendA, guardV, taA, nM, mapUpA, lookA, sliceA, boundsA, opO, okO, copyA, dstOk, nilA, quietOk, nilSliceOp, panA, resA, argFr, retA.eq_1, retA.eq_2, Nat.reduceAdd, Nat.reduceSub, Nat.reduceMul, Nat.reduceLT, Nat.reduceLeDiff, Nat.reduceEqDiff, Nat.reduceBEq, Int.reduceAdd, Int.reduceSub, Int.reduceMul, Int.reduceNeg, Int.reduceLE, Int.reduceLT, Int.reduceEq, Int.reduceNe, Int.reduceToNat, ↓reduceIte, reduceCtorEq, implies_true, forall_const, eq_self, ne_eq, wtAll, Try.ntmps15, Try.results15, hh_i5]) ?_))
        · have e : fitsN x q (i + 1) = fitsN x q i := by simp only [fitsN, hf, Bool.false_eq_true, if_false, Nat.add_zero]
          simp only [vsAll, binA, binLitA, intA, opA, dstOk, Nat.reduceLT, Nat.reduceEqDiff, ↓reduceIte, eq_self]
          refine ⟨by simp only [InR_i64]; ((try clear hh_i5); omega), loop_next (i + 1) (by ((try clear hh_i5); omega)) (by ((try clear hh_i5); omega)) ?_ ?_⟩
          · simp only [vsAll, Nat.reduceEqDiff, ↓reduceIte, eq_self, Int.natCast_add, Int.natCast_one, e]
          · (repeat (first | exact HSub_rfl | refine HSub_put_eq (by simp only [vsAll, binA, binLitA, intA, aggA, boolA, nilA2, isConst, unA, loadA, loadRow, partA, partOk, fieldAddrA, indexAddrA, indexA, fieldA, extractA, lenA, nilCheckA, boxA, cellA, cellsA, fillA, okParts, buildSliceA, buildMutA, makeSliceA, partIdx, elemsA, lensA, ifaceA, convA, mmA, pickA, okAll, stAll, opsA, partsA, partsOk, opA, allocA, boxMutA, newCells, okCells, storeObj, appendA, guardV, taA, nM, mapUpA, lookA, sliceA, boundsA, opO, okO, copyA, dstOk, nilA, quietOk, nilSliceOp, panA, resA, argFr, retA.eq_1, retA.eq_2, Nat.reduceAdd, Nat.reduceSub, Nat.reduceMul, Nat.reduceLT, Nat.reduceLeDiff, Nat.reduceEqDiff, Nat.reduceBEq, Int.reduceAdd, Int.reduceSub, Int.reduceMul, Int.reduceNeg, Int.reduceLE, Int.reduceLT, Int.reduceEq, Int.reduceNe, Int.reduceToNat, ↓reduceIte, reduceCtorEq, implies_true, forall_const, eq_self, ne_eq, wtAll, Try.ntmps15, Try.results15, hh_i5]) ?_ | refine HSub_drop2 (by simp only [vsAll, binA, binLitA, intA, aggA, boolA, nilA2, isConst, unA, loadA, loadRow, partA, partOk, fieldAddrA, indexAddrA, indexA, fieldA, extractA, lenA, nilCheckA, boxA, cellA, cellsA, fillA, okParts, buildSliceA, buildMutA, makeSliceA, partIdx, elemsA, lensA, ifaceA, convA, mmA, pickA, okAll, stAll, opsA, partsA, partsOk, opA, allocA, boxMutA, newCells, okCells, storeObj, appendA, guardV, taA, nM, mapUpA, lookA, sliceA, boundsA, opO, okO, copyA, dstOk, nilA, quietOk, nilSliceOp, panA, resA, argFr, retA.eq_1, retA.eq_2, Nat.reduceAdd, Nat.reduceSub, Nat.reduceMul, Nat.reduceLT, Nat.reduceLeDiff, Nat.reduceEqDiff, Nat.reduceBEq, Int.reduceAdd, Int.reduceSub, Int.reduceMul, Int.reduceNeg, Int.reduceLE, Int.reduceLT, Int.reduceEq, Int.reduceNe, Int.reduceToNat, ↓reduceIte, reduceCtorEq, implies_true, forall_const, eq_self, ne_eq, wtAll, Try.ntmps15, Try.results15, hh_i5]) ?_ | refine HSub_keep_eq (by simp only [vsAll, binA, binLitA, intA, aggA, boolA, nilA2, isConst, unA, loadA, loadRow, partA, partOk, fieldAddrA, indexAddrA, indexA, fieldA, extractA, lenA, nilCheckA, boxA, cellA, cellsA, fillA, okParts, buildSliceA, buildMutA, makeSliceA, partIdx, elemsA, lensA, ifaceA, convA, mmA, pickA, okAll, stAll, opsA, partsA, partsOk, opA, allocA, boxMutA, newCells, okCells, storeObj, appendA, guardV, taA, nM, mapUpA, lookA, sliceA, boundsA, opO, okO, copyA, dstOk, nilA, quietOk, nilSliceOp, panA, resA, argFr, retA.eq_1, retA.eq_2, Nat.reduceAdd, Nat.reduceSub, Nat.reduceMul, Nat.reduceLT, Nat.reduceLeDiff, Nat.reduceEqDiff, Nat.reduceBEq, Int.reduceAdd, Int.reduceSub, Int.reduceMul, Int.reduceNeg, Int.reduceLE, Int.reduceLT, Int.reduceEq, Int.reduceNe, Int.reduceToNat, ↓reduceIte, reduceCtorEq, implies_true, forall_const, eq_self, ne_eq, wtAll, Try.ntmps15, Try.results15, hh_i5]) ?_))
      · have ei : i = x.ow.length := by ((try clear hh_i5); omega)
        have ev : fitsV x (q : Int) = fitsN x q i := by simp only [fitsV, e, if_true, Int.toNat_natCast, ei]
        simp only [vsAll, cellA, cellsA, opA, newCells, okCells, storeObj, dstOk, nilSliceOp, Nat.reduceLT, Nat.reduceEqDiff, ↓reduceIte, eq_self, wtAll]
        refine Ent.ret ⟨i5, _, rfl, by simp only [vsAll, ↓reduceIte, eq_self]; try rfl, ?_⟩
        simp only [vsAll, loadA, loadRow, partA, partOk, resA, retA.eq_2, Nat.reduceLT, Nat.reduceEqDiff, ↓reduceIte, eq_self, wtAll, Try.results15]
        refine dropR_pure ?_ (by (repeat (first | exact HSub_rfl | refine HSub_put_eq (by simp only [vsAll, binA, binLitA, intA, aggA, boolA, nilA2, isConst, unA, loadA, loadRow, partA, partOk, fieldAddrA, indexAddrA, indexA, fieldA, extractA, lenA, nilCheckA, boxA, cellA, cellsA, fillA, okParts, buildSliceA, buildMutA, makeSliceA, partIdx, elemsA, lensA, ifaceA, convA, mmA, pickA, okAll, stAll, opsA, partsA, partsOk, opA, allocA, boxMutA, newCells, okCells, storeObj, appendA, guardV, taA, nM, mapUpA, lookA, sliceA, boundsA, opO, okO, copyA, dstOk, nilA, quietOk, nilSliceOp, panA, resA, argFr, retA.eq_1, retA.eq_2, Nat.reduceAdd, Nat.reduceSub, Nat.reduceMul, Nat.reduceLT, Nat.reduceLeDiff, Nat.reduceEqDiff, Nat.reduceBEq, Int.reduceAdd, Int.reduceSub, Int.reduceMul, Int.reduceNeg, Int.reduceLE, Int.reduceLT, Int.reduceEq, Int.reduceNe, Int.reduceToNat, ↓reduceIte, reduceCtorEq, implies_true, forall_const, eq_self, ne_eq, wtAll, Try.ntmps15, Try.results15, hh_i5]) ?_ | refine HSub_drop2 (by simp only [eq_self, hh_i5]) ?_ | refine HSub_keep_eq (by simp only [vsAll, binA, binLitA, intA, aggA, boolA, nilA2, isConst, unA, loadA, loadRow, partA, partOk, fieldAddrA, indexAddrA, indexA, fieldA, extractA, lenA, nilCheckA, boxA, cellA, cellsA, fillA, okParts, buildSliceA, buildMutA, makeSliceA, partIdx, elemsA, lensA, ifaceA, convA, mmA, pickA, okAll, stAll, opsA, partsA, partsOk, opA, allocA, boxMutA, newCells, okCells, storeObj, appendA, guardV, taA, nM, mapUpA, lookA, sliceA, boundsA, opO, okO, copyA, dstOk, nilA, quietOk, nilSliceOp, panA, resA, argFr, retA.eq_1, retA.eq_2, Nat.reduceAdd, Nat.reduceSub, Nat.reduceMul, Nat.reduceLT, Nat.reduceLeDiff, Nat.reduceEqDiff, Nat.reduceBEq, Int.reduceAdd, Int.reduceSub, Int.reduceMul, Int.reduceNeg, Int.reduceLE, Int.reduceLT, Int.reduceEq, Int.reduceNe, Int.reduceToNat, ↓reduceIte, reduceCtorEq, implies_true, forall_const, eq_self, ne_eq, wtAll, Try.ntmps15, Try.results15, hh_i5]) ?_)))
        simp only [eq_self, ev, e]

end Go.Proofs.Ytkonoggmdcdeeaa
end
section
set_option linter.unusedVariables false
set_option linter.unusedSimpArgs false
namespace Go.V
theorem tri_inv {P : Program} {T : TypeId} {nm : String} {f : FuncId} {recv : AV} {args : List AV} {H : Hp} {R : Res → Hp → Prop} (hm : methT P T nm f) (h : Tri P (fnA f) (recv :: args) H R) :
    Tri P (.func (.method nm) [] []) (.iface T recv :: args) H R := by
  intro S vf vs hH hvf ha
  cases hvf with
  | @func _ _ _ ws us hn hu h1 h2 =>
    have hws : ws = #[] := by simpa using hn
    subst hws
    have hus : us = #[] := by simpa using hu
    subst hus
    obtain ⟨hlen, hall⟩ := ha
    cases vs with
    | nil => simp at hlen
    | cons x vs =>
      have hx := hall 0 (by simp)
      simp only [List.getD_cons_zero] at hx
      cases hx with
      | @iface _ _ cv hcv =>
        obtain ⟨nx, e1, e2⟩ := h S (.func (.func f) #[] #[]) (cv :: vs) hH (.func rfl rfl (fun k hk => absurd hk (by simp)) (fun k hk => absurd hk (by simp)))
          ⟨by simpa using hlen, fun k hk => by
            cases k with
            | zero => exact hcv
            | succ k => simpa using hall (k+1) (by simpa using hk)⟩
        refine ⟨nx, ?_, e2⟩
        rw [← e1]
        simp only [Deferred.ofValue, Sem.run_bind, Sem.run_pure, Result.andThen_ok, invoke]
        have a1 : (#[] ++ (Value.iface T cv :: vs).toArray : Array Value)[0]? = some (.iface T cv) := by simp
        have a2 : (#[] ++ (Value.iface T cv :: vs).toArray : Array Value).extract 1 (#[] ++ (Value.iface T cv :: vs).toArray : Array Value).size = vs.toArray := by
          apply Array.toList_inj.1; simp
        simp only [a1, a2, hm cv vs.toArray S.w]
        congr 2
        simp
end Go.V
end
section
set_option linter.unusedVariables false
set_option linter.unusedSimpArgs false
set_option maxHeartbeats 4000000
set_option maxRecDepth 100000
namespace Go.Proofs.Ytkonoggmdcdeeaa
open Go.V
theorem other_tri (o w : Int) (H : Hp) : PTri Try.prog (fnA 114) [.agg [i64 o], i64 w] H (boo (!decide (w = o))) := by
  refine tri_v0 (fun _ => false) Try.func114 (by kernel_rfl) rfl (by simp only [List.length_append, List.length_cons, List.length_nil, Try.ntmps114]; decide) ?_
  simp only [vsAll, binA, binLitA, intA, loadA, loadRow, partA, partOk, fieldAddrA, boxA, opA, dstOk, nilSliceOp, resA, argFr, retA.eq_1, Nat.reduceLT, Nat.reduceEqDiff, ↓reduceIte, eq_self, wtAll, Try.ntmps114, Try.results114]
theorem his_tri (o w : Int) (H : Hp) : PTri Try.prog (fnA 115) [.agg [i64 o], i64 w] H (boo (decide (w = o))) := by
  refine tri_v0 (fun _ => false) Try.func115 (by kernel_rfl) rfl (by simp only [List.length_append, List.length_cons, List.length_nil, Try.ntmps115]; decide) ?_
  simp only [vsAll, binA, binLitA, intA, loadA, loadRow, partA, partOk, fieldAddrA, boxA, opA, dstOk, nilSliceOp, resA, argFr, retA.eq_1, Nat.reduceLT, Nat.reduceEqDiff, ↓reduceIte, eq_self, wtAll, Try.ntmps115, Try.results115]
/-- A claim as what can be right. -/
abbrev clI (c : Cl) : AV := .iface (if c.nt then 105 else 106) (.agg [i64 c.o])
theorem claimOf_tri (c : Cl) (H : Hp) : PTri Try.prog (fnA 59) [.agg c.cs] H (clI c) := by
  refine tri_v0 (fun _ => false) Try.func59 (by kernel_rfl) rfl (by simp only [List.length_append, List.length_cons, List.length_nil, Try.ntmps59]; decide) ?_
  simp only [vsAll, loadA, loadRow, partA, partOk, fieldAddrA, boxA, opA, dstOk, nilSliceOp, argFr, Nat.reduceAdd, Nat.reduceLT, Nat.reduceEqDiff, ↓reduceIte, eq_self, wtAll, Try.ntmps59]
  refine condV (fun hc => ?_) (fun hc => ?_)
  · simp only [vsAll, loadA, loadRow, partA, partOk, fieldAddrA, cellA, cellsA, fillA, okParts, ifaceA, partsA, partsOk, opA, dstOk, nilSliceOp, resA, retA.eq_1, Nat.reduceLT, Nat.reduceEqDiff, ↓reduceIte, eq_self, wtAll, Try.results59, clI, hc]
  · simp only [vsAll, loadA, loadRow, partA, partOk, fieldAddrA, cellA, cellsA, fillA, okParts, ifaceA, partsA, partsOk, opA, dstOk, nilSliceOp, resA, retA.eq_1, Nat.reduceLT, Nat.reduceEqDiff, ↓reduceIte, eq_self, wtAll, Try.results59, clI, hc]
/-- Which claims are false: how many, and as a set. -/
abbrev wrA (w : Nat × Nat) : AV := .agg [i64 (w.1 : Nat), i64 (w.2 : Nat)]
theorem less_tri (a b : Nat × Nat) (H : Hp) : PTri Try.prog (fnA 90) [wrA a, wrA b] H (boo (decide (a.1 < b.1) || decide (a.1 = b.1) && decide (a.2 < b.2))) := by
  refine tri_v0 (fun _ => false) Try.func90 (by kernel_rfl) rfl (by simp only [List.length_append, List.length_cons, List.length_nil, Try.ntmps90]; decide) ?_
  simp only [vsAll, binA, binLitA, intA, loadA, loadRow, partA, partOk, fieldAddrA, boxA, pickA, opA, guardV, dstOk, nilSliceOp, resA, argFr, retA.eq_1, Nat.reduceAdd, Nat.reduceLT, Nat.reduceEqDiff, ↓reduceIte, implies_true, eq_self, wtAll, Try.ntmps90, Try.results90]
  have e1 : decide ((a.1 : Int) < (b.1 : Int)) = decide (a.1 < b.1) := decide_eq_decide.2 (by omega)
  have e2 : decide ((a.1 : Int) = (b.1 : Int)) = decide (a.1 = b.1) := decide_eq_decide.2 (by omega)
  have e3 : decide ((a.2 : Int) < (b.2 : Int)) = decide (a.2 < b.2) := decide_eq_decide.2 (by omega)
  rw [e1, e2, e3]
  exact ⟨fun h1 => ⟨h1, fun h2 => by rw [h1, h2]; rfl⟩, rfl⟩
theorem meth105 : methT Try.prog 105 "caulkworks/iron.right" 114 := fun v args w => by kernel_rfl
theorem meth106 : methT Try.prog 106 "caulkworks/iron.right" 115 := fun v args w => by kernel_rfl
theorem right_tri (c : Cl) (o : Int) (H : Hp) : PTri Try.prog (.func (.method "caulkworks/iron.right") [] []) [clI c, i64 o] H (boo (rightO c o)) := by
  obtain ⟨s, w, nt⟩ := c
  cases nt with
  | true =>
    have e : rightO ⟨s, w, true⟩ o = !decide (o = w) := by simp [rightO]
    rw [e]
    exact tri_inv meth105 (other_tri w o H)
  | false =>
    have e : rightO ⟨s, w, false⟩ o = decide (o = w) := by simp [rightO]
    rw [e]
    exact tri_inv meth106 (his_tri w o H)
theorem plus_tri (w v : Nat × Nat) (g : Nat → List AV) (hg : g 0 = [i64 (v.1 : Nat), i64 (v.2 : Nat)]) (H : Hp) (hw : w.1 < 1000 ∧ w.2 < 100000) (hv : v.1 < 1000 ∧ v.2 < 100000) : PTri Try.prog (fnA 87) [wrA w, .rsl 1 2 g] H (wrA (w.1 + v.1, w.2 + v.2)) := by
  refine Tri.drop ?_
  refine tri_v0 (mset [2]) Try.func87 (by kernel_rfl) rfl (by simp only [List.length_append, List.length_cons, List.length_nil, Try.ntmps87]; decide) ?_
  simp only [vsAll, lenA, opA, allocA, boxMutA, dstOk, argFr, Nat.reduceAdd, Nat.reduceLT, Nat.reduceEqDiff, Nat.reduceBEq, ↓reduceIte, eq_self, wtAll, Try.ntmps87]
  intro i2 hh_i2; (try simp only [Hp.set_none, ite_none] at hh_i2); intro i4 hh_i4; (try simp only [ite_none] at hh_i4)
  refine vs_loop (σ := Nat) (fun i => i ≤ 1) (fun i => [(2, .ref i2 0 2 0 0), (4, .ref i4 0 2 0 0), (7, .rsl 1 2 g), (8, i64 1), (9, i64 i)]) (fun i => (H.set i2 (.box 2 1 fun _ => if i = 0 then [i64 (w.1 : Nat), i64 (w.2 : Nat)] else [i64 ((w.1 + v.1 : Nat) : Int), i64 ((w.2 + v.2 : Nat) : Int)])).set i4 (.box 2 1 fun _ => [i64 0, i64 0])) (fun i => 1 - i) 0 (by ((try clear hh_i2); (try clear hh_i4); omega)) ?_ ?_ fun i hi => ?_
  · simp only [vsAll, Nat.reduceEqDiff, ↓reduceIte, eq_self, Int.natCast_zero, Int.natCast_one]
  · (repeat (first | exact HSub_rfl | refine HSub_put_eq (by simp only [vsAll, binA, binLitA, intA, aggA, boolA, nilA2, isConst, unA, loadA, loadRow, partA, partOk, fieldAddrA, indexAddrA, indexA, fieldA, extractA, lenA, nilCheckA, boxA, cellA, cellsA, fillA, okParts, buildSliceA, buildMutA, makeSliceA, partIdx, elemsA, lensA, ifaceA, convA, mmA, pickA, okAll, stAll, opsA, partsA, partsOk, opA, allocA, boxMutA, newCells, okCells, storeObj, appendA, guardV, taA, nM, mapUpA, lookA, sliceA, boundsA, opO, okO, copyA, dstOk, nilA, quietOk, nilSliceOp, panA, resA, argFr, retA.eq_1, retA.eq_2, Nat.reduceAdd, Nat.reduceSub, Nat.reduceMul, Nat.reduceLT, Nat.reduceLeDiff, Nat.reduceEqDiff, Nat.reduceBEq, Int.reduceAdd, Int.reduceSub, Int.reduceMul, Int.reduceNeg, Int.reduceLE, Int.reduceLT, Int.reduceEq, Int.reduceNe, Int.reduceToNat, ↓reduceIte, reduceCtorEq, implies_true, forall_const, eq_self, ne_eq, wtAll, Try.ntmps87, Try.results87, hh_i2, hh_i4]) ?_ | refine HSub_drop2 (by simp only [vsAll, binA, binLitA, intA, aggA, boolA, nilA2, isConst, unA, loadA, loadRow, partA, partOk, fieldAddrA, indexAddrA, indexA, fieldA, extractA, lenA, nilCheckA, boxA, cellA, cellsA, fillA, okParts, buildSliceA, buildMutA, makeSliceA, partIdx, elemsA, lensA, ifaceA, convA, mmA, pickA, okAll, stAll, opsA, partsA, partsOk, opA, allocA, boxMutA, newCells, okCells, storeObj, appendA, guardV, taA, nM, mapUpA, lookA, sliceA, boundsA, opO, okO, copyA, dstOk, nilA, quietOk, nilSliceOp, panA, resA, argFr, retA.eq_1, retA.eq_2, Nat.reduceAdd, Nat.reduceSub, Nat.reduceMul, Nat.reduceLT, Nat.reduceLeDiff, Nat.reduceEqDiff, Nat.reduceBEq, Int.reduceAdd, Int.reduceSub, Int.reduceMul, Int.reduceNeg, Int.reduceLE, Int.reduceLT, Int.reduceEq, Int.reduceNe, Int.reduceToNat, ↓reduceIte, reduceCtorEq, implies_true, forall_const, eq_self, ne_eq, wtAll, Try.ntmps87, Try.results87, hh_i2, hh_i4]) ?_ | refine HSub_keep_eq (by simp only [vsAll, binA, binLitA, intA, aggA, boolA, nilA2, isConst, unA, loadA, loadRow, partA, partOk, fieldAddrA, indexAddrA, indexA, fieldA, extractA, lenA, nilCheckA, boxA, cellA, cellsA, fillA, okParts, buildSliceA, buildMutA, makeSliceA, partIdx, elemsA, lensA, ifaceA, convA, mmA, pickA, okAll, stAll, opsA, partsA, partsOk, opA, allocA, boxMutA, newCells, okCells, storeObj, appendA, guardV, taA, nM, mapUpA, lookA, sliceA, boundsA, opO, okO, copyA, dstOk, nilA, quietOk, nilSliceOp, panA, resA, argFr, retA.eq_1, retA.eq_2, Nat.reduceAdd, Nat.reduceSub, Nat.reduceMul, Nat.reduceLT, Nat.reduceLeDiff, Nat.reduceEqDiff, Nat.reduceBEq, Int.reduceAdd, Int.reduceSub, Int.reduceMul, Int.reduceNeg, Int.reduceLE, Int.reduceLT, Int.reduceEq, Int.reduceNe, Int.reduceToNat, ↓reduceIte, reduceCtorEq, implies_true, forall_const, eq_self, ne_eq, wtAll, Try.ntmps87, Try.results87, hh_i2, hh_i4]) ?_))
  · simp only [vsAll, binA, binLitA, intA, opA, dstOk, Nat.reduceLT, Nat.reduceEqDiff, ↓reduceIte, eq_self]
    refine condD (fun hd => ?_) (fun hd => ?_)
    · have ei : i = 0 := by ((try clear hh_i2); (try clear hh_i4); omega)
      subst ei
      simp only [vsAll, binA, binLitA, intA, aggA, boolA, nilA2, loadA, loadRow, partA, partOk, fieldAddrA, indexAddrA, cellA, cellsA, fillA, okParts, partsA, partsOk, opA, allocA, newCells, okCells, storeObj, dstOk, Nat.reduceAdd, Nat.reduceLT, Nat.reduceLeDiff, Nat.reduceEqDiff, ↓reduceIte, reduceCtorEq, implies_true, eq_self, wtAll, hh_i4, hg]
      refine ⟨⟨by ((try clear hh_i2); (try clear hh_i4); omega), by ((try clear hh_i2); (try clear hh_i4); omega)⟩, ?_⟩
      intro i5 hh_i5; (try simp only [ite_none] at hh_i5)
      simp only [vsAll, Nat.reduceLT, ↓reduceIte, eq_self, hh_i5]
      refine ⟨by simp only [InR_i64]; ((try clear hh_i2); (try clear hh_i4); (try clear hh_i5); omega), by simp only [InR_i64]; ((try clear hh_i2); (try clear hh_i4); (try clear hh_i5); omega), by simp only [InR_i64]; ((try clear hh_i2); (try clear hh_i4); (try clear hh_i5); omega), loop_next 1 (by ((try clear hh_i2); (try clear hh_i4); (try clear hh_i5); omega)) (by ((try clear hh_i2); (try clear hh_i4); (try clear hh_i5); omega)) ?_ ?_⟩
      · simp only [vsAll, Nat.reduceEqDiff, Int.reduceLT, ↓reduceIte, eq_self, Int.natCast_zero, Int.natCast_one, Int.zero_add]
      · simp only [Int.natCast_add]
        (repeat (first | exact HSub_rfl | refine HSub_put_eq (by simp only [vsAll, ↓reduceIte, reduceCtorEq, eq_self, hh_i4, hh_i5]) ?_ | refine HSub_drop2 (by simp only [eq_self, hh_i2, hh_i4, hh_i5]) ?_ | refine HSub_keep_eq (by simp only [vsAll, binA, binLitA, intA, aggA, boolA, nilA2, isConst, unA, loadA, loadRow, partA, partOk, fieldAddrA, indexAddrA, indexA, fieldA, extractA, lenA, nilCheckA, boxA, cellA, cellsA, fillA, okParts, buildSliceA, buildMutA, makeSliceA, partIdx, elemsA, lensA, ifaceA, convA, mmA, pickA, okAll, stAll, opsA, partsA, partsOk, opA, allocA, boxMutA, newCells, okCells, storeObj, appendA, guardV, taA, nM, mapUpA, lookA, sliceA, boundsA, opO, okO, copyA, dstOk, nilA, quietOk, nilSliceOp, panA, resA, argFr, retA.eq_1, retA.eq_2, Nat.reduceAdd, Nat.reduceSub, Nat.reduceMul, Nat.reduceLT, Nat.reduceLeDiff, Nat.reduceEqDiff, Nat.reduceBEq, Int.reduceAdd, Int.reduceSub, Int.reduceMul, Int.reduceNeg, Int.reduceLE, Int.reduceLT, Int.reduceEq, Int.reduceNe, Int.reduceToNat, ↓reduceIte, reduceCtorEq, implies_true, forall_const, eq_self, ne_eq, wtAll, Try.ntmps87, Try.results87, hh_i2, hh_i4, hh_i5]) ?_))
    · have ei : i = 1 := by ((try clear hh_i2); (try clear hh_i4); omega)
      subst ei
      simp only [vsAll, loadA, loadRow, partA, partOk, cellA, cellsA, opA, newCells, okCells, storeObj, dstOk, resA, retA.eq_1, Nat.reduceAdd, Nat.reduceLT, Nat.reduceEqDiff, ↓reduceIte, reduceCtorEq, eq_self, wtAll, Try.results87, hh_i4]
      refine dropR_pure ?_ (by (repeat (first | exact HSub_rfl | refine HSub_put_eq (by simp only [vsAll, binA, binLitA, intA, aggA, boolA, nilA2, isConst, unA, loadA, loadRow, partA, partOk, fieldAddrA, indexAddrA, indexA, fieldA, extractA, lenA, nilCheckA, boxA, cellA, cellsA, fillA, okParts, buildSliceA, buildMutA, makeSliceA, partIdx, elemsA, lensA, ifaceA, convA, mmA, pickA, okAll, stAll, opsA, partsA, partsOk, opA, allocA, boxMutA, newCells, okCells, storeObj, appendA, guardV, taA, nM, mapUpA, lookA, sliceA, boundsA, opO, okO, copyA, dstOk, nilA, quietOk, nilSliceOp, panA, resA, argFr, retA.eq_1, retA.eq_2, Nat.reduceAdd, Nat.reduceSub, Nat.reduceMul, Nat.reduceLT, Nat.reduceLeDiff, Nat.reduceEqDiff, Nat.reduceBEq, Int.reduceAdd, Int.reduceSub, Int.reduceMul, Int.reduceNeg, Int.reduceLE, Int.reduceLT, Int.reduceEq, Int.reduceNe, Int.reduceToNat, ↓reduceIte, reduceCtorEq, implies_true, forall_const, eq_self, ne_eq, wtAll, Try.ntmps87, Try.results87, hh_i2, hh_i4]) ?_ | refine HSub_drop2 (by simp only [eq_self, hh_i2, hh_i4]) ?_ | refine HSub_keep_eq (by simp only [vsAll, binA, binLitA, intA, aggA, boolA, nilA2, isConst, unA, loadA, loadRow, partA, partOk, fieldAddrA, indexAddrA, indexA, fieldA, extractA, lenA, nilCheckA, boxA, cellA, cellsA, fillA, okParts, buildSliceA, buildMutA, makeSliceA, partIdx, elemsA, lensA, ifaceA, convA, mmA, pickA, okAll, stAll, opsA, partsA, partsOk, opA, allocA, boxMutA, newCells, okCells, storeObj, appendA, guardV, taA, nM, mapUpA, lookA, sliceA, boundsA, opO, okO, copyA, dstOk, nilA, quietOk, nilSliceOp, panA, resA, argFr, retA.eq_1, retA.eq_2, Nat.reduceAdd, Nat.reduceSub, Nat.reduceMul, Nat.reduceLT, Nat.reduceLeDiff, Nat.reduceEqDiff, Nat.reduceBEq, Int.reduceAdd, Int.reduceSub, Int.reduceMul, Int.reduceNeg, Int.reduceLE, Int.reduceLT, Int.reduceEq, Int.reduceNe, Int.reduceToNat, ↓reduceIte, reduceCtorEq, implies_true, forall_const, eq_self, ne_eq, wtAll, Try.ntmps87, Try.results87, hh_i2, hh_i4]) ?_)))
      simp only [eq_self]
end Go.Proofs.Ytkonoggmdcdeeaa
end
