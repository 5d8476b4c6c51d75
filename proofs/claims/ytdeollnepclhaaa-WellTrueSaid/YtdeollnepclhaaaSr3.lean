/- Helper lemmas of this claim, part 3. -/
import Derived.Test.YtdeollnepclhaaaChecked
import Derived.Test.YtdeollnepclhaaaSr2
section
namespace Go.Proofs.Ytdeollnepclhaaa
open Go.V
theorem szT2 : szT Try.prog 2 = some (1, false) := by kernel_rfl
theorem arT2 : arT Try.prog 2 = none := by kernel_rfl
theorem conc2 : Program.concrete Try.prog 2 = true := by kernel_rfl
theorem undS2 : (Program.underlying Try.prog 2).isSome = true := by kernel_rfl
theorem intT2 : intT Try.prog 2 = some .i64 := by kernel_rfl
theorem elT2 : elT Try.prog 2 = none := by kernel_rfl
theorem azT2 : azT Try.prog 2 = some (1, 1, [.int .i64 0]) := by kernel_rfl
theorem zeroT2 : zeroT Try.prog 2 = some [.int .i64 0] := by kernel_rfl
theorem szT3 : szT Try.prog 3 = some (1, false) := by kernel_rfl
theorem arT3 : arT Try.prog 3 = none := by kernel_rfl
theorem conc3 : Program.concrete Try.prog 3 = true := by kernel_rfl
theorem undS3 : (Program.underlying Try.prog 3).isSome = true := by kernel_rfl
theorem intT3 : intT Try.prog 3 = some .i64 := by kernel_rfl
theorem elT3 : elT Try.prog 3 = none := by kernel_rfl
theorem azT3 : azT Try.prog 3 = some (1, 1, [.int .i64 0]) := by kernel_rfl
theorem zeroT3 : zeroT Try.prog 3 = some [.int .i64 0] := by kernel_rfl
theorem szT4 : szT Try.prog 4 = some (1, false) := by kernel_rfl
theorem arT4 : arT Try.prog 4 = none := by kernel_rfl
theorem conc4 : Program.concrete Try.prog 4 = true := by kernel_rfl
theorem undS4 : (Program.underlying Try.prog 4).isSome = true := by kernel_rfl
theorem elT4 : elT Try.prog 4 = none := by kernel_rfl
theorem azT4 : azT Try.prog 4 = some (1, 1, [.bool false]) := by kernel_rfl
theorem zeroT4 : zeroT Try.prog 4 = some [.bool false] := by kernel_rfl
theorem szT5 : szT Try.prog 5 = some (1, false) := by kernel_rfl
theorem arT5 : arT Try.prog 5 = none := by kernel_rfl
theorem conc5 : Program.concrete Try.prog 5 = true := by kernel_rfl
theorem undS5 : (Program.underlying Try.prog 5).isSome = true := by kernel_rfl
theorem intT5 : intT Try.prog 5 = some .u8 := by kernel_rfl
theorem elT5 : elT Try.prog 5 = none := by kernel_rfl
theorem azT5 : azT Try.prog 5 = some (1, 1, [.int .u8 0]) := by kernel_rfl
theorem zeroT5 : zeroT Try.prog 5 = some [.int .u8 0] := by kernel_rfl
theorem szT12 : szT Try.prog 12 = some (1, false) := by kernel_rfl
theorem arT12 : arT Try.prog 12 = none := by kernel_rfl
theorem conc12 : Program.concrete Try.prog 12 = true := by kernel_rfl
theorem undS12 : (Program.underlying Try.prog 12).isSome = true := by kernel_rfl
theorem intT12 : intT Try.prog 12 = some .u64 := by kernel_rfl
theorem elT12 : elT Try.prog 12 = none := by kernel_rfl
theorem azT12 : azT Try.prog 12 = some (1, 1, [.int .u64 0]) := by kernel_rfl
theorem zeroT12 : zeroT Try.prog 12 = some [.int .u64 0] := by kernel_rfl
theorem szT13 : szT Try.prog 13 = some (2, true) := by kernel_rfl
theorem arT13 : arT Try.prog 13 = none := by kernel_rfl
theorem conc13 : Program.concrete Try.prog 13 = true := by kernel_rfl
theorem undS13 : (Program.underlying Try.prog 13).isSome = true := by kernel_rfl
theorem elT13 : elT Try.prog 13 = none := by kernel_rfl
theorem azT13 : azT Try.prog 13 = some (2, 1, [.string .empty, .int .u64 0]) := by kernel_rfl
theorem zeroT13 : zeroT Try.prog 13 = some [.string .empty, .int .u64 0] := by kernel_rfl
theorem bT13 : bT Try.prog 13 = true := by kernel_rfl
theorem fldT13_0 : fldT Try.prog 13 0 = some (0, 1, false) := by kernel_rfl
theorem fldT13_1 : fldT Try.prog 13 1 = some (1, 1, false) := by kernel_rfl
theorem szT20 : szT Try.prog 20 = some (1, false) := by kernel_rfl
theorem arT20 : arT Try.prog 20 = none := by kernel_rfl
theorem szT21 : szT Try.prog 21 = some (1, false) := by kernel_rfl
theorem arT21 : arT Try.prog 21 = none := by kernel_rfl
theorem conc21 : Program.concrete Try.prog 21 = true := by kernel_rfl
theorem undS21 : (Program.underlying Try.prog 21).isSome = true := by kernel_rfl
theorem intT21 : intT Try.prog 21 = some .i32 := by kernel_rfl
theorem elT21 : elT Try.prog 21 = none := by kernel_rfl
theorem azT21 : azT Try.prog 21 = some (1, 1, [.int .i32 0]) := by kernel_rfl
theorem zeroT21 : zeroT Try.prog 21 = some [.int .i32 0] := by kernel_rfl
theorem szT22 : szT Try.prog 22 = some (1, false) := by kernel_rfl
theorem arT22 : arT Try.prog 22 = none := by kernel_rfl
theorem conc22 : Program.concrete Try.prog 22 = true := by kernel_rfl
theorem undS22 : (Program.underlying Try.prog 22).isSome = true := by kernel_rfl
theorem elT22 : elT Try.prog 22 = some (1, false) := by kernel_rfl
theorem elB22 : elB Try.prog 22 = some (1, 8) := by kernel_rfl
theorem bsT22 : bsT Try.prog 22 = some 1 := by kernel_rfl
theorem azT22 : azT Try.prog 22 = some (1, 1, [.slice none 0 0]) := by kernel_rfl
theorem zeroT22 : zeroT Try.prog 22 = some [.slice none 0 0] := by kernel_rfl
theorem szT23 : szT Try.prog 23 = some (1, false) := by kernel_rfl
theorem arT23 : arT Try.prog 23 = none := by kernel_rfl
theorem conc23 : Program.concrete Try.prog 23 = true := by kernel_rfl
theorem undS23 : (Program.underlying Try.prog 23).isSome = true := by kernel_rfl
theorem elT23 : elT Try.prog 23 = some (5, true) := by kernel_rfl
theorem elB23 : elB Try.prog 23 = some (5, 40) := by kernel_rfl
theorem bsT23 : bsT Try.prog 23 = some 5 := by kernel_rfl
theorem azT23 : azT Try.prog 23 = some (1, 1, [.slice none 0 0]) := by kernel_rfl
theorem zeroT23 : zeroT Try.prog 23 = some [.slice none 0 0] := by kernel_rfl
theorem szT24 : szT Try.prog 24 = some (2, true) := by kernel_rfl
theorem arT24 : arT Try.prog 24 = none := by kernel_rfl
theorem conc24 : Program.concrete Try.prog 24 = true := by kernel_rfl
theorem undS24 : (Program.underlying Try.prog 24).isSome = true := by kernel_rfl
theorem elT24 : elT Try.prog 24 = none := by kernel_rfl
theorem azT24 : azT Try.prog 24 = some (2, 1, [.slice none 0 0, .slice none 0 0]) := by kernel_rfl
theorem zeroT24 : zeroT Try.prog 24 = some [.slice none 0 0, .slice none 0 0] := by kernel_rfl
theorem bT24 : bT Try.prog 24 = true := by kernel_rfl
theorem fldT24_0 : fldT Try.prog 24 0 = some (0, 1, false) := by kernel_rfl
theorem fldT24_1 : fldT Try.prog 24 1 = some (1, 1, false) := by kernel_rfl
theorem szT25 : szT Try.prog 25 = some (2, true) := by kernel_rfl
theorem arT25 : arT Try.prog 25 = none := by kernel_rfl
theorem conc25 : Program.concrete Try.prog 25 = true := by kernel_rfl
theorem undS25 : (Program.underlying Try.prog 25).isSome = true := by kernel_rfl
theorem elT25 : elT Try.prog 25 = none := by kernel_rfl
theorem azT25 : azT Try.prog 25 = some (2, 1, [.slice none 0 0, .slice none 0 0]) := by kernel_rfl
theorem zeroT25 : zeroT Try.prog 25 = some [.slice none 0 0, .slice none 0 0] := by kernel_rfl
theorem bT25 : bT Try.prog 25 = true := by kernel_rfl
theorem fldT25_0 : fldT Try.prog 25 0 = some (0, 1, false) := by kernel_rfl
theorem fldT25_1 : fldT Try.prog 25 1 = some (1, 1, false) := by kernel_rfl
theorem szT28 : szT Try.prog 28 = some (1, false) := by kernel_rfl
theorem arT28 : arT Try.prog 28 = none := by kernel_rfl
theorem conc28 : Program.concrete Try.prog 28 = true := by kernel_rfl
theorem undS28 : (Program.underlying Try.prog 28).isSome = true := by kernel_rfl
theorem intT28 : intT Try.prog 28 = some .i64 := by kernel_rfl
theorem elT28 : elT Try.prog 28 = none := by kernel_rfl
theorem azT28 : azT Try.prog 28 = some (1, 1, [.int .i64 0]) := by kernel_rfl
theorem zeroT28 : zeroT Try.prog 28 = some [.int .i64 0] := by kernel_rfl
theorem szT32 : szT Try.prog 32 = some (1, false) := by kernel_rfl
theorem arT32 : arT Try.prog 32 = none := by kernel_rfl
theorem conc32 : Program.concrete Try.prog 32 = true := by kernel_rfl
theorem undS32 : (Program.underlying Try.prog 32).isSome = true := by kernel_rfl
theorem elT32 : elT Try.prog 32 = some (2, true) := by kernel_rfl
theorem elB32 : elB Try.prog 32 = some (2, 16) := by kernel_rfl
theorem bsT32 : bsT Try.prog 32 = some 2 := by kernel_rfl
theorem azT32 : azT Try.prog 32 = some (1, 1, [.slice none 0 0]) := by kernel_rfl
theorem zeroT32 : zeroT Try.prog 32 = some [.slice none 0 0] := by kernel_rfl
theorem szT38 : szT Try.prog 38 = some (2, true) := by kernel_rfl
theorem arT38 : arT Try.prog 38 = none := by kernel_rfl
theorem conc38 : Program.concrete Try.prog 38 = true := by kernel_rfl
theorem undS38 : (Program.underlying Try.prog 38).isSome = true := by kernel_rfl
theorem elT38 : elT Try.prog 38 = none := by kernel_rfl
theorem azT38 : azT Try.prog 38 = some (2, 1, [.int .i64 0, .int .i64 0]) := by kernel_rfl
theorem zeroT38 : zeroT Try.prog 38 = some [.int .i64 0, .int .i64 0] := by kernel_rfl
theorem bT38 : bT Try.prog 38 = true := by kernel_rfl
theorem fldT38_0 : fldT Try.prog 38 0 = some (0, 1, false) := by kernel_rfl
theorem fldT38_1 : fldT Try.prog 38 1 = some (1, 1, false) := by kernel_rfl
theorem szT39 : szT Try.prog 39 = some (2, true) := by kernel_rfl
theorem arT39 : arT Try.prog 39 = none := by kernel_rfl
theorem conc39 : Program.concrete Try.prog 39 = true := by kernel_rfl
theorem undS39 : (Program.underlying Try.prog 39).isSome = true := by kernel_rfl
theorem elT39 : elT Try.prog 39 = none := by kernel_rfl
theorem azT39 : azT Try.prog 39 = some (2, 1, [.int .i64 0, .int .i64 0]) := by kernel_rfl
theorem zeroT39 : zeroT Try.prog 39 = some [.int .i64 0, .int .i64 0] := by kernel_rfl
theorem bT39 : bT Try.prog 39 = true := by kernel_rfl
theorem fldT39_0 : fldT Try.prog 39 0 = some (0, 1, false) := by kernel_rfl
theorem fldT39_1 : fldT Try.prog 39 1 = some (1, 1, false) := by kernel_rfl
theorem szT50 : szT Try.prog 50 = some (3, true) := by kernel_rfl
theorem conc50 : Program.concrete Try.prog 50 = true := by kernel_rfl
theorem undS50 : (Program.underlying Try.prog 50).isSome = true := by kernel_rfl
theorem elT50 : elT Try.prog 50 = none := by kernel_rfl
theorem arT50 : arT Try.prog 50 = some (3, 1, false) := by kernel_rfl
theorem azT50 : azT Try.prog 50 = some (1, 3, [.int .i64 0]) := by kernel_rfl
theorem zeroT50 : zeroT Try.prog 50 = some [.int .i64 0, .int .i64 0, .int .i64 0] := by kernel_rfl
theorem szT51 : szT Try.prog 51 = some (1, false) := by kernel_rfl
theorem arT51 : arT Try.prog 51 = none := by kernel_rfl
theorem conc51 : Program.concrete Try.prog 51 = true := by kernel_rfl
theorem undS51 : (Program.underlying Try.prog 51).isSome = true := by kernel_rfl
theorem elT51 : elT Try.prog 51 = some (3, true) := by kernel_rfl
theorem elB51 : elB Try.prog 51 = some (3, 24) := by kernel_rfl
theorem bsT51 : bsT Try.prog 51 = some 3 := by kernel_rfl
theorem azT51 : azT Try.prog 51 = some (1, 1, [.slice none 0 0]) := by kernel_rfl
theorem zeroT51 : zeroT Try.prog 51 = some [.slice none 0 0] := by kernel_rfl
theorem szT53 : szT Try.prog 53 = some (1, false) := by kernel_rfl
theorem arT53 : arT Try.prog 53 = none := by kernel_rfl
theorem conc53 : Program.concrete Try.prog 53 = true := by kernel_rfl
theorem undS53 : (Program.underlying Try.prog 53).isSome = true := by kernel_rfl
theorem elT53 : elT Try.prog 53 = some (1, false) := by kernel_rfl
theorem elB53 : elB Try.prog 53 = some (1, 2) := by kernel_rfl
theorem bsT53 : bsT Try.prog 53 = some 1 := by kernel_rfl
theorem azT53 : azT Try.prog 53 = some (1, 1, [.slice none 0 0]) := by kernel_rfl
theorem zeroT53 : zeroT Try.prog 53 = some [.slice none 0 0] := by kernel_rfl
theorem szT57 : szT Try.prog 57 = some (5, true) := by kernel_rfl
theorem arT57 : arT Try.prog 57 = none := by kernel_rfl
theorem conc57 : Program.concrete Try.prog 57 = true := by kernel_rfl
theorem undS57 : (Program.underlying Try.prog 57).isSome = true := by kernel_rfl
theorem elT57 : elT Try.prog 57 = none := by kernel_rfl
theorem azT57 : azT Try.prog 57 = some (5, 1, [.int .i64 0, .int .i64 0, .int .i64 0, .int .i64 0, .int .i64 0]) := by kernel_rfl
theorem zeroT57 : zeroT Try.prog 57 = some [.int .i64 0, .int .i64 0, .int .i64 0, .int .i64 0, .int .i64 0] := by kernel_rfl
theorem bT57 : bT Try.prog 57 = true := by kernel_rfl
theorem fldT57_0 : fldT Try.prog 57 0 = some (0, 1, false) := by kernel_rfl
theorem fldT57_1 : fldT Try.prog 57 1 = some (1, 2, true) := by kernel_rfl
theorem fldT57_2 : fldT Try.prog 57 2 = some (3, 2, true) := by kernel_rfl
theorem szT58 : szT Try.prog 58 = some (5, true) := by kernel_rfl
theorem arT58 : arT Try.prog 58 = none := by kernel_rfl
theorem conc58 : Program.concrete Try.prog 58 = true := by kernel_rfl
theorem undS58 : (Program.underlying Try.prog 58).isSome = true := by kernel_rfl
theorem elT58 : elT Try.prog 58 = none := by kernel_rfl
theorem azT58 : azT Try.prog 58 = some (5, 1, [.int .i64 0, .int .i64 0, .int .i64 0, .int .i64 0, .int .i64 0]) := by kernel_rfl
theorem zeroT58 : zeroT Try.prog 58 = some [.int .i64 0, .int .i64 0, .int .i64 0, .int .i64 0, .int .i64 0] := by kernel_rfl
theorem bT58 : bT Try.prog 58 = true := by kernel_rfl
theorem fldT58_0 : fldT Try.prog 58 0 = some (0, 1, false) := by kernel_rfl
theorem fldT58_1 : fldT Try.prog 58 1 = some (1, 2, true) := by kernel_rfl
theorem fldT58_2 : fldT Try.prog 58 2 = some (3, 2, true) := by kernel_rfl
theorem szT64 : szT Try.prog 64 = some (1, false) := by kernel_rfl
theorem arT64 : arT Try.prog 64 = none := by kernel_rfl
theorem conc64 : Program.concrete Try.prog 64 = true := by kernel_rfl
theorem szT68 : szT Try.prog 68 = some (1, false) := by kernel_rfl
theorem arT68 : arT Try.prog 68 = none := by kernel_rfl
theorem conc68 : Program.concrete Try.prog 68 = true := by kernel_rfl
theorem undS68 : (Program.underlying Try.prog 68).isSome = true := by kernel_rfl
theorem elT68 : elT Try.prog 68 = some (2, true) := by kernel_rfl
theorem elB68 : elB Try.prog 68 = some (2, 48) := by kernel_rfl
theorem bsT68 : bsT Try.prog 68 = some 2 := by kernel_rfl
theorem azT68 : azT Try.prog 68 = some (1, 1, [.slice none 0 0]) := by kernel_rfl
theorem zeroT68 : zeroT Try.prog 68 = some [.slice none 0 0] := by kernel_rfl
theorem szT73 : szT Try.prog 73 = some (1, false) := by kernel_rfl
theorem zeroT73 : azT Try.prog 73 = some (1, 1, [.pointer none]) := by kernel_rfl
theorem arT73 : arT Try.prog 73 = none := by kernel_rfl
theorem conc73 : Program.concrete Try.prog 73 = true := by kernel_rfl
theorem szT74 : szT Try.prog 74 = some (1, false) := by kernel_rfl
theorem zeroT74 : azT Try.prog 74 = some (1, 1, [.pointer none]) := by kernel_rfl
theorem arT74 : arT Try.prog 74 = none := by kernel_rfl
theorem conc74 : Program.concrete Try.prog 74 = true := by kernel_rfl
theorem szT77 : szT Try.prog 77 = some (1, true) := by kernel_rfl
theorem arT77 : arT Try.prog 77 = none := by kernel_rfl
theorem conc77 : Program.concrete Try.prog 77 = true := by kernel_rfl
theorem undS77 : (Program.underlying Try.prog 77).isSome = true := by kernel_rfl
theorem elT77 : elT Try.prog 77 = none := by kernel_rfl
theorem azT77 : azT Try.prog 77 = some (1, 1, [.int .i64 0]) := by kernel_rfl
theorem zeroT77 : zeroT Try.prog 77 = some [.int .i64 0] := by kernel_rfl
theorem bT77 : bT Try.prog 77 = true := by kernel_rfl
theorem fldT77_0 : fldT Try.prog 77 0 = some (0, 1, false) := by kernel_rfl
theorem szT78 : szT Try.prog 78 = some (1, true) := by kernel_rfl
theorem arT78 : arT Try.prog 78 = none := by kernel_rfl
theorem conc78 : Program.concrete Try.prog 78 = true := by kernel_rfl
theorem undS78 : (Program.underlying Try.prog 78).isSome = true := by kernel_rfl
theorem elT78 : elT Try.prog 78 = none := by kernel_rfl
theorem azT78 : azT Try.prog 78 = some (1, 1, [.int .i64 0]) := by kernel_rfl
theorem zeroT78 : zeroT Try.prog 78 = some [.int .i64 0] := by kernel_rfl
theorem bT78 : bT Try.prog 78 = true := by kernel_rfl
theorem fldT78_0 : fldT Try.prog 78 0 = some (0, 1, false) := by kernel_rfl
theorem szT79 : szT Try.prog 79 = some (2, true) := by kernel_rfl
theorem arT79 : arT Try.prog 79 = none := by kernel_rfl
theorem conc79 : Program.concrete Try.prog 79 = true := by kernel_rfl
theorem undS79 : (Program.underlying Try.prog 79).isSome = true := by kernel_rfl
theorem elT79 : elT Try.prog 79 = none := by kernel_rfl
theorem azT79 : azT Try.prog 79 = some (2, 1, [.int .i64 0, .int .i64 0]) := by kernel_rfl
theorem zeroT79 : zeroT Try.prog 79 = some [.int .i64 0, .int .i64 0] := by kernel_rfl
theorem bT79 : bT Try.prog 79 = true := by kernel_rfl
theorem fldT79_0 : fldT Try.prog 79 0 = some (0, 1, true) := by kernel_rfl
theorem fldT79_1 : fldT Try.prog 79 1 = some (1, 1, false) := by kernel_rfl
theorem szT80 : szT Try.prog 80 = some (2, true) := by kernel_rfl
theorem arT80 : arT Try.prog 80 = none := by kernel_rfl
theorem conc80 : Program.concrete Try.prog 80 = true := by kernel_rfl
theorem undS80 : (Program.underlying Try.prog 80).isSome = true := by kernel_rfl
theorem elT80 : elT Try.prog 80 = none := by kernel_rfl
theorem azT80 : azT Try.prog 80 = some (2, 1, [.int .i64 0, .int .i64 0]) := by kernel_rfl
theorem zeroT80 : zeroT Try.prog 80 = some [.int .i64 0, .int .i64 0] := by kernel_rfl
theorem bT80 : bT Try.prog 80 = true := by kernel_rfl
theorem fldT80_0 : fldT Try.prog 80 0 = some (0, 1, true) := by kernel_rfl
theorem fldT80_1 : fldT Try.prog 80 1 = some (1, 1, false) := by kernel_rfl
theorem szT87 : szT Try.prog 87 = some (101, true) := by kernel_rfl
theorem conc87 : Program.concrete Try.prog 87 = true := by kernel_rfl
theorem undS87 : (Program.underlying Try.prog 87).isSome = true := by kernel_rfl
theorem elT87 : elT Try.prog 87 = none := by kernel_rfl
theorem arT87 : arT Try.prog 87 = some (101, 1, false) := by kernel_rfl
theorem azT87 : azT Try.prog 87 = some (1, 101, [.bool false]) := by kernel_rfl
theorem szT88 : szT Try.prog 88 = some (101, true) := by kernel_rfl
theorem conc88 : Program.concrete Try.prog 88 = true := by kernel_rfl
theorem undS88 : (Program.underlying Try.prog 88).isSome = true := by kernel_rfl
theorem elT88 : elT Try.prog 88 = none := by kernel_rfl
theorem arT88 : arT Try.prog 88 = some (101, 1, false) := by kernel_rfl
theorem azT88 : azT Try.prog 88 = some (1, 101, [.bool false]) := by kernel_rfl
theorem szT91 : szT Try.prog 91 = some (1, false) := by kernel_rfl
theorem arT91 : arT Try.prog 91 = none := by kernel_rfl
theorem conc91 : Program.concrete Try.prog 91 = true := by kernel_rfl
theorem undS91 : (Program.underlying Try.prog 91).isSome = true := by kernel_rfl
theorem elT91 : elT Try.prog 91 = some (1, false) := by kernel_rfl
theorem elB91 : elB Try.prog 91 = some (1, 1) := by kernel_rfl
theorem bsT91 : bsT Try.prog 91 = some 1 := by kernel_rfl
theorem azT91 : azT Try.prog 91 = some (1, 1, [.slice none 0 0]) := by kernel_rfl
theorem zeroT91 : zeroT Try.prog 91 = some [.slice none 0 0] := by kernel_rfl
theorem szT95 : szT Try.prog 95 = some (1, false) := by kernel_rfl
theorem arT95 : arT Try.prog 95 = none := by kernel_rfl
theorem conc95 : Program.concrete Try.prog 95 = true := by kernel_rfl
theorem szT96 : szT Try.prog 96 = some (3, true) := by kernel_rfl
theorem arT96 : arT Try.prog 96 = none := by kernel_rfl
theorem conc96 : Program.concrete Try.prog 96 = true := by kernel_rfl
theorem undS96 : (Program.underlying Try.prog 96).isSome = true := by kernel_rfl
theorem elT96 : elT Try.prog 96 = none := by kernel_rfl
theorem azT96 : azT Try.prog 96 = some (3, 1, [.slice none 0 0, .slice none 0 0, .map none]) := by kernel_rfl
theorem zeroT96 : zeroT Try.prog 96 = some [.slice none 0 0, .slice none 0 0, .map none] := by kernel_rfl
theorem bT96 : bT Try.prog 96 = true := by kernel_rfl
theorem fldT96_0 : fldT Try.prog 96 0 = some (0, 2, true) := by kernel_rfl
theorem fldT96_1 : fldT Try.prog 96 1 = some (2, 1, false) := by kernel_rfl
theorem szT97 : szT Try.prog 97 = some (3, true) := by kernel_rfl
theorem arT97 : arT Try.prog 97 = none := by kernel_rfl
theorem conc97 : Program.concrete Try.prog 97 = true := by kernel_rfl
theorem undS97 : (Program.underlying Try.prog 97).isSome = true := by kernel_rfl
theorem elT97 : elT Try.prog 97 = none := by kernel_rfl
theorem azT97 : azT Try.prog 97 = some (3, 1, [.slice none 0 0, .slice none 0 0, .map none]) := by kernel_rfl
theorem zeroT97 : zeroT Try.prog 97 = some [.slice none 0 0, .slice none 0 0, .map none] := by kernel_rfl
theorem bT97 : bT Try.prog 97 = true := by kernel_rfl
theorem fldT97_0 : fldT Try.prog 97 0 = some (0, 2, true) := by kernel_rfl
theorem fldT97_1 : fldT Try.prog 97 1 = some (2, 1, false) := by kernel_rfl
theorem szT100 : szT Try.prog 100 = some (5, true) := by kernel_rfl
theorem arT100 : arT Try.prog 100 = none := by kernel_rfl
theorem conc100 : Program.concrete Try.prog 100 = true := by kernel_rfl
theorem undS100 : (Program.underlying Try.prog 100).isSome = true := by kernel_rfl
theorem elT100 : elT Try.prog 100 = none := by kernel_rfl
theorem azT100 : azT Try.prog 100 = some (5, 1, [.int .i64 0, .int .i64 0, .int .i64 0, .int .i64 0, .int .i64 0]) := by kernel_rfl
theorem zeroT100 : zeroT Try.prog 100 = some [.int .i64 0, .int .i64 0, .int .i64 0, .int .i64 0, .int .i64 0] := by kernel_rfl
theorem bT100 : bT Try.prog 100 = true := by kernel_rfl
theorem fldT100_0 : fldT Try.prog 100 0 = some (0, 5, true) := by kernel_rfl
theorem szT101 : szT Try.prog 101 = some (5, true) := by kernel_rfl
theorem arT101 : arT Try.prog 101 = none := by kernel_rfl
theorem conc101 : Program.concrete Try.prog 101 = true := by kernel_rfl
theorem undS101 : (Program.underlying Try.prog 101).isSome = true := by kernel_rfl
theorem elT101 : elT Try.prog 101 = none := by kernel_rfl
theorem azT101 : azT Try.prog 101 = some (5, 1, [.int .i64 0, .int .i64 0, .int .i64 0, .int .i64 0, .int .i64 0]) := by kernel_rfl
theorem zeroT101 : zeroT Try.prog 101 = some [.int .i64 0, .int .i64 0, .int .i64 0, .int .i64 0, .int .i64 0] := by kernel_rfl
theorem bT101 : bT Try.prog 101 = true := by kernel_rfl
theorem fldT101_0 : fldT Try.prog 101 0 = some (0, 5, true) := by kernel_rfl
theorem szT102 : szT Try.prog 102 = some (6, true) := by kernel_rfl
theorem arT102 : arT Try.prog 102 = none := by kernel_rfl
theorem conc102 : Program.concrete Try.prog 102 = true := by kernel_rfl
theorem undS102 : (Program.underlying Try.prog 102).isSome = true := by kernel_rfl
theorem elT102 : elT Try.prog 102 = none := by kernel_rfl
theorem azT102 : azT Try.prog 102 = some (6, 1, [.int .i64 0, .int .i64 0, .int .i64 0, .int .i64 0, .int .i64 0, .int .i64 0]) := by kernel_rfl
theorem zeroT102 : zeroT Try.prog 102 = some [.int .i64 0, .int .i64 0, .int .i64 0, .int .i64 0, .int .i64 0, .int .i64 0] := by kernel_rfl
theorem bT102 : bT Try.prog 102 = true := by kernel_rfl
theorem fldT102_0 : fldT Try.prog 102 0 = some (0, 5, true) := by kernel_rfl
theorem fldT102_1 : fldT Try.prog 102 1 = some (5, 1, false) := by kernel_rfl
theorem szT103 : szT Try.prog 103 = some (6, true) := by kernel_rfl
theorem arT103 : arT Try.prog 103 = none := by kernel_rfl
theorem conc103 : Program.concrete Try.prog 103 = true := by kernel_rfl
theorem undS103 : (Program.underlying Try.prog 103).isSome = true := by kernel_rfl
theorem elT103 : elT Try.prog 103 = none := by kernel_rfl
theorem azT103 : azT Try.prog 103 = some (6, 1, [.int .i64 0, .int .i64 0, .int .i64 0, .int .i64 0, .int .i64 0, .int .i64 0]) := by kernel_rfl
theorem zeroT103 : zeroT Try.prog 103 = some [.int .i64 0, .int .i64 0, .int .i64 0, .int .i64 0, .int .i64 0, .int .i64 0] := by kernel_rfl
theorem bT103 : bT Try.prog 103 = true := by kernel_rfl
theorem fldT103_0 : fldT Try.prog 103 0 = some (0, 5, true) := by kernel_rfl
theorem fldT103_1 : fldT Try.prog 103 1 = some (5, 1, false) := by kernel_rfl
theorem szT107 : szT Try.prog 107 = some (1, true) := by kernel_rfl
theorem arT107 : arT Try.prog 107 = none := by kernel_rfl
theorem conc107 : Program.concrete Try.prog 107 = true := by kernel_rfl
theorem undS107 : (Program.underlying Try.prog 107).isSome = true := by kernel_rfl
theorem elT107 : elT Try.prog 107 = none := by kernel_rfl
theorem azT107 : azT Try.prog 107 = some (1, 1, [.nilFunc]) := by kernel_rfl
theorem zeroT107 : zeroT Try.prog 107 = some [.nilFunc] := by kernel_rfl
theorem bT107 : bT Try.prog 107 = true := by kernel_rfl
theorem fldT107_0 : fldT Try.prog 107 0 = some (0, 1, false) := by kernel_rfl
theorem szT108 : szT Try.prog 108 = some (1, true) := by kernel_rfl
theorem arT108 : arT Try.prog 108 = none := by kernel_rfl
theorem conc108 : Program.concrete Try.prog 108 = true := by kernel_rfl
theorem undS108 : (Program.underlying Try.prog 108).isSome = true := by kernel_rfl
theorem elT108 : elT Try.prog 108 = none := by kernel_rfl
theorem azT108 : azT Try.prog 108 = some (1, 1, [.nilFunc]) := by kernel_rfl
theorem zeroT108 : zeroT Try.prog 108 = some [.nilFunc] := by kernel_rfl
theorem bT108 : bT Try.prog 108 = true := by kernel_rfl
theorem fldT108_0 : fldT Try.prog 108 0 = some (0, 1, false) := by kernel_rfl
theorem szT111 : szT Try.prog 111 = some (1, false) := by kernel_rfl
theorem arT111 : arT Try.prog 111 = none := by kernel_rfl
theorem conc111 : Program.concrete Try.prog 111 = true := by kernel_rfl
theorem undS111 : (Program.underlying Try.prog 111).isSome = true := by kernel_rfl
theorem intT111 : intT Try.prog 111 = some .u64 := by kernel_rfl
theorem elT111 : elT Try.prog 111 = none := by kernel_rfl
theorem azT111 : azT Try.prog 111 = some (1, 1, [.int .u64 0]) := by kernel_rfl
theorem zeroT111 : zeroT Try.prog 111 = some [.int .u64 0] := by kernel_rfl
theorem szT116 : szT Try.prog 116 = some (1, false) := by kernel_rfl
theorem arT116 : arT Try.prog 116 = none := by kernel_rfl
theorem conc116 : Program.concrete Try.prog 116 = true := by kernel_rfl
theorem undS116 : (Program.underlying Try.prog 116).isSome = true := by kernel_rfl
theorem elT116 : elT Try.prog 116 = some (1, false) := by kernel_rfl
theorem elB116 : elB Try.prog 116 = some (1, 8) := by kernel_rfl
theorem bsT116 : bsT Try.prog 116 = some 1 := by kernel_rfl
theorem azT116 : azT Try.prog 116 = some (1, 1, [.slice none 0 0]) := by kernel_rfl
theorem zeroT116 : zeroT Try.prog 116 = some [.slice none 0 0] := by kernel_rfl
theorem szT120 : szT Try.prog 120 = some (1, true) := by kernel_rfl
theorem arT120 : arT Try.prog 120 = none := by kernel_rfl
theorem conc120 : Program.concrete Try.prog 120 = true := by kernel_rfl
theorem undS120 : (Program.underlying Try.prog 120).isSome = true := by kernel_rfl
theorem elT120 : elT Try.prog 120 = none := by kernel_rfl
theorem azT120 : azT Try.prog 120 = some (1, 1, [.nilFunc]) := by kernel_rfl
theorem zeroT120 : zeroT Try.prog 120 = some [.nilFunc] := by kernel_rfl
theorem bT120 : bT Try.prog 120 = true := by kernel_rfl
theorem fldT120_0 : fldT Try.prog 120 0 = some (0, 1, false) := by kernel_rfl
theorem szT121 : szT Try.prog 121 = some (1, true) := by kernel_rfl
theorem arT121 : arT Try.prog 121 = none := by kernel_rfl
theorem conc121 : Program.concrete Try.prog 121 = true := by kernel_rfl
theorem undS121 : (Program.underlying Try.prog 121).isSome = true := by kernel_rfl
theorem elT121 : elT Try.prog 121 = none := by kernel_rfl
theorem azT121 : azT Try.prog 121 = some (1, 1, [.nilFunc]) := by kernel_rfl
theorem zeroT121 : zeroT Try.prog 121 = some [.nilFunc] := by kernel_rfl
theorem bT121 : bT Try.prog 121 = true := by kernel_rfl
theorem fldT121_0 : fldT Try.prog 121 0 = some (0, 1, false) := by kernel_rfl
theorem szT123 : szT Try.prog 123 = some (1, false) := by kernel_rfl
theorem arT123 : arT Try.prog 123 = none := by kernel_rfl
theorem conc123 : Program.concrete Try.prog 123 = true := by kernel_rfl
theorem undS123 : (Program.underlying Try.prog 123).isSome = true := by kernel_rfl
theorem intT123 : intT Try.prog 123 = some .u16 := by kernel_rfl
theorem elT123 : elT Try.prog 123 = none := by kernel_rfl
theorem azT123 : azT Try.prog 123 = some (1, 1, [.int .u16 0]) := by kernel_rfl
theorem zeroT123 : zeroT Try.prog 123 = some [.int .u16 0] := by kernel_rfl
theorem szT124 : szT Try.prog 124 = some (1, false) := by kernel_rfl
theorem arT124 : arT Try.prog 124 = none := by kernel_rfl
theorem conc124 : Program.concrete Try.prog 124 = true := by kernel_rfl
theorem undS124 : (Program.underlying Try.prog 124).isSome = true := by kernel_rfl
theorem intT124 : intT Try.prog 124 = some .i64 := by kernel_rfl
theorem elT124 : elT Try.prog 124 = none := by kernel_rfl
theorem azT124 : azT Try.prog 124 = some (1, 1, [.int .i64 0]) := by kernel_rfl
theorem zeroT124 : zeroT Try.prog 124 = some [.int .i64 0] := by kernel_rfl
theorem szT130 : szT Try.prog 130 = some (1, false) := by kernel_rfl
theorem arT130 : arT Try.prog 130 = none := by kernel_rfl
theorem szT131 : szT Try.prog 131 = some (1, false) := by kernel_rfl
theorem arT131 : arT Try.prog 131 = none := by kernel_rfl
theorem szT134 : szT Try.prog 134 = some (1, false) := by kernel_rfl
theorem arT134 : arT Try.prog 134 = none := by kernel_rfl
theorem conc134 : Program.concrete Try.prog 134 = true := by kernel_rfl
theorem undS134 : (Program.underlying Try.prog 134).isSome = true := by kernel_rfl
theorem intT134 : intT Try.prog 134 = some .u32 := by kernel_rfl
theorem elT134 : elT Try.prog 134 = none := by kernel_rfl
theorem azT134 : azT Try.prog 134 = some (1, 1, [.int .u32 0]) := by kernel_rfl
theorem zeroT134 : zeroT Try.prog 134 = some [.int .u32 0] := by kernel_rfl
theorem szT136 : szT Try.prog 136 = some (1, false) := by kernel_rfl
theorem arT136 : arT Try.prog 136 = none := by kernel_rfl
theorem conc136 : Program.concrete Try.prog 136 = true := by kernel_rfl
theorem undS136 : (Program.underlying Try.prog 136).isSome = true := by kernel_rfl
theorem intT136 : intT Try.prog 136 = some .u64 := by kernel_rfl
theorem elT136 : elT Try.prog 136 = none := by kernel_rfl
theorem azT136 : azT Try.prog 136 = some (1, 1, [.int .u64 0]) := by kernel_rfl
theorem zeroT136 : zeroT Try.prog 136 = some [.int .u64 0] := by kernel_rfl
theorem szT150 : szT Try.prog 150 = some (1, false) := by kernel_rfl
theorem zeroT150 : azT Try.prog 150 = some (1, 1, [.pointer none]) := by kernel_rfl
theorem arT150 : arT Try.prog 150 = none := by kernel_rfl
theorem conc150 : Program.concrete Try.prog 150 = true := by kernel_rfl
theorem szT155 : szT Try.prog 155 = some (1, false) := by kernel_rfl
theorem arT155 : arT Try.prog 155 = none := by kernel_rfl
theorem conc155 : Program.concrete Try.prog 155 = true := by kernel_rfl
theorem undS155 : (Program.underlying Try.prog 155).isSome = true := by kernel_rfl
theorem elT155 : elT Try.prog 155 = none := by kernel_rfl
theorem azT155 : azT Try.prog 155 = some (1, 1, [.pointer none]) := by kernel_rfl
theorem zeroT155 : zeroT Try.prog 155 = some [.pointer none] := by kernel_rfl
theorem mapZ95 : mapZ Try.prog 95 = some (.int .i64 0) := by kernel_rfl
theorem meth101 : methT Try.prog 101 "caulkworks/well.is" 121 := fun v args w => by kernel_rfl
theorem meth103 : methT Try.prog 103 "caulkworks/well.is" 122 := fun v args w => by kernel_rfl
theorem und95 : Program.underlying Try.prog 95 = some (.map 80 3) := by kernel_rfl
theorem key80 : Maps.Keyed Try.prog 80 := Maps.Keyed.of_law (deep_law_laid (by kernel_rfl) (m := 10) (by decide) (by decide +kernel) (by kernel_rfl) (by kernel_rfl))
theorem boolT4 : boolT Try.prog 4 = true := by kernel_rfl
theorem ifcT20 : ifcT Try.prog 20 = true := by kernel_rfl
theorem eqT39 : eqT Try.prog 39 2 := eqT_of (by kernel_rfl) (by kernel_rfl) (by kernel_rfl) (by kernel_rfl) (by kernel_rfl)
theorem szT1 : szT Try.prog 1 = some (1, false) := by kernel_rfl
theorem arT1 : arT Try.prog 1 = none := by kernel_rfl
theorem conc1 : Program.concrete Try.prog 1 = true := by kernel_rfl
theorem szT26 : szT Try.prog 26 = some (1, false) := by kernel_rfl
theorem arT26 : arT Try.prog 26 = none := by kernel_rfl
theorem conc26 : Program.concrete Try.prog 26 = true := by kernel_rfl
theorem szT27 : szT Try.prog 27 = some (1, false) := by kernel_rfl
theorem arT27 : arT Try.prog 27 = none := by kernel_rfl
theorem conc27 : Program.concrete Try.prog 27 = true := by kernel_rfl
theorem szT30 : szT Try.prog 30 = some (1, false) := by kernel_rfl
theorem arT30 : arT Try.prog 30 = none := by kernel_rfl
theorem conc30 : Program.concrete Try.prog 30 = true := by kernel_rfl
theorem szT31 : szT Try.prog 31 = some (1, false) := by kernel_rfl
theorem arT31 : arT Try.prog 31 = none := by kernel_rfl
theorem conc31 : Program.concrete Try.prog 31 = true := by kernel_rfl
theorem szT34 : szT Try.prog 34 = some (1, false) := by kernel_rfl
theorem arT34 : arT Try.prog 34 = none := by kernel_rfl
theorem conc34 : Program.concrete Try.prog 34 = true := by kernel_rfl
theorem szT35 : szT Try.prog 35 = some (1, false) := by kernel_rfl
theorem arT35 : arT Try.prog 35 = none := by kernel_rfl
theorem conc35 : Program.concrete Try.prog 35 = true := by kernel_rfl
theorem szT36 : szT Try.prog 36 = some (1, false) := by kernel_rfl
theorem arT36 : arT Try.prog 36 = none := by kernel_rfl
theorem conc36 : Program.concrete Try.prog 36 = true := by kernel_rfl
theorem szT37 : szT Try.prog 37 = some (1, false) := by kernel_rfl
theorem arT37 : arT Try.prog 37 = none := by kernel_rfl
theorem conc37 : Program.concrete Try.prog 37 = true := by kernel_rfl
theorem szT41 : szT Try.prog 41 = some (1, false) := by kernel_rfl
theorem arT41 : arT Try.prog 41 = none := by kernel_rfl
theorem conc41 : Program.concrete Try.prog 41 = true := by kernel_rfl
theorem szT43 : szT Try.prog 43 = some (1, false) := by kernel_rfl
theorem arT43 : arT Try.prog 43 = none := by kernel_rfl
theorem conc43 : Program.concrete Try.prog 43 = true := by kernel_rfl
theorem szT45 : szT Try.prog 45 = some (1, false) := by kernel_rfl
theorem arT45 : arT Try.prog 45 = none := by kernel_rfl
theorem conc45 : Program.concrete Try.prog 45 = true := by kernel_rfl
theorem szT46 : szT Try.prog 46 = some (1, false) := by kernel_rfl
theorem arT46 : arT Try.prog 46 = none := by kernel_rfl
theorem conc46 : Program.concrete Try.prog 46 = true := by kernel_rfl
theorem szT47 : szT Try.prog 47 = some (1, false) := by kernel_rfl
theorem arT47 : arT Try.prog 47 = none := by kernel_rfl
theorem conc47 : Program.concrete Try.prog 47 = true := by kernel_rfl
theorem szT49 : szT Try.prog 49 = some (1, false) := by kernel_rfl
theorem arT49 : arT Try.prog 49 = none := by kernel_rfl
theorem conc49 : Program.concrete Try.prog 49 = true := by kernel_rfl
theorem szT52 : szT Try.prog 52 = some (1, false) := by kernel_rfl
theorem arT52 : arT Try.prog 52 = none := by kernel_rfl
theorem conc52 : Program.concrete Try.prog 52 = true := by kernel_rfl
theorem szT55 : szT Try.prog 55 = some (1, false) := by kernel_rfl
theorem arT55 : arT Try.prog 55 = none := by kernel_rfl
theorem conc55 : Program.concrete Try.prog 55 = true := by kernel_rfl
theorem szT56 : szT Try.prog 56 = some (1, false) := by kernel_rfl
theorem arT56 : arT Try.prog 56 = none := by kernel_rfl
theorem conc56 : Program.concrete Try.prog 56 = true := by kernel_rfl
theorem szT59 : szT Try.prog 59 = some (1, false) := by kernel_rfl
theorem arT59 : arT Try.prog 59 = none := by kernel_rfl
theorem conc59 : Program.concrete Try.prog 59 = true := by kernel_rfl
theorem szT60 : szT Try.prog 60 = some (1, false) := by kernel_rfl
theorem arT60 : arT Try.prog 60 = none := by kernel_rfl
theorem conc60 : Program.concrete Try.prog 60 = true := by kernel_rfl
theorem szT61 : szT Try.prog 61 = some (1, false) := by kernel_rfl
theorem arT61 : arT Try.prog 61 = none := by kernel_rfl
theorem conc61 : Program.concrete Try.prog 61 = true := by kernel_rfl
theorem szT62 : szT Try.prog 62 = some (1, false) := by kernel_rfl
theorem arT62 : arT Try.prog 62 = none := by kernel_rfl
theorem conc62 : Program.concrete Try.prog 62 = true := by kernel_rfl
theorem szT63 : szT Try.prog 63 = some (1, false) := by kernel_rfl
theorem arT63 : arT Try.prog 63 = none := by kernel_rfl
theorem conc63 : Program.concrete Try.prog 63 = true := by kernel_rfl
theorem szT65 : szT Try.prog 65 = some (1, false) := by kernel_rfl
theorem arT65 : arT Try.prog 65 = none := by kernel_rfl
theorem conc65 : Program.concrete Try.prog 65 = true := by kernel_rfl
theorem szT66 : szT Try.prog 66 = some (1, false) := by kernel_rfl
theorem arT66 : arT Try.prog 66 = none := by kernel_rfl
theorem conc66 : Program.concrete Try.prog 66 = true := by kernel_rfl
theorem szT67 : szT Try.prog 67 = some (1, false) := by kernel_rfl
theorem arT67 : arT Try.prog 67 = none := by kernel_rfl
theorem conc67 : Program.concrete Try.prog 67 = true := by kernel_rfl
theorem szT69 : szT Try.prog 69 = some (1, false) := by kernel_rfl
theorem arT69 : arT Try.prog 69 = none := by kernel_rfl
theorem conc69 : Program.concrete Try.prog 69 = true := by kernel_rfl
theorem szT70 : szT Try.prog 70 = some (1, false) := by kernel_rfl
theorem arT70 : arT Try.prog 70 = none := by kernel_rfl
theorem conc70 : Program.concrete Try.prog 70 = true := by kernel_rfl
theorem szT71 : szT Try.prog 71 = some (1, false) := by kernel_rfl
theorem arT71 : arT Try.prog 71 = none := by kernel_rfl
theorem conc71 : Program.concrete Try.prog 71 = true := by kernel_rfl
theorem szT72 : szT Try.prog 72 = some (1, false) := by kernel_rfl
theorem arT72 : arT Try.prog 72 = none := by kernel_rfl
theorem conc72 : Program.concrete Try.prog 72 = true := by kernel_rfl
theorem szT75 : szT Try.prog 75 = some (1, false) := by kernel_rfl
theorem arT75 : arT Try.prog 75 = none := by kernel_rfl
theorem conc75 : Program.concrete Try.prog 75 = true := by kernel_rfl
theorem szT76 : szT Try.prog 76 = some (1, false) := by kernel_rfl
theorem arT76 : arT Try.prog 76 = none := by kernel_rfl
theorem conc76 : Program.concrete Try.prog 76 = true := by kernel_rfl
theorem szT81 : szT Try.prog 81 = some (1, false) := by kernel_rfl
theorem arT81 : arT Try.prog 81 = none := by kernel_rfl
theorem conc81 : Program.concrete Try.prog 81 = true := by kernel_rfl
theorem szT82 : szT Try.prog 82 = some (1, false) := by kernel_rfl
theorem arT82 : arT Try.prog 82 = none := by kernel_rfl
theorem conc82 : Program.concrete Try.prog 82 = true := by kernel_rfl
theorem szT83 : szT Try.prog 83 = some (1, false) := by kernel_rfl
theorem arT83 : arT Try.prog 83 = none := by kernel_rfl
theorem conc83 : Program.concrete Try.prog 83 = true := by kernel_rfl
theorem szT84 : szT Try.prog 84 = some (1, false) := by kernel_rfl
theorem arT84 : arT Try.prog 84 = none := by kernel_rfl
theorem conc84 : Program.concrete Try.prog 84 = true := by kernel_rfl
theorem szT85 : szT Try.prog 85 = some (1, false) := by kernel_rfl
theorem arT85 : arT Try.prog 85 = none := by kernel_rfl
theorem conc85 : Program.concrete Try.prog 85 = true := by kernel_rfl
theorem szT86 : szT Try.prog 86 = some (1, false) := by kernel_rfl
theorem arT86 : arT Try.prog 86 = none := by kernel_rfl
theorem conc86 : Program.concrete Try.prog 86 = true := by kernel_rfl
theorem szT89 : szT Try.prog 89 = some (1, false) := by kernel_rfl
theorem arT89 : arT Try.prog 89 = none := by kernel_rfl
theorem conc89 : Program.concrete Try.prog 89 = true := by kernel_rfl
theorem szT90 : szT Try.prog 90 = some (1, false) := by kernel_rfl
theorem arT90 : arT Try.prog 90 = none := by kernel_rfl
theorem conc90 : Program.concrete Try.prog 90 = true := by kernel_rfl
theorem szT92 : szT Try.prog 92 = some (1, false) := by kernel_rfl
theorem arT92 : arT Try.prog 92 = none := by kernel_rfl
theorem conc92 : Program.concrete Try.prog 92 = true := by kernel_rfl
theorem szT93 : szT Try.prog 93 = some (1, false) := by kernel_rfl
theorem arT93 : arT Try.prog 93 = none := by kernel_rfl
theorem conc93 : Program.concrete Try.prog 93 = true := by kernel_rfl
theorem szT94 : szT Try.prog 94 = some (1, false) := by kernel_rfl
theorem arT94 : arT Try.prog 94 = none := by kernel_rfl
theorem conc94 : Program.concrete Try.prog 94 = true := by kernel_rfl
theorem szT98 : szT Try.prog 98 = some (1, false) := by kernel_rfl
theorem arT98 : arT Try.prog 98 = none := by kernel_rfl
theorem conc98 : Program.concrete Try.prog 98 = true := by kernel_rfl
theorem szT99 : szT Try.prog 99 = some (1, false) := by kernel_rfl
theorem arT99 : arT Try.prog 99 = none := by kernel_rfl
theorem conc99 : Program.concrete Try.prog 99 = true := by kernel_rfl
theorem szT104 : szT Try.prog 104 = some (1, false) := by kernel_rfl
theorem arT104 : arT Try.prog 104 = none := by kernel_rfl
theorem conc104 : Program.concrete Try.prog 104 = true := by kernel_rfl
theorem szT106 : szT Try.prog 106 = some (1, false) := by kernel_rfl
theorem arT106 : arT Try.prog 106 = none := by kernel_rfl
theorem conc106 : Program.concrete Try.prog 106 = true := by kernel_rfl
theorem szT109 : szT Try.prog 109 = some (1, false) := by kernel_rfl
theorem arT109 : arT Try.prog 109 = none := by kernel_rfl
theorem conc109 : Program.concrete Try.prog 109 = true := by kernel_rfl
theorem szT110 : szT Try.prog 110 = some (1, false) := by kernel_rfl
theorem arT110 : arT Try.prog 110 = none := by kernel_rfl
theorem conc110 : Program.concrete Try.prog 110 = true := by kernel_rfl
theorem szT112 : szT Try.prog 112 = some (1, false) := by kernel_rfl
theorem arT112 : arT Try.prog 112 = none := by kernel_rfl
theorem conc112 : Program.concrete Try.prog 112 = true := by kernel_rfl
theorem szT113 : szT Try.prog 113 = some (1, false) := by kernel_rfl
theorem arT113 : arT Try.prog 113 = none := by kernel_rfl
theorem conc113 : Program.concrete Try.prog 113 = true := by kernel_rfl
theorem szT114 : szT Try.prog 114 = some (1, false) := by kernel_rfl
theorem arT114 : arT Try.prog 114 = none := by kernel_rfl
theorem conc114 : Program.concrete Try.prog 114 = true := by kernel_rfl
theorem szT115 : szT Try.prog 115 = some (1, false) := by kernel_rfl
theorem arT115 : arT Try.prog 115 = none := by kernel_rfl
theorem conc115 : Program.concrete Try.prog 115 = true := by kernel_rfl
theorem szT118 : szT Try.prog 118 = some (1, false) := by kernel_rfl
theorem arT118 : arT Try.prog 118 = none := by kernel_rfl
theorem conc118 : Program.concrete Try.prog 118 = true := by kernel_rfl
theorem szT119 : szT Try.prog 119 = some (1, false) := by kernel_rfl
theorem arT119 : arT Try.prog 119 = none := by kernel_rfl
theorem conc119 : Program.concrete Try.prog 119 = true := by kernel_rfl
theorem szT122 : szT Try.prog 122 = some (1, false) := by kernel_rfl
theorem arT122 : arT Try.prog 122 = none := by kernel_rfl
theorem conc122 : Program.concrete Try.prog 122 = true := by kernel_rfl
theorem szT126 : szT Try.prog 126 = some (1, false) := by kernel_rfl
theorem arT126 : arT Try.prog 126 = none := by kernel_rfl
theorem conc126 : Program.concrete Try.prog 126 = true := by kernel_rfl
theorem szT127 : szT Try.prog 127 = some (1, false) := by kernel_rfl
theorem arT127 : arT Try.prog 127 = none := by kernel_rfl
theorem conc127 : Program.concrete Try.prog 127 = true := by kernel_rfl
theorem szT128 : szT Try.prog 128 = some (1, false) := by kernel_rfl
theorem arT128 : arT Try.prog 128 = none := by kernel_rfl
theorem conc128 : Program.concrete Try.prog 128 = true := by kernel_rfl
theorem szT129 : szT Try.prog 129 = some (1, false) := by kernel_rfl
theorem arT129 : arT Try.prog 129 = none := by kernel_rfl
theorem conc129 : Program.concrete Try.prog 129 = true := by kernel_rfl
theorem szT132 : szT Try.prog 132 = some (1, false) := by kernel_rfl
theorem arT132 : arT Try.prog 132 = none := by kernel_rfl
theorem conc132 : Program.concrete Try.prog 132 = true := by kernel_rfl
theorem szT133 : szT Try.prog 133 = some (1, false) := by kernel_rfl
theorem arT133 : arT Try.prog 133 = none := by kernel_rfl
theorem conc133 : Program.concrete Try.prog 133 = true := by kernel_rfl
theorem szT135 : szT Try.prog 135 = some (1, false) := by kernel_rfl
theorem arT135 : arT Try.prog 135 = none := by kernel_rfl
theorem conc135 : Program.concrete Try.prog 135 = true := by kernel_rfl
theorem szT137 : szT Try.prog 137 = some (1, false) := by kernel_rfl
theorem arT137 : arT Try.prog 137 = none := by kernel_rfl
theorem conc137 : Program.concrete Try.prog 137 = true := by kernel_rfl
theorem szT139 : szT Try.prog 139 = some (1, false) := by kernel_rfl
theorem arT139 : arT Try.prog 139 = none := by kernel_rfl
theorem conc139 : Program.concrete Try.prog 139 = true := by kernel_rfl
theorem szT140 : szT Try.prog 140 = some (1, false) := by kernel_rfl
theorem arT140 : arT Try.prog 140 = none := by kernel_rfl
theorem conc140 : Program.concrete Try.prog 140 = true := by kernel_rfl
theorem szT146 : szT Try.prog 146 = some (1, false) := by kernel_rfl
theorem arT146 : arT Try.prog 146 = none := by kernel_rfl
theorem conc146 : Program.concrete Try.prog 146 = true := by kernel_rfl
theorem szT149 : szT Try.prog 149 = some (1, false) := by kernel_rfl
theorem arT149 : arT Try.prog 149 = none := by kernel_rfl
theorem conc149 : Program.concrete Try.prog 149 = true := by kernel_rfl
theorem wtAll : type_of% (And.intro (And.intro (And.intro (And.intro (And.intro (And.intro (And.intro (And.intro (And.intro (@mapZ95) (@boolT4)) (And.intro (@ifcT20) (@eqT39))) (And.intro (And.intro (@szT2) (@arT2)) (And.intro (@conc2) (And.intro (@undS2) (@intT2))))) (And.intro (And.intro (And.intro (@elT2) (@azT2)) (And.intro (@zeroT2) (And.intro (@szT3) (@arT3)))) (And.intro (And.intro (@conc3) (@undS3)) (And.intro (@intT3) (And.intro (@elT3) (@azT3)))))) (And.intro (And.intro (And.intro (And.intro (@zeroT3) (@szT4)) (And.intro (@arT4) (And.intro (@conc4) (@undS4)))) (And.intro (And.intro (@elT4) (@azT4)) (And.intro (@zeroT4) (And.intro (@szT5) (@arT5))))) (And.intro (And.intro (And.intro (@conc5) (@undS5)) (And.intro (@intT5) (And.intro (@elT5) (@azT5)))) (And.intro (And.intro (@zeroT5) (@szT12)) (And.intro (@arT12) (And.intro (@conc12) (@undS12))))))) (And.intro (And.intro (And.intro (And.intro (And.intro (@intT12) (@elT12)) (And.intro (@azT12) (@zeroT12))) (And.intro (And.intro (@szT13) (@arT13)) (And.intro (@conc13) (And.intro (@undS13) (@elT13))))) (And.intro (And.intro (And.intro (@azT13) (@zeroT13)) (And.intro (@bT13) (And.intro (@fldT13_0) (@fldT13_1)))) (And.intro (And.intro (@szT20) (@arT20)) (And.intro (@szT21) (And.intro (@arT21) (@conc21)))))) (And.intro (And.intro (And.intro (And.intro (@undS21) (@intT21)) (And.intro (@elT21) (And.intro (@azT21) (@zeroT21)))) (And.intro (And.intro (@szT22) (@arT22)) (And.intro (@conc22) (And.intro (@undS22) (@elT22))))) (And.intro (And.intro (And.intro (@elB22) (@bsT22)) (And.intro (@azT22) (And.intro (@zeroT22) (@szT23)))) (And.intro (And.intro (@arT23) (@conc23)) (And.intro (@undS23) (And.intro (@elT23) (@elB23)))))))) (And.intro (And.intro (And.intro (And.intro (And.intro (And.intro (@bsT23) (@azT23)) (And.intro (@zeroT23) (@szT24))) (And.intro (And.intro (@arT24) (@conc24)) (And.intro (@undS24) (And.intro (@elT24) (@azT24))))) (And.intro (And.intro (And.intro (@zeroT24) (@bT24)) (And.intro (@fldT24_0) (And.intro (@fldT24_1) (@szT25)))) (And.intro (And.intro (@arT25) (@conc25)) (And.intro (@undS25) (And.intro (@elT25) (@azT25)))))) (And.intro (And.intro (And.intro (And.intro (@zeroT25) (@bT25)) (And.intro (@fldT25_0) (And.intro (@fldT25_1) (@szT28)))) (And.intro (And.intro (@arT28) (@conc28)) (And.intro (@undS28) (And.intro (@intT28) (@elT28))))) (And.intro (And.intro (And.intro (@azT28) (@zeroT28)) (And.intro (@szT32) (And.intro (@arT32) (@conc32)))) (And.intro (And.intro (@undS32) (@elT32)) (And.intro (@elB32) (And.intro (@bsT32) (@azT32))))))) (And.intro (And.intro (And.intro (And.intro (And.intro (@zeroT32) (@szT38)) (And.intro (@arT38) (And.intro (@conc38) (@undS38)))) (And.intro (And.intro (@elT38) (@azT38)) (And.intro (@zeroT38) (And.intro (@bT38) (@fldT38_0))))) (And.intro (And.intro (And.intro (@fldT38_1) (@szT39)) (And.intro (@arT39) (And.intro (@conc39) (@undS39)))) (And.intro (And.intro (@elT39) (@azT39)) (And.intro (@zeroT39) (And.intro (@bT39) (@fldT39_0)))))) (And.intro (And.intro (And.intro (And.intro (@fldT39_1) (@szT50)) (And.intro (@conc50) (And.intro (@undS50) (@elT50)))) (And.intro (And.intro (@arT50) (@azT50)) (And.intro (@zeroT50) (And.intro (@szT51) (@arT51))))) (And.intro (And.intro (And.intro (@conc51) (@undS51)) (And.intro (@elT51) (And.intro (@elB51) (@bsT51)))) (And.intro (And.intro (@azT51) (@zeroT51)) (And.intro (@szT53) (And.intro (@arT53) (@conc53))))))))) (And.intro (And.intro (And.intro (And.intro (And.intro (And.intro (And.intro (@undS53) (@elT53)) (And.intro (@elB53) (@bsT53))) (And.intro (And.intro (@azT53) (@zeroT53)) (And.intro (@szT57) (And.intro (@arT57) (@conc57))))) (And.intro (And.intro (And.intro (@undS57) (@elT57)) (And.intro (@azT57) (And.intro (@zeroT57) (@bT57)))) (And.intro (And.intro (@fldT57_0) (@fldT57_1)) (And.intro (@fldT57_2) (And.intro (@szT58) (@arT58)))))) (And.intro (And.intro (And.intro (And.intro (@conc58) (@undS58)) (And.intro (@elT58) (And.intro (@azT58) (@zeroT58)))) (And.intro (And.intro (@bT58) (@fldT58_0)) (And.intro (@fldT58_1) (And.intro (@fldT58_2) (@szT64))))) (And.intro (And.intro (And.intro (@arT64) (@conc64)) (And.intro (@szT68) (And.intro (@arT68) (@conc68)))) (And.intro (And.intro (@undS68) (@elT68)) (And.intro (@elB68) (And.intro (@bsT68) (@azT68))))))) (And.intro (And.intro (And.intro (And.intro (And.intro (@zeroT68) (@szT73)) (And.intro (@zeroT73) (@arT73))) (And.intro (And.intro (@conc73) (@szT74)) (And.intro (@zeroT74) (And.intro (@arT74) (@conc74))))) (And.intro (And.intro (And.intro (@szT77) (@arT77)) (And.intro (@conc77) (And.intro (@undS77) (@elT77)))) (And.intro (And.intro (@azT77) (@zeroT77)) (And.intro (@bT77) (And.intro (@fldT77_0) (@szT78)))))) (And.intro (And.intro (And.intro (And.intro (@arT78) (@conc78)) (And.intro (@undS78) (And.intro (@elT78) (@azT78)))) (And.intro (And.intro (@zeroT78) (@bT78)) (And.intro (@fldT78_0) (And.intro (@szT79) (@arT79))))) (And.intro (And.intro (And.intro (@conc79) (@undS79)) (And.intro (@elT79) (And.intro (@azT79) (@zeroT79)))) (And.intro (And.intro (@bT79) (@fldT79_0)) (And.intro (@fldT79_1) (And.intro (@szT80) (@arT80)))))))) (And.intro (And.intro (And.intro (And.intro (And.intro (And.intro (@conc80) (@undS80)) (And.intro (@elT80) (@azT80))) (And.intro (And.intro (@zeroT80) (@bT80)) (And.intro (@fldT80_0) (And.intro (@fldT80_1) (@szT87))))) (And.intro (And.intro (And.intro (@conc87) (@undS87)) (And.intro (@elT87) (And.intro (@arT87) (@azT87)))) (And.intro (And.intro (@szT88) (@conc88)) (And.intro (@undS88) (And.intro (@elT88) (@arT88)))))) (And.intro (And.intro (And.intro (And.intro (@azT88) (@szT91)) (And.intro (@arT91) (And.intro (@conc91) (@undS91)))) (And.intro (And.intro (@elT91) (@elB91)) (And.intro (@bsT91) (And.intro (@azT91) (@zeroT91))))) (And.intro (And.intro (And.intro (@szT95) (@arT95)) (And.intro (@conc95) (And.intro (@szT96) (@arT96)))) (And.intro (And.intro (@conc96) (@undS96)) (And.intro (@elT96) (And.intro (@azT96) (@zeroT96))))))) (And.intro (And.intro (And.intro (And.intro (And.intro (@bT96) (@fldT96_0)) (And.intro (@fldT96_1) (And.intro (@szT97) (@arT97)))) (And.intro (And.intro (@conc97) (@undS97)) (And.intro (@elT97) (And.intro (@azT97) (@zeroT97))))) (And.intro (And.intro (And.intro (@bT97) (@fldT97_0)) (And.intro (@fldT97_1) (And.intro (@szT100) (@arT100)))) (And.intro (And.intro (@conc100) (@undS100)) (And.intro (@elT100) (And.intro (@azT100) (@zeroT100)))))) (And.intro (And.intro (And.intro (And.intro (@bT100) (@fldT100_0)) (And.intro (@szT101) (And.intro (@arT101) (@conc101)))) (And.intro (And.intro (@undS101) (@elT101)) (And.intro (@azT101) (And.intro (@zeroT101) (@bT101))))) (And.intro (And.intro (And.intro (@fldT101_0) (@szT102)) (And.intro (@arT102) (And.intro (@conc102) (@undS102)))) (And.intro (And.intro (@elT102) (@azT102)) (And.intro (@zeroT102) (And.intro (@bT102) (@fldT102_0)))))))))) (And.intro (And.intro (And.intro (And.intro (And.intro (And.intro (And.intro (And.intro (@fldT102_1) (@szT103)) (And.intro (@arT103) (@conc103))) (And.intro (And.intro (@undS103) (@elT103)) (And.intro (@azT103) (And.intro (@zeroT103) (@bT103))))) (And.intro (And.intro (And.intro (@fldT103_0) (@fldT103_1)) (And.intro (@szT107) (And.intro (@arT107) (@conc107)))) (And.intro (And.intro (@undS107) (@elT107)) (And.intro (@azT107) (And.intro (@zeroT107) (@bT107)))))) (And.intro (And.intro (And.intro (And.intro (@fldT107_0) (@szT108)) (And.intro (@arT108) (And.intro (@conc108) (@undS108)))) (And.intro (And.intro (@elT108) (@azT108)) (And.intro (@zeroT108) (And.intro (@bT108) (@fldT108_0))))) (And.intro (And.intro (And.intro (@szT111) (@arT111)) (And.intro (@conc111) (And.intro (@undS111) (@intT111)))) (And.intro (And.intro (@elT111) (@azT111)) (And.intro (@zeroT111) (And.intro (@szT116) (@arT116))))))) (And.intro (And.intro (And.intro (And.intro (And.intro (@conc116) (@undS116)) (And.intro (@elT116) (@elB116))) (And.intro (And.intro (@bsT116) (@azT116)) (And.intro (@zeroT116) (And.intro (@szT120) (@arT120))))) (And.intro (And.intro (And.intro (@conc120) (@undS120)) (And.intro (@elT120) (And.intro (@azT120) (@zeroT120)))) (And.intro (And.intro (@bT120) (@fldT120_0)) (And.intro (@szT121) (And.intro (@arT121) (@conc121)))))) (And.intro (And.intro (And.intro (And.intro (@undS121) (@elT121)) (And.intro (@azT121) (And.intro (@zeroT121) (@bT121)))) (And.intro (And.intro (@fldT121_0) (@szT123)) (And.intro (@arT123) (And.intro (@conc123) (@undS123))))) (And.intro (And.intro (And.intro (@intT123) (@elT123)) (And.intro (@azT123) (And.intro (@zeroT123) (@szT124)))) (And.intro (And.intro (@arT124) (@conc124)) (And.intro (@undS124) (And.intro (@intT124) (@elT124)))))))) (And.intro (And.intro (And.intro (And.intro (And.intro (And.intro (@azT124) (@zeroT124)) (And.intro (@szT130) (@arT130))) (And.intro (And.intro (@szT131) (@arT131)) (And.intro (@szT134) (And.intro (@arT134) (@conc134))))) (And.intro (And.intro (And.intro (@undS134) (@intT134)) (And.intro (@elT134) (And.intro (@azT134) (@zeroT134)))) (And.intro (And.intro (@szT136) (@arT136)) (And.intro (@conc136) (And.intro (@undS136) (@intT136)))))) (And.intro (And.intro (And.intro (And.intro (@elT136) (@azT136)) (And.intro (@zeroT136) (And.intro (@szT150) (@zeroT150)))) (And.intro (And.intro (@arT150) (@conc150)) (And.intro (@szT155) (And.intro (@arT155) (@conc155))))) (And.intro (And.intro (And.intro (@undS155) (@elT155)) (And.intro (@azT155) (And.intro (@zeroT155) (@szT1)))) (And.intro (And.intro (@arT1) (@conc1)) (And.intro (@szT26) (And.intro (@arT26) (@conc26))))))) (And.intro (And.intro (And.intro (And.intro (And.intro (@szT27) (@arT27)) (And.intro (@conc27) (And.intro (@szT30) (@arT30)))) (And.intro (And.intro (@conc30) (@szT31)) (And.intro (@arT31) (And.intro (@conc31) (@szT34))))) (And.intro (And.intro (And.intro (@arT34) (@conc34)) (And.intro (@szT35) (And.intro (@arT35) (@conc35)))) (And.intro (And.intro (@szT36) (@arT36)) (And.intro (@conc36) (And.intro (@szT37) (@arT37)))))) (And.intro (And.intro (And.intro (And.intro (@conc37) (@szT41)) (And.intro (@arT41) (And.intro (@conc41) (@szT43)))) (And.intro (And.intro (@arT43) (@conc43)) (And.intro (@szT45) (And.intro (@arT45) (@conc45))))) (And.intro (And.intro (And.intro (@szT46) (@arT46)) (And.intro (@conc46) (And.intro (@szT47) (@arT47)))) (And.intro (And.intro (@conc47) (@szT49)) (And.intro (@arT49) (And.intro (@conc49) (@szT52))))))))) (And.intro (And.intro (And.intro (And.intro (And.intro (And.intro (And.intro (@arT52) (@conc52)) (And.intro (@szT55) (@arT55))) (And.intro (And.intro (@conc55) (@szT56)) (And.intro (@arT56) (And.intro (@conc56) (@szT59))))) (And.intro (And.intro (And.intro (@arT59) (@conc59)) (And.intro (@szT60) (And.intro (@arT60) (@conc60)))) (And.intro (And.intro (@szT61) (@arT61)) (And.intro (@conc61) (And.intro (@szT62) (@arT62)))))) (And.intro (And.intro (And.intro (And.intro (@conc62) (@szT63)) (And.intro (@arT63) (And.intro (@conc63) (@szT65)))) (And.intro (And.intro (@arT65) (@conc65)) (And.intro (@szT66) (And.intro (@arT66) (@conc66))))) (And.intro (And.intro (And.intro (@szT67) (@arT67)) (And.intro (@conc67) (And.intro (@szT69) (@arT69)))) (And.intro (And.intro (@conc69) (@szT70)) (And.intro (@arT70) (And.intro (@conc70) (@szT71))))))) (And.intro (And.intro (And.intro (And.intro (And.intro (@arT71) (@conc71)) (And.intro (@szT72) (And.intro (@arT72) (@conc72)))) (And.intro (And.intro (@szT75) (@arT75)) (And.intro (@conc75) (And.intro (@szT76) (@arT76))))) (And.intro (And.intro (And.intro (@conc76) (@szT81)) (And.intro (@arT81) (And.intro (@conc81) (@szT82)))) (And.intro (And.intro (@arT82) (@conc82)) (And.intro (@szT83) (And.intro (@arT83) (@conc83)))))) (And.intro (And.intro (And.intro (And.intro (@szT84) (@arT84)) (And.intro (@conc84) (And.intro (@szT85) (@arT85)))) (And.intro (And.intro (@conc85) (@szT86)) (And.intro (@arT86) (And.intro (@conc86) (@szT89))))) (And.intro (And.intro (And.intro (@arT89) (@conc89)) (And.intro (@szT90) (And.intro (@arT90) (@conc90)))) (And.intro (And.intro (@szT92) (@arT92)) (And.intro (@conc92) (And.intro (@szT93) (@arT93)))))))) (And.intro (And.intro (And.intro (And.intro (And.intro (And.intro (@conc93) (@szT94)) (And.intro (@arT94) (@conc94))) (And.intro (And.intro (@szT98) (@arT98)) (And.intro (@conc98) (And.intro (@szT99) (@arT99))))) (And.intro (And.intro (And.intro (@conc99) (@szT104)) (And.intro (@arT104) (And.intro (@conc104) (@szT106)))) (And.intro (And.intro (@arT106) (@conc106)) (And.intro (@szT109) (And.intro (@arT109) (@conc109)))))) (And.intro (And.intro (And.intro (And.intro (@szT110) (@arT110)) (And.intro (@conc110) (And.intro (@szT112) (@arT112)))) (And.intro (And.intro (@conc112) (@szT113)) (And.intro (@arT113) (And.intro (@conc113) (@szT114))))) (And.intro (And.intro (And.intro (@arT114) (@conc114)) (And.intro (@szT115) (And.intro (@arT115) (@conc115)))) (And.intro (And.intro (@szT118) (@arT118)) (And.intro (@conc118) (And.intro (@szT119) (@arT119))))))) (And.intro (And.intro (And.intro (And.intro (And.intro (@conc119) (@szT122)) (And.intro (@arT122) (And.intro (@conc122) (@szT126)))) (And.intro (And.intro (@arT126) (@conc126)) (And.intro (@szT127) (And.intro (@arT127) (@conc127))))) (And.intro (And.intro (And.intro (@szT128) (@arT128)) (And.intro (@conc128) (And.intro (@szT129) (@arT129)))) (And.intro (And.intro (@conc129) (@szT132)) (And.intro (@arT132) (And.intro (@conc132) (@szT133)))))) (And.intro (And.intro (And.intro (And.intro (@arT133) (@conc133)) (And.intro (@szT135) (And.intro (@arT135) (@conc135)))) (And.intro (And.intro (@szT137) (@arT137)) (And.intro (@conc137) (And.intro (@szT139) (@arT139))))) (And.intro (And.intro (And.intro (@conc139) (@szT140)) (And.intro (@arT140) (And.intro (@conc140) (@szT146)))) (And.intro (And.intro (@arT146) (@conc146)) (And.intro (@szT149) (And.intro (@arT149) (@conc149))))))))))) := And.intro (And.intro (And.intro (And.intro (And.intro (And.intro (And.intro (And.intro (And.intro (@mapZ95) (@boolT4)) (And.intro (@ifcT20) (@eqT39))) (And.intro (And.intro (@szT2) (@arT2)) (And.intro (@conc2) (And.intro (@undS2) (@intT2))))) (And.intro (And.intro (And.intro (@elT2) (@azT2)) (And.intro (@zeroT2) (And.intro (@szT3) (@arT3)))) (And.intro (And.intro (@conc3) (@undS3)) (And.intro (@intT3) (And.intro (@elT3) (@azT3)))))) (And.intro (And.intro (And.intro (And.intro (@zeroT3) (@szT4)) (And.intro (@arT4) (And.intro (@conc4) (@undS4)))) (And.intro (And.intro (@elT4) (@azT4)) (And.intro (@zeroT4) (And.intro (@szT5) (@arT5))))) (And.intro (And.intro (And.intro (@conc5) (@undS5)) (And.intro (@intT5) (And.intro (@elT5) (@azT5)))) (And.intro (And.intro (@zeroT5) (@szT12)) (And.intro (@arT12) (And.intro (@conc12) (@undS12))))))) (And.intro (And.intro (And.intro (And.intro (And.intro (@intT12) (@elT12)) (And.intro (@azT12) (@zeroT12))) (And.intro (And.intro (@szT13) (@arT13)) (And.intro (@conc13) (And.intro (@undS13) (@elT13))))) (And.intro (And.intro (And.intro (@azT13) (@zeroT13)) (And.intro (@bT13) (And.intro (@fldT13_0) (@fldT13_1)))) (And.intro (And.intro (@szT20) (@arT20)) (And.intro (@szT21) (And.intro (@arT21) (@conc21)))))) (And.intro (And.intro (And.intro (And.intro (@undS21) (@intT21)) (And.intro (@elT21) (And.intro (@azT21) (@zeroT21)))) (And.intro (And.intro (@szT22) (@arT22)) (And.intro (@conc22) (And.intro (@undS22) (@elT22))))) (And.intro (And.intro (And.intro (@elB22) (@bsT22)) (And.intro (@azT22) (And.intro (@zeroT22) (@szT23)))) (And.intro (And.intro (@arT23) (@conc23)) (And.intro (@undS23) (And.intro (@elT23) (@elB23)))))))) (And.intro (And.intro (And.intro (And.intro (And.intro (And.intro (@bsT23) (@azT23)) (And.intro (@zeroT23) (@szT24))) (And.intro (And.intro (@arT24) (@conc24)) (And.intro (@undS24) (And.intro (@elT24) (@azT24))))) (And.intro (And.intro (And.intro (@zeroT24) (@bT24)) (And.intro (@fldT24_0) (And.intro (@fldT24_1) (@szT25)))) (And.intro (And.intro (@arT25) (@conc25)) (And.intro (@undS25) (And.intro (@elT25) (@azT25)))))) (And.intro (And.intro (And.intro (And.intro (@zeroT25) (@bT25)) (And.intro (@fldT25_0) (And.intro (@fldT25_1) (@szT28)))) (And.intro (And.intro (@arT28) (@conc28)) (And.intro (@undS28) (And.intro (@intT28) (@elT28))))) (And.intro (And.intro (And.intro (@azT28) (@zeroT28)) (And.intro (@szT32) (And.intro (@arT32) (@conc32)))) (And.intro (And.intro (@undS32) (@elT32)) (And.intro (@elB32) (And.intro (@bsT32) (@azT32))))))) (And.intro (And.intro (And.intro (And.intro (And.intro (@zeroT32) (@szT38)) (And.intro (@arT38) (And.intro (@conc38) (@undS38)))) (And.intro (And.intro (@elT38) (@azT38)) (And.intro (@zeroT38) (And.intro (@bT38) (@fldT38_0))))) (And.intro (And.intro (And.intro (@fldT38_1) (@szT39)) (And.intro (@arT39) (And.intro (@conc39) (@undS39)))) (And.intro (And.intro (@elT39) (@azT39)) (And.intro (@zeroT39) (And.intro (@bT39) (@fldT39_0)))))) (And.intro (And.intro (And.intro (And.intro (@fldT39_1) (@szT50)) (And.intro (@conc50) (And.intro (@undS50) (@elT50)))) (And.intro (And.intro (@arT50) (@azT50)) (And.intro (@zeroT50) (And.intro (@szT51) (@arT51))))) (And.intro (And.intro (And.intro (@conc51) (@undS51)) (And.intro (@elT51) (And.intro (@elB51) (@bsT51)))) (And.intro (And.intro (@azT51) (@zeroT51)) (And.intro (@szT53) (And.intro (@arT53) (@conc53))))))))) (And.intro (And.intro (And.intro (And.intro (And.intro (And.intro (And.intro (@undS53) (@elT53)) (And.intro (@elB53) (@bsT53))) (And.intro (And.intro (@azT53) (@zeroT53)) (And.intro (@szT57) (And.intro (@arT57) (@conc57))))) (And.intro (And.intro (And.intro (@undS57) (@elT57)) (And.intro (@azT57) (And.intro (@zeroT57) (@bT57)))) (And.intro (And.intro (@fldT57_0) (@fldT57_1)) (And.intro (@fldT57_2) (And.intro (@szT58) (@arT58)))))) (And.intro (And.intro (And.intro (And.intro (@conc58) (@undS58)) (And.intro (@elT58) (And.intro (@azT58) (@zeroT58)))) (And.intro (And.intro (@bT58) (@fldT58_0)) (And.intro (@fldT58_1) (And.intro (@fldT58_2) (@szT64))))) (And.intro (And.intro (And.intro (@arT64) (@conc64)) (And.intro (@szT68) (And.intro (@arT68) (@conc68)))) (And.intro (And.intro (@undS68) (@elT68)) (And.intro (@elB68) (And.intro (@bsT68) (@azT68))))))) (And.intro (And.intro (And.intro (And.intro (And.intro (@zeroT68) (@szT73)) (And.intro (@zeroT73) (@arT73))) (And.intro (And.intro (@conc73) (@szT74)) (And.intro (@zeroT74) (And.intro (@arT74) (@conc74))))) (And.intro (And.intro (And.intro (@szT77) (@arT77)) (And.intro (@conc77) (And.intro (@undS77) (@elT77)))) (And.intro (And.intro (@azT77) (@zeroT77)) (And.intro (@bT77) (And.intro (@fldT77_0) (@szT78)))))) (And.intro (And.intro (And.intro (And.intro (@arT78) (@conc78)) (And.intro (@undS78) (And.intro (@elT78) (@azT78)))) (And.intro (And.intro (@zeroT78) (@bT78)) (And.intro (@fldT78_0) (And.intro (@szT79) (@arT79))))) (And.intro (And.intro (And.intro (@conc79) (@undS79)) (And.intro (@elT79) (And.intro (@azT79) (@zeroT79)))) (And.intro (And.intro (@bT79) (@fldT79_0)) (And.intro (@fldT79_1) (And.intro (@szT80) (@arT80)))))))) (And.intro (And.intro (And.intro (And.intro (And.intro (And.intro (@conc80) (@undS80)) (And.intro (@elT80) (@azT80))) (And.intro (And.intro (@zeroT80) (@bT80)) (And.intro (@fldT80_0) (And.intro (@fldT80_1) (@szT87))))) (And.intro (And.intro (And.intro (@conc87) (@undS87)) (And.intro (@elT87) (And.intro (@arT87) (@azT87)))) (And.intro (And.intro (@szT88) (@conc88)) (And.intro (@undS88) (And.intro (@elT88) (@arT88)))))) (And.intro (And.intro (And.intro (And.intro (@azT88) (@szT91)) (And.intro (@arT91) (And.intro (@conc91) (@undS91)))) (And.intro (And.intro (@elT91) (@elB91)) (And.intro (@bsT91) (And.intro (@azT91) (@zeroT91))))) (And.intro (And.intro (And.intro (@szT95) (@arT95)) (And.intro (@conc95) (And.intro (@szT96) (@arT96)))) (And.intro (And.intro (@conc96) (@undS96)) (And.intro (@elT96) (And.intro (@azT96) (@zeroT96))))))) (And.intro (And.intro (And.intro (And.intro (And.intro (@bT96) (@fldT96_0)) (And.intro (@fldT96_1) (And.intro (@szT97) (@arT97)))) (And.intro (And.intro (@conc97) (@undS97)) (And.intro (@elT97) (And.intro (@azT97) (@zeroT97))))) (And.intro (And.intro (And.intro (@bT97) (@fldT97_0)) (And.intro (@fldT97_1) (And.intro (@szT100) (@arT100)))) (And.intro (And.intro (@conc100) (@undS100)) (And.intro (@elT100) (And.intro (@azT100) (@zeroT100)))))) (And.intro (And.intro (And.intro (And.intro (@bT100) (@fldT100_0)) (And.intro (@szT101) (And.intro (@arT101) (@conc101)))) (And.intro (And.intro (@undS101) (@elT101)) (And.intro (@azT101) (And.intro (@zeroT101) (@bT101))))) (And.intro (And.intro (And.intro (@fldT101_0) (@szT102)) (And.intro (@arT102) (And.intro (@conc102) (@undS102)))) (And.intro (And.intro (@elT102) (@azT102)) (And.intro (@zeroT102) (And.intro (@bT102) (@fldT102_0)))))))))) (And.intro (And.intro (And.intro (And.intro (And.intro (And.intro (And.intro (And.intro (@fldT102_1) (@szT103)) (And.intro (@arT103) (@conc103))) (And.intro (And.intro (@undS103) (@elT103)) (And.intro (@azT103) (And.intro (@zeroT103) (@bT103))))) (And.intro (And.intro (And.intro (@fldT103_0) (@fldT103_1)) (And.intro (@szT107) (And.intro (@arT107) (@conc107)))) (And.intro (And.intro (@undS107) (@elT107)) (And.intro (@azT107) (And.intro (@zeroT107) (@bT107)))))) (And.intro (And.intro (And.intro (And.intro (@fldT107_0) (@szT108)) (And.intro (@arT108) (And.intro (@conc108) (@undS108)))) (And.intro (And.intro (@elT108) (@azT108)) (And.intro (@zeroT108) (And.intro (@bT108) (@fldT108_0))))) (And.intro (And.intro (And.intro (@szT111) (@arT111)) (And.intro (@conc111) (And.intro (@undS111) (@intT111)))) (And.intro (And.intro (@elT111) (@azT111)) (And.intro (@zeroT111) (And.intro (@szT116) (@arT116))))))) (And.intro (And.intro (And.intro (And.intro (And.intro (@conc116) (@undS116)) (And.intro (@elT116) (@elB116))) (And.intro (And.intro (@bsT116) (@azT116)) (And.intro (@zeroT116) (And.intro (@szT120) (@arT120))))) (And.intro (And.intro (And.intro (@conc120) (@undS120)) (And.intro (@elT120) (And.intro (@azT120) (@zeroT120)))) (And.intro (And.intro (@bT120) (@fldT120_0)) (And.intro (@szT121) (And.intro (@arT121) (@conc121)))))) (And.intro (And.intro (And.intro (And.intro (@undS121) (@elT121)) (And.intro (@azT121) (And.intro (@zeroT121) (@bT121)))) (And.intro (And.intro (@fldT121_0) (@szT123)) (And.intro (@arT123) (And.intro (@conc123) (@undS123))))) (And.intro (And.intro (And.intro (@intT123) (@elT123)) (And.intro (@azT123) (And.intro (@zeroT123) (@szT124)))) (And.intro (And.intro (@arT124) (@conc124)) (And.intro (@undS124) (And.intro (@intT124) (@elT124)))))))) (And.intro (And.intro (And.intro (And.intro (And.intro (And.intro (@azT124) (@zeroT124)) (And.intro (@szT130) (@arT130))) (And.intro (And.intro (@szT131) (@arT131)) (And.intro (@szT134) (And.intro (@arT134) (@conc134))))) (And.intro (And.intro (And.intro (@undS134) (@intT134)) (And.intro (@elT134) (And.intro (@azT134) (@zeroT134)))) (And.intro (And.intro (@szT136) (@arT136)) (And.intro (@conc136) (And.intro (@undS136) (@intT136)))))) (And.intro (And.intro (And.intro (And.intro (@elT136) (@azT136)) (And.intro (@zeroT136) (And.intro (@szT150) (@zeroT150)))) (And.intro (And.intro (@arT150) (@conc150)) (And.intro (@szT155) (And.intro (@arT155) (@conc155))))) (And.intro (And.intro (And.intro (@undS155) (@elT155)) (And.intro (@azT155) (And.intro (@zeroT155) (@szT1)))) (And.intro (And.intro (@arT1) (@conc1)) (And.intro (@szT26) (And.intro (@arT26) (@conc26))))))) (And.intro (And.intro (And.intro (And.intro (And.intro (@szT27) (@arT27)) (And.intro (@conc27) (And.intro (@szT30) (@arT30)))) (And.intro (And.intro (@conc30) (@szT31)) (And.intro (@arT31) (And.intro (@conc31) (@szT34))))) (And.intro (And.intro (And.intro (@arT34) (@conc34)) (And.intro (@szT35) (And.intro (@arT35) (@conc35)))) (And.intro (And.intro (@szT36) (@arT36)) (And.intro (@conc36) (And.intro (@szT37) (@arT37)))))) (And.intro (And.intro (And.intro (And.intro (@conc37) (@szT41)) (And.intro (@arT41) (And.intro (@conc41) (@szT43)))) (And.intro (And.intro (@arT43) (@conc43)) (And.intro (@szT45) (And.intro (@arT45) (@conc45))))) (And.intro (And.intro (And.intro (@szT46) (@arT46)) (And.intro (@conc46) (And.intro (@szT47) (@arT47)))) (And.intro (And.intro (@conc47) (@szT49)) (And.intro (@arT49) (And.intro (@conc49) (@szT52))))))))) (And.intro (And.intro (And.intro (And.intro (And.intro (And.intro (And.intro (@arT52) (@conc52)) (And.intro (@szT55) (@arT55))) (And.intro (And.intro (@conc55) (@szT56)) (And.intro (@arT56) (And.intro (@conc56) (@szT59))))) (And.intro (And.intro (And.intro (@arT59) (@conc59)) (And.intro (@szT60) (And.intro (@arT60) (@conc60)))) (And.intro (And.intro (@szT61) (@arT61)) (And.intro (@conc61) (And.intro (@szT62) (@arT62)))))) (And.intro (And.intro (And.intro (And.intro (@conc62) (@szT63)) (And.intro (@arT63) (And.intro (@conc63) (@szT65)))) (And.intro (And.intro (@arT65) (@conc65)) (And.intro (@szT66) (And.intro (@arT66) (@conc66))))) (And.intro (And.intro (And.intro (@szT67) (@arT67)) (And.intro (@conc67) (And.intro (@szT69) (@arT69)))) (And.intro (And.intro (@conc69) (@szT70)) (And.intro (@arT70) (And.intro (@conc70) (@szT71))))))) (And.intro (And.intro (And.intro (And.intro (And.intro (@arT71) (@conc71)) (And.intro (@szT72) (And.intro (@arT72) (@conc72)))) (And.intro (And.intro (@szT75) (@arT75)) (And.intro (@conc75) (And.intro (@szT76) (@arT76))))) (And.intro (And.intro (And.intro (@conc76) (@szT81)) (And.intro (@arT81) (And.intro (@conc81) (@szT82)))) (And.intro (And.intro (@arT82) (@conc82)) (And.intro (@szT83) (And.intro (@arT83) (@conc83)))))) (And.intro (And.intro (And.intro (And.intro (@szT84) (@arT84)) (And.intro (@conc84) (And.intro (@szT85) (@arT85)))) (And.intro (And.intro (@conc85) (@szT86)) (And.intro (@arT86) (And.intro (@conc86) (@szT89))))) (And.intro (And.intro (And.intro (@arT89) (@conc89)) (And.intro (@szT90) (And.intro (@arT90) (@conc90)))) (And.intro (And.intro (@szT92) (@arT92)) (And.intro (@conc92) (And.intro (@szT93) (@arT93)))))))) (And.intro (And.intro (And.intro (And.intro (And.intro (And.intro (@conc93) (@szT94)) (And.intro (@arT94) (@conc94))) (And.intro (And.intro (@szT98) (@arT98)) (And.intro (@conc98) (And.intro (@szT99) (@arT99))))) (And.intro (And.intro (And.intro (@conc99) (@szT104)) (And.intro (@arT104) (And.intro (@conc104) (@szT106)))) (And.intro (And.intro (@arT106) (@conc106)) (And.intro (@szT109) (And.intro (@arT109) (@conc109)))))) (And.intro (And.intro (And.intro (And.intro (@szT110) (@arT110)) (And.intro (@conc110) (And.intro (@szT112) (@arT112)))) (And.intro (And.intro (@conc112) (@szT113)) (And.intro (@arT113) (And.intro (@conc113) (@szT114))))) (And.intro (And.intro (And.intro (@arT114) (@conc114)) (And.intro (@szT115) (And.intro (@arT115) (@conc115)))) (And.intro (And.intro (@szT118) (@arT118)) (And.intro (@conc118) (And.intro (@szT119) (@arT119))))))) (And.intro (And.intro (And.intro (And.intro (And.intro (@conc119) (@szT122)) (And.intro (@arT122) (And.intro (@conc122) (@szT126)))) (And.intro (And.intro (@arT126) (@conc126)) (And.intro (@szT127) (And.intro (@arT127) (@conc127))))) (And.intro (And.intro (And.intro (@szT128) (@arT128)) (And.intro (@conc128) (And.intro (@szT129) (@arT129)))) (And.intro (And.intro (@conc129) (@szT132)) (And.intro (@arT132) (And.intro (@conc132) (@szT133)))))) (And.intro (And.intro (And.intro (And.intro (@arT133) (@conc133)) (And.intro (@szT135) (And.intro (@arT135) (@conc135)))) (And.intro (And.intro (@szT137) (@arT137)) (And.intro (@conc137) (And.intro (@szT139) (@arT139))))) (And.intro (And.intro (And.intro (@conc139) (@szT140)) (And.intro (@arT140) (And.intro (@conc140) (@szT146)))) (And.intro (And.intro (@arT146) (@conc146)) (And.intro (@szT149) (And.intro (@arT149) (@conc149))))))))))
end Go.Proofs.Ytdeollnepclhaaa
end
section
set_option linter.unusedVariables false
set_option linter.unusedSimpArgs false
namespace Go.Proofs.Ytdeollnepclhaaa
open Go.V
theorem mul_small (t k : Int) (ht : -2 ≤ t ∧ t ≤ 2) (hk : -7 ≤ k ∧ k ≤ 7) : -14 ≤ t * k ∧ t * k ≤ 14 := by
  have : t = -2 ∨ t = -1 ∨ t = 0 ∨ t = 1 ∨ t = 2 := by omega
  rcases this with rfl | rfl | rfl | rfl | rfl <;> omega

theorem uz_bound (h : Hd) (s t p : Int) (k : HOk h) (hp : 0 ≤ p ∧ p < h.n) (ht : -2 ≤ t ∧ t ≤ 2) : 0 ≤ uz h s t p ∧ uz h s t p ≤ max 0 (s + 14) := by
  have hf := k.fi p hp
  have hn := k.n
  have hm := mul_small t (p - (h.n : Int) / 2) ht (by omega)
  simp only [uz]
  omega

theorem volN_bound (h : Hd) (s t : Int) (k : HOk h) (hs : -1000 ≤ s ∧ s ≤ 1000) (ht : -2 ≤ t ∧ t ≤ 2) (i : Nat) (hi : i ≤ h.n) : 0 ≤ volN h s t i ∧ volN h s t i ≤ 1014 * i := by
  induction i with
  | zero => simp [volN]
  | succ i ih =>
    have := ih (by omega)
    have h2 := uz_bound h s t i k (by omega) ht
    simp only [volN, Int.natCast_add, Int.natCast_one]
    omega

end Go.Proofs.Ytdeollnepclhaaa
end
section
set_option linter.unusedVariables false
set_option linter.unusedSimpArgs false
namespace Go.Proofs.Ytdeollnepclhaaa
open Go.V
theorem uz_mono (h : Hd) (s s' t p : Int) (hs : s ≤ s') : uz h s t p ≤ uz h s' t p := by
  simp only [uz]; omega
theorem volN_mono (h : Hd) (s s' t : Int) (hs : s ≤ s') (i : Nat) : volN h s t i ≤ volN h s' t i := by
  induction i with
  | zero => simp [volN]
  | succ i ih => have := uz_mono h s s' t i hs; simp only [volN]; omega
theorem vol_mono (h : Hd) (s s' t : Int) (hs : s ≤ s') : vol h s t ≤ vol h s' t := volN_mono h s s' t hs _
theorem volN_part (h : Hd) (s t : Int) (k : HOk h) (ht : -2 ≤ t ∧ t ≤ 2) (p i : Nat) (hp : p < i) (hi : i ≤ h.n) : uz h s t p ≤ volN h s t i := by
  induction i with
  | zero => omega
  | succ i ih =>
    have h0 : ∀ j : Nat, j ≤ h.n → 0 ≤ volN h s t j := fun j hj => by
      clear ih
      induction j with
      | zero => simp [volN]
      | succ j ih2 => have := ih2 (by omega); have := uz_bound h s t j k (by omega) ht; simp only [volN]; omega
    have h1 := uz_bound h s t i k (by omega) ht
    simp only [volN]
    by_cases e : p = i
    · subst e; have := h0 p (by omega); omega
    · have := ih (by omega) (by omega); omega
theorem vol_big (h : Hd) (s t : Int) (k : HOk h) (ht : -2 ≤ t ∧ t ≤ 2) (hs : 110 ≤ s) : 100 < vol h s t := by
  have hn := k.n
  have h1 := volN_part h s t k ht (h.n / 2) h.n (by omega) (Nat.le_refl _)
  have h2 := k.f (h.n / 2) (by omega)
  have e : ((h.n / 2 : Nat) : Int) - (h.n : Int) / 2 = 0 := by omega
  simp only [uz, e, Int.mul_zero, Int.toNat_natCast] at h1
  simp only [vol]
  omega
theorem vol_low (h : Hd) (s t : Int) (k : HOk h) (ht : -2 ≤ t ∧ t ≤ 2) (hs : s ≤ -14) : vol h s t = 0 := by
  have : ∀ i : Nat, i ≤ h.n → volN h s t i = 0 := fun i hi => by
    induction i with
    | zero => rfl
    | succ i ih => have := uz_bound h s t i k (by omega) ht; simp only [volN, ih (by omega)]; omega
  exact this _ (Nat.le_refl _)
theorem hzF_spec (h : Hd) (w t : Int) (k : HOk h) (ht : -2 ≤ t ∧ t ≤ 2) (hw : 0 ≤ w ∧ w ≤ 100) (f : Nat) (s : Int) (hs : vol h s t ≤ w) (hl : -20 ≤ s) (hf : 110 ≤ s + f) :
    -20 ≤ hzF h w t f s ∧ hzF h w t f s ≤ 110 ∧ vol h (hzF h w t f s) t ≤ w ∧ w < vol h (hzF h w t f s + 1) t := by
  induction f generalizing s with
  | zero => have := vol_big h s t k ht (by omega); omega
  | succ f ih =>
    simp only [hzF]
    split
    · rename_i h1; exact ih (s + 1) h1 (by omega) (by omega)
    · rename_i h1
      refine ⟨hl, ?_, hs, by omega⟩
      apply Classical.byContradiction; intro h2
      have := vol_big h s t k ht (by omega); omega
theorem hz_spec (h : Hd) (w t : Int) (k : HOk h) (ht : -2 ≤ t ∧ t ≤ 2) (hw : 0 ≤ w ∧ w ≤ 100) :
    -20 ≤ hz h w t ∧ hz h w t ≤ 110 ∧ vol h (hz h w t) t ≤ w ∧ w < vol h (hz h w t + 1) t := by
  have h1 := vol_low h (-20) t k ht (by omega)
  exact hzF_spec h w t k ht hw 140 (-20) (by omega) (by omega) (by omega)
theorem hz_unique (h : Hd) (w t s : Int) (k : HOk h) (ht : -2 ≤ t ∧ t ≤ 2) (hw : 0 ≤ w ∧ w ≤ 100) (h1 : vol h s t ≤ w) (h2 : w < vol h (s + 1) t) : s = hz h w t := by
  obtain ⟨_, _, h3, h4⟩ := hz_spec h w t k ht hw
  apply Classical.byContradiction; intro hne
  by_cases hlt : s < hz h w t
  · have := vol_mono h (s + 1) (hz h w t) t (by omega); omega
  · have := vol_mono h (hz h w t + 1) s t (by omega); omega

end Go.Proofs.Ytdeollnepclhaaa
end
section
set_option linter.unusedVariables false
set_option linter.unusedSimpArgs false
namespace Go.Proofs.Ytdeollnepclhaaa
open Go.V
def standE (h : Hd) (w t : Int) : Int := errE h (amtB w && tiltB t) false
def standV (h : Hd) (w t : Int) : Int := if standE h w t = 0 then hz h w t else 0
def depthE (h : Hd) (w t p : Int) : Int := errE h (amtB w && tiltB t && partB h p) false
def depthV (h : Hd) (w t p : Int) : Int := if depthE h w t p = 0 then dz h w t p else 0
end Go.Proofs.Ytdeollnepclhaaa
end
section
set_option linter.unusedVariables false
set_option linter.unusedSimpArgs false
namespace Go.Proofs.Ytdeollnepclhaaa
open Go.V
theorem ints_tri (a b : List Int) (H : Hp) (ha : a.length < 2 ^ 60) (hb : b.length < 2 ^ 60) : PTri Try.prog (fnA 32) [intsAV a, intsAV b] H (boo (decide (a = b))) := by
  refine tri_v0 (fun _ => false) Try.func32 (by kernel_rfl) rfl (by simp only [List.length_append, List.length_cons, List.length_nil, Try.ntmps32]; decide) ?_
  simp only [vsAll, binA, binLitA, intA, lenA, opA, dstOk, nilSliceOp, argFr, Nat.reduceLT, Nat.reduceEqDiff, ↓reduceIte, reduceCtorEq, eq_self, wtAll, Try.ntmps32]
  refine condV (fun hc => ?_) (fun hc => ?_)
  · have : decide (a = b) = false := decide_eq_false fun e => by subst e; simp at hc
    simp only [vsAll, opA, dstOk, nilSliceOp, resA, retA.eq_1, Nat.reduceLT, ↓reduceIte, eq_self, Try.results32, this]
  · simp only [Bool.not_eq_false', decide_eq_true_eq] at hc
    simp only [vsAll, opA, dstOk, nilSliceOp, Nat.reduceLT, eq_self]
    refine vs_loop (σ := Nat) (fun i => i ≤ a.length ∧ ∀ j, j < i → a.getD j 0 = b.getD j 0) (fun i => [(0, intsAV a), (1, intsAV b), (5, i64 i)]) (fun _ => H) (fun i => a.length - i) 0 ⟨Nat.zero_le _, fun j hj => absurd hj (by omega)⟩ ?_ ?_ fun i hi => ?_
    · simp only [vsAll, argFr, Nat.reduceEqDiff, ↓reduceIte, reduceCtorEq, eq_self, Int.natCast_zero]
    · simp only [HSub_refl]
    · obtain ⟨hi, hall⟩ := hi
      simp only [vsAll, binA, binLitA, intA, lenA, opA, dstOk, Nat.reduceLT, Nat.reduceEqDiff, ↓reduceIte, reduceCtorEq, eq_self, wtAll]
      refine condD (fun hd => ?_) (fun hd => ?_)
      · simp only [vsAll]
        refine vs_draw 9 (by decide +kernel) ?_
        simp only [vsAll, binA, binLitA, intA, loadA, loadRow, partA, partOk, indexAddrA, opA, dstOk, Nat.reduceLT, Nat.reduceEqDiff, ↓reduceIte, reduceCtorEq, eq_self, wtAll, intF_at]
        refine ⟨by omega, by omega, by omega, by omega, condV (fun hf => ?_) (fun hf => ?_)⟩
        · have : decide (a = b) = false := decide_eq_false fun e => by subst e; simp at hf
          simp only [vsAll, opA, dstOk, nilSliceOp, resA, retA.eq_1, Nat.reduceLT, ↓reduceIte, eq_self, Try.results32, this]
        · simp only [Bool.not_eq_false', decide_eq_true_eq] at hf
          simp only [vsAll, binA, binLitA, intA, opA, dstOk, nilSliceOp, Nat.reduceLT, Nat.reduceEqDiff, ↓reduceIte, reduceCtorEq, eq_self]
          refine ⟨by simp only [InR_i64]; omega, loop_next (i + 1) ⟨by omega, fun j hj => ?_⟩ (by omega) ?_ ?_⟩
          · by_cases e : j = i
            · subst e; exact hf
            · exact hall j (by omega)
          · simp only [vsAll, Nat.reduceEqDiff, ↓reduceIte, reduceCtorEq, eq_self, Int.natCast_add, Int.natCast_one]
          · simp only [HSub_refl]
      · have ei : i = a.length := by omega
        subst ei
        have : decide (a = b) = true := decide_eq_true (by
          apply List.ext_getElem (by omega)
          intro j h1 h2
          have := hall j h1
          rw [List.getD_eq_getElem?_getD, List.getD_eq_getElem?_getD, List.getElem?_eq_getElem h1, List.getElem?_eq_getElem h2] at this
          exact this)
        simp only [vsAll, opA, dstOk, nilSliceOp, resA, retA.eq_1, Nat.reduceLT, ↓reduceIte, eq_self, Try.results32, this]

theorem spans_tri (a b : List (Int × Int)) (H : Hp) (ha : a.length < 2 ^ 60) (hb : b.length < 2 ^ 60) : PTri Try.prog (fnA 23) [spansAV a, spansAV b] H (boo (decide (a = b))) := by
  refine tri_v0 (fun _ => false) Try.func23 (by kernel_rfl) rfl (by simp only [List.length_append, List.length_cons, List.length_nil, Try.ntmps23]; decide) ?_
  simp only [vsAll, binA, binLitA, intA, lenA, opA, dstOk, nilSliceOp, argFr, Nat.reduceLT, Nat.reduceEqDiff, ↓reduceIte, reduceCtorEq, eq_self, wtAll, Try.ntmps23]
  refine condV (fun hc => ?_) (fun hc => ?_)
  · have : decide (a = b) = false := decide_eq_false fun e => by subst e; simp at hc
    simp only [vsAll, opA, dstOk, nilSliceOp, resA, retA.eq_1, Nat.reduceLT, ↓reduceIte, eq_self, Try.results23, this]
  · simp only [Bool.not_eq_false', decide_eq_true_eq] at hc
    simp only [vsAll, opA, dstOk, nilSliceOp, Nat.reduceLT, eq_self]
    refine vs_loop (σ := Nat) (fun i => i ≤ a.length ∧ ∀ j, j < i → a.getD j (0, 0) = b.getD j (0, 0)) (fun i => [(0, spansAV a), (1, spansAV b), (5, i64 i)]) (fun _ => H) (fun i => a.length - i) 0 ⟨Nat.zero_le _, fun j hj => absurd hj (by omega)⟩ ?_ ?_ fun i hi => ?_
    · simp only [vsAll, argFr, Nat.reduceEqDiff, ↓reduceIte, reduceCtorEq, eq_self, Int.natCast_zero]
    · simp only [HSub_refl]
    · obtain ⟨hi, hall⟩ := hi
      simp only [vsAll, binA, binLitA, intA, lenA, opA, dstOk, Nat.reduceLT, Nat.reduceEqDiff, ↓reduceIte, reduceCtorEq, eq_self, wtAll]
      refine condD (fun hd => ?_) (fun hd => ?_)
      · simp only [vsAll]
        refine vs_draw 9 (by decide +kernel) ?_
        simp only [vsAll, binA, aggA, loadA, loadRow, partA, partOk, indexAddrA, opA, dstOk, Nat.reduceAdd, Nat.reduceLT, Nat.reduceEqDiff, ↓reduceIte, reduceCtorEq, eq_self, wtAll, spanF_at]
        have ep : ∀ x y : Int × Int, ([x.1, x.2] = [y.1, y.2]) = (x = y) := fun x y => by
          rcases x with ⟨x1, x2⟩; rcases y with ⟨y1, y2⟩; simp
        refine ⟨by omega, by omega, by omega, by omega, condV (fun hf => ?_) (fun hf => ?_)⟩
        · have : decide (a = b) = false := decide_eq_false fun e => by subst e; simp at hf
          simp only [vsAll, opA, dstOk, nilSliceOp, resA, retA.eq_1, Nat.reduceLT, ↓reduceIte, eq_self, Try.results23, this]
        · simp only [Bool.not_eq_false', decide_eq_true_eq, ep] at hf
          simp only [vsAll, binA, binLitA, intA, opA, dstOk, nilSliceOp, Nat.reduceLT, Nat.reduceEqDiff, ↓reduceIte, reduceCtorEq, eq_self]
          refine ⟨by simp only [InR_i64]; omega, loop_next (i + 1) ⟨by omega, fun j hj => ?_⟩ (by omega) ?_ ?_⟩
          · by_cases e : j = i
            · subst e; exact hf
            · exact hall j (by omega)
          · simp only [vsAll, Nat.reduceEqDiff, ↓reduceIte, reduceCtorEq, eq_self, Int.natCast_add, Int.natCast_one]
          · simp only [HSub_refl]
      · have ei : i = a.length := by omega
        subst ei
        have : decide (a = b) = true := decide_eq_true (by
          apply List.ext_getElem (by omega)
          intro j h1 h2
          have := hall j h1
          rw [List.getD_eq_getElem?_getD, List.getD_eq_getElem?_getD, List.getElem?_eq_getElem h1, List.getElem?_eq_getElem h2] at this
          exact this)
        simp only [vsAll, opA, dstOk, nilSliceOp, resA, retA.eq_1, Nat.reduceLT, ↓reduceIte, eq_self, Try.results23, this]

def overE (h : Hd) (w : Int) : Int := errE h (amtB w) true
def overV (h : Hd) (w : Int) : Int := if overE h w = 0 then (if w < ((allA h).getD 0 0 : Nat) then 2 else if (((allA h).getD ((allA h).length - 1) 0 : Nat) : Int) ≤ w then 0 else 1) else 0
/-- How many bits there are. -/
def popN : Nat → Nat → Nat
  | 0, _ => 0
  | f + 1, s => s % 2 + popN f (s / 2)
def pop (s : Nat) : Nat := popN 64 s
theorem pop_le (s : Nat) : pop s ≤ 64 := by
  have : ∀ f s, popN f s ≤ f := fun f => by
    induction f with
    | zero => intro s; simp [popN]
    | succ f ih => intro s; have := ih (s / 2); simp only [popN]; omega
  exact this 64 s

end Go.Proofs.Ytdeollnepclhaaa
end
section
set_option linter.unusedVariables false
set_option linter.unusedSimpArgs false
namespace Go.Proofs.Ytdeollnepclhaaa
open Go.V
theorem within_tri (n low high : Int) (H : Hp) : PTri Try.prog (fnA 76) [i64 n, i64 low, i64 high] H (boo (decide (low ≤ n) && decide (n ≤ high))) := by
  refine tri_v0 (fun _ => false) Try.func76 (by kernel_rfl) rfl (by simp only [List.length_append, List.length_cons, List.length_nil, Try.ntmps76]; decide) ?_
  simp only [vsAll, binA, binLitA, intA, pickA, opA, guardV, dstOk, nilSliceOp, resA, argFr, retA.eq_1, Nat.reduceLT, Nat.reduceEqDiff, ↓reduceIte, reduceCtorEq, implies_true, eq_self, Try.ntmps76, Try.results76]

theorem ask_tri (b : Bool) (e : Int) (H : Hp) : Tri Try.prog (fnA 87) [boo b, i64 e] H fun r H' => H' = H ∧ r = if b then .ret (.tuple []) else .pan (.iface 124 (i64 e)) := by
  refine tri_v0 (fun _ => false) Try.func87 (by kernel_rfl) rfl (by simp only [List.length_append, List.length_cons, List.length_nil, Try.ntmps87]; decide) ?_
  simp only [vsAll, unA, opA, dstOk, argFr, Nat.reduceLT, ↓reduceIte, eq_self, Try.ntmps87]
  refine condV (fun hc => ?_) (fun hc => ?_)
  · simp only [Bool.not_eq_true'] at hc
    subst hc
    simp only [vsAll, ifaceA, opA, dstOk, panA, argFr, Nat.reduceLT, Nat.reduceEqDiff, ↓reduceIte, eq_self, wtAll]
  · simp only [Bool.not_eq_false'] at hc
    subst hc
    simp only [vsAll, resA, retA.eq_2, ↓reduceIte, eq_self, Try.results87]

theorem ask_call {b : Bool} {e : Int} {H : Hp} {K : AV → Hp → Prop} {Kp : AV → Hp → Prop} (h1 : b = true → K (.tuple []) H) (h2 : b = false → Kp (.iface 124 (i64 e)) H) :
    CallK Try.prog (fnA 87) [boo b, i64 e] H K Kp := by
  refine ⟨_, ask_tri b e H, ?_⟩
  rintro r H' ⟨rfl, rfl⟩
  cases b
  · exact h2 rfl
  · exact h1 rfl

theorem rise_tri (t k : Int) (H : Hp) (hr : -1000 ≤ t * k ∧ t * k ≤ 1000) : PTri Try.prog (fnA 104) [.agg [i64 t], i64 k] H (i64 (t * k)) := by
  refine tri_v0 (fun _ => false) Try.func104 (by kernel_rfl) rfl (by simp only [List.length_append, List.length_cons, List.length_nil, Try.ntmps104]; decide) ?_
  simp only [vsAll, binA, binLitA, intA, loadA, loadRow, partA, partOk, fieldAddrA, boxA, opA, dstOk, nilSliceOp, resA, argFr, retA.eq_1, Nat.reduceLT, Nat.reduceEqDiff, ↓reduceIte, eq_self, wtAll, Try.ntmps104, Try.results104]
  simp only [InR_i64]
  omega

/-- By how much a surface is above a part's floor. -/
def dr (h : Hd) (s t p : Int) : Int := s + t * (p - (h.n : Int) / 2) - h.fl p.toNat
theorem uz_dr (h : Hd) (s t p : Int) : uz h s t p = max 0 (dr h s t p) := rfl

abbrev hdC (h : Hd) (id : Nat) : List AV := [flAV h.n h.fl, sdAV h.m h.sd, .map id]
abbrev hdP (h : Hd) (id : Nat) : AV := .rptr 1 3 (fun _ => hdC h id) 0 0

theorem depth_tri (h : Hd) (id : Nat) (s t p : Int) (H : Hp) (k : HOk h) (hp : 0 ≤ p ∧ p < h.n) (hs : -1000 ≤ s ∧ s ≤ 1000) (ht : -2 ≤ t ∧ t ≤ 2) :
    PTri Try.prog (fnA 96) [hdP h id, .agg [i64 t, i64 s], i64 p] H (i64 (dr h s t p)) := by
  have hf := k.fi p hp
  have hn := k.n
  have e : (h.n : Int).tdiv 2 = (h.n : Int) / 2 := Int.tdiv_eq_ediv_of_nonneg (by omega)
  have hm := mul_small t (p - (h.n : Int) / 2) ht (by omega)
  refine tri_v0 (fun _ => false) Try.func96 (by kernel_rfl) rfl (by simp only [List.length_append, List.length_cons, List.length_nil, Try.ntmps96]; decide) ?_
  simp only [vsAll, boxA, opA, dstOk, nilSliceOp, argFr, Nat.reduceAdd, Nat.reduceLT, eq_self, Try.ntmps96]
  refine vs_draw 25 (by decide +kernel) ?_
  simp only [vsAll, binA, binLitA, intA, loadA, loadRow, partA, partOk, fieldAddrA, lenA, nilCheckA, opA, dstOk, argFr, Nat.reduceLT, Nat.reduceLeDiff, Nat.reduceEqDiff, Int.reduceEq, ↓reduceIte, reduceCtorEq, eq_self, ne_eq, wtAll, e]
  refine ⟨by simp only [InR_i64]; omega, by simp only [InR_i64]; omega, qcall _ ⟨trivial, by simp only [vsAll, okAll, opsA, opA, Nat.reduceEqDiff, ↓reduceIte, eq_self], rise_tri t _ H (by omega)⟩ ?_⟩
  simp only [vsAll, binA, binLitA, intA, loadA, loadRow, partA, partOk, fieldAddrA, indexAddrA, nilCheckA, opA, dstOk, resA, argFr, retA.eq_1, Nat.reduceLT, Nat.reduceEqDiff, ↓reduceIte, reduceCtorEq, eq_self, wtAll, Try.results96, dr]
  simp only [InR_i64]
  omega

def sumN (l : List Int) : Int := (l.map (max 0 ·)).sum
theorem sumN_snoc (l : List Int) (x : Int) : sumN (l ++ [x]) = sumN l + max 0 x := by simp [sumN]

end Go.Proofs.Ytdeollnepclhaaa
end
section
set_option linter.unusedVariables false
set_option linter.unusedSimpArgs false
namespace Go.Proofs.Ytdeollnepclhaaa
open Go.V
abbrev surV (t s : Int) : Value := .agg #[.int .i64 t, .int .i64 s]
/-- What is kept: the water under surfaces. -/
def memoF (h : Hd) : Value → Value → Prop := fun k v => ∃ t s : Int, k = surV t s ∧ (-2 ≤ t ∧ t ≤ 2) ∧ (-1000 ≤ s ∧ s ≤ 1000) ∧ v = .int .i64 (vol h s t)

theorem surK (t s : Int) (ht : -2 ≤ t ∧ t ≤ 2) (hs : -1000 ≤ s ∧ s ≤ 1000) : ∃ l, keyOf Try.prog 80 (surV t s) = some l := by
  have := keyOf_ints (P := Try.prog) (k := 80) (d := 5) (n := 2) (by kernel_rfl) (by decide +kernel) (by kernel_rfl) (by kernel_rfl) (l := [t, s]) rfl (by kernel_rfl) (by
    intro x hx
    simp only [List.mem_cons, List.not_mem_nil, or_false] at hx
    rcases hx with rfl | rfl
    · exact wf_i64 (by simp only [InR_i64]; omega)
    · exact wf_i64 (by simp only [InR_i64]; omega))
  exact this

/-- The depths below a surface, as far as they are above 0, come to the water. -/
def drsN (h : Hd) (s t : Int) (n : Nat) : List Int := (List.range n).map fun p : Nat => dr h s t p
theorem drsN_succ (h : Hd) (s t : Int) (n : Nat) : drsN h s t (n + 1) = drsN h s t n ++ [dr h s t n] := by simp [drsN, List.range_succ]
theorem sum_drs (h : Hd) (s t : Int) (n : Nat) : sumN (drsN h s t n) = volN h s t n := by
  induction n with
  | zero => rfl
  | succ n ih => rw [drsN_succ, sumN_snoc, ih]; rfl

theorem drsN_len (h : Hd) (s t : Int) (n : Nat) : (drsN h s t n).length = n := by simp [drsN]
theorem dr_bound (h : Hd) (s t : Int) (p : Nat) (k : HOk h) (hp : p < h.n) (hs : -1000 ≤ s ∧ s ≤ 1000) (ht : -2 ≤ t ∧ t ≤ 2) : -2000 ≤ dr h s t p ∧ dr h s t p ≤ 2000 := by
  have hf := k.f p hp
  have hn := k.n
  have hm := mul_small t ((p : Int) - (h.n : Int) / 2) ht (by omega)
  simp only [dr, Int.toNat_natCast]
  omega

theorem sum_row_tri (l : List Int) (id : Nat) (H : Hp) (ho : H id = some (.row 1 l.length (intF l))) (hl : l.length ≤ 100) (hx : ∀ x ∈ l, x ≤ 10000) : PTri Try.prog (fnA 103) [.sl id 1 l.length] H (i64 (sumN l)) := by
  have hb : ∀ i, i ≤ l.length → 0 ≤ sumN (l.take i) ∧ sumN (l.take i) ≤ 10000 * i := by
    intro i hi
    induction i with
    | zero => simp [sumN]
    | succ i ih =>
      have := ih (by omega)
      have h2 := hx _ (mem_getD l i 0 (by omega))
      rw [take_snoc l i 0 (by omega), sumN_snoc]
      omega
  refine tri_v0 (fun _ => false) Try.func103 (by kernel_rfl) rfl (by simp only [List.length_append, List.length_cons, List.length_nil, Try.ntmps103]; decide) ?_
  simp only [vsAll, lenA, opA, dstOk, nilSliceOp, argFr, Nat.reduceLT, ↓reduceIte, reduceCtorEq, eq_self, wtAll, Try.ntmps103]
  refine vs_loop (σ := Nat) (fun i => i ≤ l.length) (fun i => [(2, i64 (sumN (l.take i))), (5, .sl id 1 l.length), (6, i64 l.length), (7, i64 i)]) (fun _ => H) (fun i => l.length - i) 0 (Nat.zero_le _) ?_ ?_ fun i hi => ?_
  · simp only [vsAll, Nat.reduceEqDiff, ↓reduceIte, eq_self, Int.natCast_zero, sumN, List.sum_nil]
  · simp only [HSub_refl]
  · simp only [vsAll, binA, binLitA, intA, opA, dstOk, Nat.reduceLT, Nat.reduceEqDiff, ↓reduceIte, eq_self]
    refine condD (fun hd => ?_) (fun hd => ?_)
    · simp only [vsAll, binA, binLitA, intA, loadA, loadRow, partA, partOk, indexAddrA, mmA, okAll, stAll, opsA, opA, dstOk, nilSliceOp, Nat.reduceLT, Nat.reduceEqDiff, ↓reduceIte, eq_self, wtAll, intF_at, ho]
      have h1 := hb i hi
      have h2 := hb (i + 1) (by omega)
      have h3 := hx _ (mem_getD l i 0 (by omega))
      have e := sumN_snoc (l.take i) (l.getD i 0)
      rw [← take_snoc l i 0 (by omega)] at e
      simp only [InR_i64]
      refine ⟨by omega, by omega, by omega, by omega, loop_next (i + 1) (by omega) (by omega) ?_ ?_⟩
      · simp only [vsAll, Nat.reduceEqDiff, ↓reduceIte, eq_self, e, Int.natCast_add, Int.natCast_one]
      · simp only [HSub_refl]
    · have e : i = l.length := by omega
      subst e
      simp only [vsAll, opA, dstOk, nilSliceOp, resA, retA.eq_1, Nat.reduceLT, Nat.reduceEqDiff, ↓reduceIte, eq_self, Try.results103, List.take_length]

theorem water_tri (h : Hd) (id : Nat) (s t : Int) (H : Hp) (k : HOk h) (ho : H id = some (.memo (memoF h))) (hs : -1000 ≤ s ∧ s ≤ 1000) (ht : -2 ≤ t ∧ t ≤ 2) :
    PTri Try.prog (fnA 94) [hdP h id, .agg [i64 t, i64 s]] H (i64 (vol h s t)) := by
  have hn := k.n
  refine Tri.unpack ho fun es ck hes hpw => ?_
  obtain ⟨o, hfo, hst, hcase⟩ := found_of und95 key80 (surK t s ht hs) (fun e he => by
    obtain ⟨t', s', h1, h2, h3, _⟩ := hes e he
    rw [h1]; exact surK t' s' h2 h3) hpw
  have hback : Go.V.HSub (H.set id (.raw (.map es ck))) H := HSub_set' ho (memo_le hes hpw)
  refine tri_vs (m := mset [7]) Try.func94 (by kernel_rfl) rfl (by simp only [List.length_append, List.length_cons, List.length_nil, Try.ntmps94]; decide) ?_
  simp only [vsAll, boxA, opA, dstOk, nilSliceOp, argFr, Nat.reduceAdd, Nat.reduceLT, Nat.reduceBEq, eq_self, Try.ntmps94]
  refine vs_draw 11 (by decide +kernel) ?_
  simp only [vsAll, loadA, loadRow, partA, partOk, fieldAddrA, extractA, nilCheckA, opA, lookA, dstOk, argFr, Nat.reduceAdd, Nat.reduceLT, Nat.reduceEqDiff, ↓reduceIte, reduceCtorEq, eq_self, wtAll]
  refine ⟨o, hfo _, ?_⟩
  rcases hcase with ⟨rfl, hno⟩ | ⟨j, e, rfl, hj, hk⟩
  · simp only [vsAll, loadA, loadRow, partA, partOk, fieldAddrA, lenA, nilCheckA, opA, dstOk, nilA, argFr, Nat.reduceLT, Nat.reduceBEq, ↓reduceIte, reduceCtorEq, eq_self, wtAll]
    intro id2 hid2
    have hne : id2 ≠ id := fun e => by rw [if_pos e] at hid2; cases hid2
    rw [if_neg hne] at hid2
    refine vs_loop (σ := Nat) (fun i => i ≤ h.n) (fun i => [(0, hdP h id), (3, .rptr 1 2 (fun _ => [i64 t, i64 s]) 0 0), (7, .sl id2 1 (drsN h s t i).length), (24, flAV h.n h.fl), (25, i64 h.n), (26, i64 i)])
      (fun i => (H.set id (.raw (.map es ck))).set id2 (.row 1 (drsN h s t i).length (intF (drsN h s t i)))) (fun i => h.n - i) 0 (Nat.zero_le _) ?_ ?_ fun i hi => ?_
    · simp only [vsAll, argFr, Nat.reduceEqDiff, ↓reduceIte, reduceCtorEq, eq_self, Int.natCast_zero, drsN, List.range_zero]
    · exact HSub_set (row0_le _ _ _)
    · simp only [vsAll, binA, binLitA, intA, opA, dstOk, Nat.reduceLT, Nat.reduceEqDiff, ↓reduceIte, reduceCtorEq, eq_self]
      refine condD (fun hd => ?_) (fun hd => ?_)
      · simp only [vsAll, loadA, loadRow, partA, partOk, okAll, stAll, opsA, opA, dstOk, nilSliceOp, Nat.reduceLT, Nat.reduceEqDiff, Nat.reduceBEq, ↓reduceIte, reduceCtorEq, eq_self, wtAll]
        refine callK_pure (depth_tri h id s t i _ k (by omega) hs ht) ?_
        have hlen := drsN_len h s t i
        simp only [vsAll, binA, binLitA, intA, cellA, cellsA, okParts, buildSliceA, partIdx, elemsA, lensA, partsA, partsOk, opA, appendA, dstOk, nilSliceOp, Nat.reduceMul, Nat.reduceLT, Nat.reduceLeDiff, Nat.reduceEqDiff, Nat.reduceBEq, ↓reduceIte, reduceCtorEq, eq_self, wtAll]
        rw [app_ints _ (dr h s t i) _ rfl]
        refine ⟨fun j hj => ?_, by omega, by omega, by simp only [InR_i64]; omega, loop_next (i + 1) (by omega) (by omega) ?_ ?_⟩
        · have : j = 0 := by omega
          subst this
          simp only [vsAll, cellA, okCells, eq_self]
        · simp only [vsAll, Nat.reduceEqDiff, ↓reduceIte, reduceCtorEq, eq_self, drsN_succ, List.length_append, Int.natCast_add, Int.natCast_one]
        · simp only [vsAll, drsN_succ, List.length_append, Hp.set_set]
      · have ei : i = h.n := by omega
        subst ei
        simp only [vsAll, ↓reduceIte, eq_self]
        refine vs_draw 7 (by decide +kernel) ?_
        have hlen := drsN_len h s t h.n
        simp only [vsAll, loadA, loadRow, partA, partOk, fieldAddrA, nilCheckA, opA, dstOk, Nat.reduceLT, Nat.reduceEqDiff, ↓reduceIte, reduceCtorEq, eq_self, wtAll]
        refine qcall _ ⟨trivial, by simp only [vsAll, okAll, opsA, opA, ↓reduceIte, eq_self], sum_row_tri (drsN h s t h.n) id2 _ (Hp.set_same _ _ _) (by omega) (fun x hx => ?_)⟩ ?_
        · simp only [drsN, List.mem_map, List.mem_range] at hx
          obtain ⟨p, hp, rfl⟩ := hx
          have := dr_bound h s t p k hp hs ht
          omega
        · rw [sum_drs]
          have hne' : ¬ id = id2 := fun e => hne e.symm
          simp only [vsAll, opA, mapUpA, dstOk, Nat.reduceEqDiff, ↓reduceIte, eq_self, hne']
          refine ⟨none, ⟨hfo _, hst, fun i v e => by cases e⟩, ?_⟩
          have hes2 : ∀ x ∈ (updM es (surV t s) (.int .i64 (vol h s t)) ck none).toList, memoF h x.key x.val := fun x hx => by
            simp only [updM, Array.toList_push, List.mem_append, List.mem_singleton] at hx
            rcases hx with hx | rfl
            · exact hes x hx
            · exact ⟨t, s, rfl, ht, hs, rfl⟩
          have hpw2 : (updM es (surV t s) (.int .i64 (vol h s t)) ck none).toList.Pairwise fun x y => x.key ≠ y.key := by
            simp only [updM, Array.toList_push]
            refine List.pairwise_append.2 ⟨hpw, List.pairwise_singleton _ _, fun x hx y hy => ?_⟩
            rw [List.mem_singleton] at hy
            subst hy
            exact hno x hx
          have hin : ∃ x ∈ (updM es (surV t s) (.int .i64 (vol h s t)) ck none).toList, x.key = surV t s := ⟨⟨surV t s, .int .i64 (vol h s t), ck⟩, by simp [updM], rfl⟩
          have e1 : (Value.int IntKind.i64 (volN h s t h.n)) = .int .i64 (vol h s t) := rfl
          rw [e1]
          generalize updM es (surV t s) (.int .i64 (vol h s t)) ck none = es2 at hes2 hpw2 hin
          generalize updC ck none = ck2
          obtain ⟨o2, hfo2, -, hcase2⟩ := found_of und95 key80 (surK t s ht hs) (fun e he => by
            obtain ⟨t', s', h1, h2, h3, _⟩ := hes2 e he
            rw [h1]; exact surK t' s' h2 h3) hpw2
          refine vs_draw 7 (by decide +kernel) ?_
          simp only [vsAll, loadA, loadRow, partA, partOk, fieldAddrA, nilCheckA, opA, lookA, dstOk, Nat.reduceLT, Nat.reduceEqDiff, ↓reduceIte, reduceCtorEq, eq_self, wtAll]
          refine ⟨o2, hfo2 _, ?_⟩
          rcases hcase2 with ⟨rfl, hno2⟩ | ⟨j, e, rfl, hj, hk⟩
          · obtain ⟨x, hx, hxk⟩ := hin
            exact absurd hxk (hno2 x hx)
          · obtain ⟨t', s', h1, h2, h3, h4⟩ := hes2 e (by
              have := Array.getElem?_eq_some_iff.1 hj
              obtain ⟨hl, rfl⟩ := this
              simp)
            have e2 : e.val = .int .i64 (vol h s t) := by
              rw [hk] at h1
              simp only [surV, Value.agg.injEq, Array.mk.injEq, List.cons.injEq, Value.int.injEq, true_and, and_true] at h1
              rw [h4, ← h1.1, ← h1.2]
            simp only [vsAll, e2]
            refine ret0 ?_
            simp only [vsAll, resA, retA.eq_1, ↓reduceIte, eq_self, Try.results94]
            refine dropR_pure rfl ?_
            intro i x hi
            by_cases e5 : i = id
            · subst e5
              rw [ho] at hi; cases hi
              exact ⟨_, Hp.set_same _ _ _, memo_le hes2 hpw2⟩
            · by_cases e6 : i = id2
              · subst e6; rw [hid2] at hi; cases hi
              · exact ⟨x, by rw [Hp.set_ne _ _ e5, Hp.set_ne _ _ e6, Hp.set_ne _ _ e5]; exact hi, .refl _⟩
  · obtain ⟨t', s', h1, h2, h3, h4⟩ := hes e (by
      have := Array.getElem?_eq_some_iff.1 hj
      obtain ⟨hl, rfl⟩ := this
      simp)
    have e2 : e.val = .int .i64 (vol h s t) := by
      rw [hk] at h1
      simp only [surV, Value.agg.injEq, Array.mk.injEq, List.cons.injEq, Value.int.injEq, true_and, and_true] at h1
      rw [h4, ← h1.1, ← h1.2]
    simp only [vsAll, opA, dstOk, nilSliceOp, Nat.reduceLT, Nat.reduceEqDiff, Nat.reduceBEq, ↓reduceIte, eq_self, e2]
    refine ret0 ?_
    simp only [vsAll, resA, retA.eq_1, ↓reduceIte, eq_self, Try.results94]
    exact dropR_pure rfl hback

end Go.Proofs.Ytdeollnepclhaaa
end
section
set_option linter.unusedVariables false
set_option linter.unusedSimpArgs false
namespace Go.Proofs.Ytdeollnepclhaaa
open Go.V
theorem stand_tri (h : Hd) (id : Nat) (w t : Int) (H : Hp) (k : HOk h) (ho : H id = some (.memo (memoF h))) (hw : 0 ≤ w ∧ w ≤ 100) (ht : -2 ≤ t ∧ t ≤ 2) :
    PTri Try.prog (fnA 56) [hdP h id, i64 w, i64 t] H (.agg [i64 t, i64 (hz h w t)]) := by
  refine tri_vs (m := fun _ => false) Try.func56 (by kernel_rfl) rfl (by simp only [List.length_append, List.length_cons, List.length_nil, Try.ntmps56]; decide) ?_
  simp only [vsAll, opA, allocA, dstOk, nilSliceOp, Nat.reduceAdd, Nat.reduceLT, Int.reduceNeg, eq_self, wtAll, Try.ntmps56]
  intro id2 hid2
  have hne : id2 ≠ id := fun e => by rw [e, ho] at hid2; cases hid2
  have hne' : ¬ id = id2 := fun e => hne e.symm
  refine vs_loop (σ := Int × Int) (fun x => -20 ≤ x.1 ∧ x.1 < x.2 ∧ x.2 ≤ 120 ∧ vol h x.1 t ≤ w ∧ w < vol h x.2 t) (fun x => [(0, hdP h id), (1, i64 w), (2, i64 t), (6, .ref id2 0 2 0 0), (7, i64 x.1), (8, i64 x.2)])
    (fun _ => H.set id2 (.box 2 1 fun _ => [i64 0, i64 0])) (fun x => (x.2 - x.1).toNat) (-20, 120) ?_ ?_ ?_ fun x hx => ?_
  · have h1 := vol_low h (-20) t k ht (by omega)
    have h2 := vol_big h 120 t k ht (by omega)
    exact ⟨by show (-20 : Int) ≤ -20; omega, by show (-20 : Int) < 120; omega, by show (120 : Int) ≤ 120; omega, by show vol h (-20) t ≤ w; omega, by show w < vol h 120 t; omega⟩
  · simp only [vsAll, argFr, Nat.reduceEqDiff, Int.reduceNeg, ↓reduceIte, reduceCtorEq, eq_self]
  · simp only [vsAll]
  · obtain ⟨lo, hi⟩ := x
    obtain ⟨h1, h2, h3, h4, h5⟩ := hx
    simp only at h1 h2 h3 h4 h5
    simp only [vsAll, binA, binLitA, intA, opA, dstOk, Nat.reduceLT, Nat.reduceEqDiff, Int.reduceNeg, ↓reduceIte, reduceCtorEq, eq_self]
    refine ⟨by simp only [InR_i64]; omega, condD (fun hb => ?_) (fun hb => ?_)⟩
    · have hb2 : (lo + hi) / 2 ^ 1 = (lo + hi) / 2 := rfl
      simp only [vsAll, binA, binLitA, intA, cellA, cellsA, fillA, okParts, okAll, stAll, opsA, partsA, partsOk, opA, dstOk, nilSliceOp, Nat.reduceAdd, Nat.reduceLT, Nat.reduceLeDiff, Nat.reduceEqDiff, Int.reduceNeg, Int.reduceLE, Int.reduceLT, Int.reduceToNat, ↓reduceIte, reduceCtorEq, eq_self, wtAll, hb2]
      refine ⟨by simp only [InR_i64]; omega, rfl, callK_pure (water_tri h id ((lo + hi) / 2) t _ k (by rw [Hp.set_ne _ _ hne']; exact ho) (by omega) ht) ?_⟩
      simp only [vsAll, binA, binLitA, intA, opA, dstOk, Nat.reduceLT, Nat.reduceEqDiff, Int.reduceNeg, ↓reduceIte, reduceCtorEq, eq_self]
      refine condD (fun hc => ?_) (fun hc => ?_)
      · simp only [vsAll, opA, dstOk, nilSliceOp, Nat.reduceLT, Nat.reduceEqDiff, Int.reduceNeg, ↓reduceIte, eq_self]
        refine loop_next ((lo + hi) / 2, hi) ⟨?_, ?_, h3, hc, h5⟩ ?_ ?_ ?_
        · show -20 ≤ (lo + hi) / 2; omega
        · show (lo + hi) / 2 < hi; omega
        · show (hi - (lo + hi) / 2).toNat < (hi - lo).toNat; omega
        · simp only [vsAll, Nat.reduceEqDiff, ↓reduceIte, reduceCtorEq, eq_self]
        · simp only [HSub_refl]
      · simp only [vsAll, opA, dstOk, nilSliceOp, Nat.reduceLT, Nat.reduceEqDiff, Int.reduceNeg, ↓reduceIte, eq_self]
        refine loop_next (lo, (lo + hi) / 2) ⟨h1, ?_, ?_, h4, Int.not_le.1 hc⟩ ?_ ?_ ?_
        · show lo < (lo + hi) / 2; omega
        · show (lo + hi) / 2 ≤ 120; omega
        · show ((lo + hi) / 2 - lo).toNat < (hi - lo).toNat; omega
        · simp only [vsAll, Nat.reduceEqDiff, ↓reduceIte, reduceCtorEq, eq_self]
        · simp only [HSub_refl]
    · have e : hi = lo + 1 := by omega
      subst e
      have e2 := hz_unique h w t lo k ht hw h4 h5
      simp only [vsAll, cellA, cellsA, fillA, okParts, partsA, partsOk, opA, newCells, okCells, storeObj, dstOk, Nat.reduceAdd, Nat.reduceLT, Nat.reduceLeDiff, Nat.reduceEqDiff, Int.reduceNeg, ↓reduceIte, reduceCtorEq, eq_self, wtAll]
      refine ret0 ?_
      simp only [vsAll, loadA, loadRow, partA, partOk, resA, retA.eq_1, Nat.reduceLT, Nat.reduceEqDiff, ↓reduceIte, reduceCtorEq, eq_self, wtAll, Try.results56, Hp.set_set]
      rw [← e2]
      exact dropR_pure rfl (HSub_drop hid2)

theorem isPart_tri (h : Hd) (id : Nat) (p : Int) (H : Hp) (k : Near h) : PTri Try.prog (fnA 62) [hdP h id, i64 p] H (boo (partB h p)) := by
  have := k.n
  refine tri_v0 (fun _ => false) Try.func62 (by kernel_rfl) rfl (by simp only [List.length_append, List.length_cons, List.length_nil, Try.ntmps62]; decide) ?_
  simp only [vsAll, binA, binLitA, intA, loadA, loadRow, partA, partOk, fieldAddrA, lenA, nilCheckA, okAll, stAll, opsA, opA, dstOk, nilSliceOp, argFr, Nat.reduceLT, Nat.reduceEqDiff, ↓reduceIte, reduceCtorEq, eq_self, wtAll, Try.ntmps62]
  refine ⟨by simp only [InR_i64]; omega, callK_pure (within_tri p 0 ((h.n : Int) - 1) H) ?_⟩
  simp only [vsAll, opA, dstOk, nilSliceOp, resA, retA.eq_1, Nat.reduceLT, ↓reduceIte, eq_self, Try.results62, partB]

theorem isAmount_tri (w : Int) (H : Hp) : PTri Try.prog (fnA 54) [i64 w] H (boo (amtB w)) := by
  refine tri_v0 (fun _ => false) Try.func54 (by kernel_rfl) rfl (by simp only [List.length_append, List.length_cons, List.length_nil, Try.ntmps54]; decide) ?_
  simp only [vsAll, okAll, stAll, opsA, opA, dstOk, nilSliceOp, argFr, Nat.reduceLT, ↓reduceIte, reduceCtorEq, eq_self, Try.ntmps54]
  refine callK_pure (within_tri w 0 100 H) ?_
  simp only [vsAll, opA, dstOk, nilSliceOp, resA, retA.eq_1, Nat.reduceLT, ↓reduceIte, eq_self, Try.results54, amtB]

theorem isList_tri (w : Int) (H : Hp) : PTri Try.prog (fnA 55) [i64 w] H (boo (tiltB w)) := by
  refine tri_v0 (fun _ => false) Try.func55 (by kernel_rfl) rfl (by simp only [List.length_append, List.length_cons, List.length_nil, Try.ntmps55]; decide) ?_
  simp only [vsAll, okAll, stAll, opsA, opA, dstOk, nilSliceOp, argFr, Nat.reduceLT, Int.reduceNeg, ↓reduceIte, reduceCtorEq, eq_self, Try.ntmps55]
  refine callK_pure (within_tri w (-2) 2 H) ?_
  simp only [vsAll, opA, dstOk, nilSliceOp, resA, retA.eq_1, Nat.reduceLT, Int.reduceNeg, ↓reduceIte, eq_self, Try.results55, tiltB]

theorem every_tri (h : Hd) (id : Nat) (H : Hp) (k : HOk h) : PTri Try.prog (fnA 88) [hdP h id] H (u64 ((2 ^ h.m - 1 : Nat) : Int)) := by
  have hm := k.m
  have h1 : 2 ^ h.m ≤ 2 ^ 6 := Nat.pow_le_pow_right (by omega) hm
  have h0 : 0 < 2 ^ h.m := Nat.pos_of_ne_zero (by simp)
  refine tri_v0 (fun _ => false) Try.func88 (by kernel_rfl) rfl (by simp only [List.length_append, List.length_cons, List.length_nil, Try.ntmps88]; decide) ?_
  simp only [vsAll, binA, binLitA, intA, loadA, loadRow, partA, partOk, fieldAddrA, lenA, nilCheckA, opA, dstOk, nilSliceOp, resA, argFr, retA.eq_1, Nat.reduceLT, ↓reduceIte, reduceCtorEq, eq_self, wtAll, Try.ntmps88, Try.results88, Int.one_mul]
  have e : (2 : Int) ^ h.m = ((2 ^ h.m : Nat) : Int) := by simp
  rw [e]
  have e2 : ((2 ^ h.m : Nat) : Int) - 1 = ((2 ^ h.m - 1 : Nat) : Int) := by omega
  refine ⟨⟨by omega, by omega, by simp only [InR_u64]; omega⟩, by simp only [InR_u64]; omega, by rw [e2]⟩

theorem wdeep_tri (h : Hd) (id : Nat) (w t p : Int) (H : Hp) (k : HOk h) (ho : H id = some (.memo (memoF h))) (hw : 0 ≤ w ∧ w ≤ 100) (ht : -2 ≤ t ∧ t ≤ 2) (hp : 0 ≤ p ∧ p < h.n) :
    PTri Try.prog (fnA 63) [hdP h id, i64 w, i64 t, i64 p] H (i64 (dz h w t p)) := by
  have hz1 := hz_spec h w t k ht hw
  refine tri_v0 (fun _ => false) Try.func63 (by kernel_rfl) rfl (by simp only [List.length_append, List.length_cons, List.length_nil, Try.ntmps63]; decide) ?_
  simp only [vsAll, okAll, stAll, opsA, opA, dstOk, nilSliceOp, argFr, Nat.reduceLT, Nat.reduceEqDiff, ↓reduceIte, reduceCtorEq, eq_self, Try.ntmps63]
  refine callK_pure (stand_tri h id w t H k ho hw ht) ?_
  simp only [vsAll, okAll, stAll, opsA, opA, dstOk, argFr, Nat.reduceLT, Nat.reduceEqDiff, ↓reduceIte, eq_self]
  refine callK_pure (depth_tri h id (hz h w t) t p H k hp (by omega) ht) ?_
  simp only [vsAll, mmA, okAll, stAll, opsA, opA, dstOk, nilSliceOp, resA, retA.eq_1, Nat.reduceLT, ↓reduceIte, eq_self, Try.results63, dz, uz_dr]

end Go.Proofs.Ytdeollnepclhaaa
end
section
set_option linter.unusedVariables false
set_option linter.unusedSimpArgs false
namespace Go.Proofs.Ytdeollnepclhaaa
open Go.V
def amF (a : Nat → Bool) : Nat → List AV := fun i => [boo (a i)]
abbrev amAV (a : Nat → Bool) : AV := .arr 101 1 (amF a)
theorem amF_at (a : Nat → Bool) (i : Nat) : amF a i = [boo (a i)] := rfl

theorem wall_tri (H : Hp) : PTri Try.prog (fnA 99) [] H (amAV fun _ => true) := by
  refine tri_vs (m := fun _ => false) Try.func99 (by kernel_rfl) rfl (by simp only [List.length_append, List.length_nil, Try.ntmps99]; decide) ?_
  simp only [vsAll, opA, allocA, dstOk, Nat.reduceLT, eq_self, wtAll, Try.ntmps99]
  intro id hid
  refine vs_loop (σ := Nat) (fun i => i ≤ 101) (fun i => [(0, .ref id 0 1 0 0), (2, i64 i)]) (fun i => H.set id (.box 1 101 (amF fun j => decide (j < i)))) (fun i => 101 - i) 0 (by omega) ?_ ?_ fun i hi => ?_
  · simp only [vsAll, ↓reduceIte, reduceCtorEq, eq_self, Int.natCast_zero]
  · refine HSub_set (box_ext fun j hj => ?_)
    simp [amF]
  · simp only [vsAll, binA, binLitA, intA, opA, dstOk, Nat.reduceLT, ↓reduceIte, reduceCtorEq, eq_self]
    refine condD (fun hd => ?_) (fun hd => ?_)
    · simp only [vsAll, binA, binLitA, intA, indexAddrA, cellA, cellsA, opA, newCells, okCells, storeObj, dstOk, nilSliceOp, Nat.reduceLT, Nat.reduceEqDiff, ↓reduceIte, reduceCtorEq, eq_self, wtAll, amF_at]
      refine ⟨by omega, by omega, by simp only [InR_i64]; omega, loop_next (i + 1) (by omega) (by omega) ?_ ?_⟩
      · simp only [vsAll, ↓reduceIte, reduceCtorEq, eq_self, Int.natCast_add, Int.natCast_one]
      · rw [Hp.set_set]
        refine HSub_set (box_ext fun j hj => ?_)
        rw [updF_at (by omega) hj]
        simp only [amF]
        split
        · rename_i e; subst e; simp
        · congr 3
          exact propext ⟨fun _ => by omega, fun _ => by omega⟩
    · have e : i = 101 := by omega
      subst e
      simp only [vsAll, loadA, loadRow, cellA, opA, okCells, storeObj, dstOk, Nat.reduceMul, Nat.reduceLT, ↓reduceIte, reduceCtorEq, implies_true, eq_self, wtAll, amF_at]
      rw [Hp.set_set]
      refine ret_of [(0, .ref id 0 1 0 0)] (H.set id (.box 1 101 (amF fun _ => true))) ?_ (HSub_set (box_ext fun j hj => ?_)) ?_
      · simp only [vsAll, ↓reduceIte, reduceCtorEq, eq_self]
      · simp [amF, hj]
      · simp only [vsAll, loadA, loadRow, resA, retA.eq_1, ↓reduceIte, eq_self, wtAll, Try.results99]
        exact dropR_pure rfl (HSub_drop hid)

def someB (a : Nat → Bool) : Bool := (List.range 101).any a
theorem some_tri (a : Nat → Bool) (H : Hp) : PTri Try.prog (fnA 70) [amAV a] H (boo (someB a)) := by
  refine tri_v0 (fun _ => false) Try.func70 (by kernel_rfl) rfl (by simp only [List.length_append, List.length_cons, List.length_nil, Try.ntmps70]; decide) ?_
  simp only [vsAll, loadA, loadRow, boxA, opA, dstOk, nilSliceOp, argFr, Nat.reduceLT, Nat.reduceEqDiff, ↓reduceIte, eq_self, wtAll, Try.ntmps70]
  refine vs_loop (σ := Nat) (fun i => i ≤ 101 ∧ ∀ j, j < i → a j = false) (fun i => [(5, amAV a), (6, i64 i)]) (fun i => H) (fun i => 101 - i) 0 ⟨by omega, fun j hj => absurd hj (by omega)⟩ ?_ ?_ fun i hi => ?_
  · simp only [vsAll, Nat.reduceEqDiff, ↓reduceIte, eq_self, Int.natCast_zero]
  · simp only [HSub_refl]
  · obtain ⟨hi, hall⟩ := hi
    simp only [vsAll, binA, binLitA, intA, opA, dstOk, Nat.reduceLT, Nat.reduceEqDiff, ↓reduceIte, eq_self]
    refine condD (fun hd => ?_) (fun hd => ?_)
    · simp only [vsAll, partA, indexA, opA, dstOk, nilSliceOp, Nat.reduceLT, Nat.reduceEqDiff, ↓reduceIte, eq_self, wtAll, amF_at]
      refine ⟨by omega, condV (fun hc => ?_) (fun hc => ?_)⟩
      · have : someB a = true := by
          simp only [someB, List.any_eq_true, List.mem_range]
          exact ⟨i, by omega, hc⟩
        simp only [vsAll, opA, dstOk, nilSliceOp, resA, retA.eq_1, Nat.reduceLT, ↓reduceIte, eq_self, Try.results70, this]
      · simp only [vsAll, binA, binLitA, intA, opA, dstOk, Nat.reduceLT, Nat.reduceEqDiff, ↓reduceIte, eq_self]
        refine ⟨by simp only [InR_i64]; omega, loop_next (i + 1) ⟨by omega, fun j hj => ?_⟩ (by omega) ?_ ?_⟩
        · by_cases e : j = i
          · subst e; exact hc
          · exact hall j (by omega)
        · simp only [vsAll, Nat.reduceEqDiff, ↓reduceIte, eq_self, Int.natCast_add, Int.natCast_one]
        · simp only [HSub_refl]
    · have : someB a = false := by
        simp only [someB, List.any_eq_false, List.mem_range, Bool.not_eq_true]
        exact fun j hj => hall j (by omega)
      simp only [vsAll, opA, dstOk, nilSliceOp, resA, retA.eq_1, Nat.reduceLT, ↓reduceIte, eq_self, Try.results70, this]

theorem listed_tri (h : Hd) (id : Nat) (s : Sd) (t w : Int) (H : Hp) (k : HOk h) (ho : H id = some (.memo (memoF h))) (hw : 0 ≤ w ∧ w ≤ 100) (ht : -2 ≤ t ∧ t ≤ 2) (hp : 0 ≤ s.w ∧ s.w < h.n) :
    PTri Try.prog (fnA 122) [.agg (s.cs ++ [i64 t]), hdP h id, i64 w] H (boo (rightB h s w t)) := by
  refine tri_v0 (fun _ => false) Try.func122 (by kernel_rfl) rfl (by simp only [List.length_append, List.length_cons, List.length_nil, Try.ntmps122]; decide) ?_
  simp only [vsAll, boxA, opA, dstOk, nilSliceOp, argFr, Nat.reduceAdd, Nat.reduceLT, eq_self, Try.ntmps122]
  refine vs_draw 36 (by decide +kernel) ?_
  simp only [vsAll, loadA, loadRow, partA, partOk, fieldAddrA, opA, dstOk, Nat.reduceAdd, Nat.reduceLT, Nat.reduceEqDiff, ↓reduceIte, eq_self, wtAll]
  refine qcall _ ⟨trivial, by simp only [vsAll, okAll, opsA, opA, Nat.reduceEqDiff, ↓reduceIte, eq_self], within_tri t s.a s.b H⟩ ?_
  simp only [vsAll, loadA, loadRow, partA, partOk, fieldAddrA, opA, guardV, dstOk, argFr, Nat.reduceLT, Nat.reduceEqDiff, ↓reduceIte, implies_true, eq_self, wtAll]
  refine qgcall _ (fun hg => ⟨trivial, by simp only [vsAll, okAll, opsA, opA, Nat.reduceEqDiff, ↓reduceIte, eq_self, hg], wdeep_tri h id w t s.w H k ho hw ht hp⟩) ?_
  simp only [vsAll, loadA, loadRow, partA, partOk, fieldAddrA, opA, guardV, dstOk, Nat.reduceAdd, Nat.reduceLT, Nat.reduceEqDiff, ↓reduceIte, implies_true, eq_self, wtAll]
  refine qgcall _ (fun hg => ⟨trivial, by simp only [vsAll, okAll, opsA, opA, Nat.reduceEqDiff, ↓reduceIte, eq_self, hg], within_tri (dz h w t s.w) s.c s.d H⟩) ?_
  simp only [vsAll, pickA, opA, dstOk, resA, retA.eq_1, Nat.reduceLT, Nat.reduceEqDiff, ↓reduceIte, implies_true, eq_self, Try.results122, rightB]

/-- Some list is right. -/
theorem any_iff (h : Hd) (s : Sd) (w : Int) (hl : -2 ≤ s.a ∧ s.a ≤ s.b ∧ s.b ≤ 2) : anyN h s w 5 = true ↔ ∃ t, s.a ≤ t ∧ t ≤ s.b ∧ rightB h s w t = true := by
  simp only [anyN, List.any_eq_true, List.mem_range]
  constructor
  · rintro ⟨j, hj, hr⟩
    refine ⟨(j : Int) - 2, ?_, ?_, hr⟩ <;> simp only [rightB, Bool.and_eq_true, decide_eq_true_eq] at hr <;> omega
  · rintro ⟨t, h1, h2, hr⟩
    refine ⟨(t + 2).toNat, by omega, ?_⟩
    have e : (((t + 2).toNat : Nat) : Int) - 2 = t := by omega
    rw [e]; exact hr

theorem sounded_tri (h : Hd) (id : Nat) (s : Sd) (w : Int) (H : Hp) (k : HOk h) (ho : H id = some (.memo (memoF h))) (hw : 0 ≤ w ∧ w ≤ 100) (hp : 0 ≤ s.w ∧ s.w < h.n) (hl : -2 ≤ s.a ∧ s.a ≤ s.b ∧ s.b ≤ 2) :
    PTri Try.prog (fnA 121) [.agg s.cs, hdP h id, i64 w] H (boo (anyN h s w 5)) := by
  refine tri_v0 (fun _ => false) Try.func121 (by kernel_rfl) rfl (by simp only [List.length_append, List.length_cons, List.length_nil, Try.ntmps121]; decide) ?_
  simp only [vsAll, loadA, loadRow, partA, partOk, fieldAddrA, boxA, opA, dstOk, nilSliceOp, argFr, Nat.reduceAdd, Nat.reduceLT, Nat.reduceEqDiff, ↓reduceIte, eq_self, wtAll, Try.ntmps121]
  refine vs_loop (σ := Int) (fun l => s.a ≤ l ∧ l ≤ s.b + 1 ∧ ∀ t, s.a ≤ t → t < l → rightB h s w t = false) (fun l => [(1, hdP h id), (2, i64 w), (3, .rptr 1 5 (fun _ => s.cs) 0 0), (7, i64 l)]) (fun _ => H) (fun l => (10 - l).toNat) s.a ⟨by omega, by omega, fun t h1 h2 => absurd h2 (by omega)⟩ ?_ ?_ fun l hll => ?_
  · simp only [vsAll, argFr, Nat.reduceEqDiff, ↓reduceIte, eq_self]
  · simp only [HSub_refl]
  · obtain ⟨h1, h2, hall⟩ := hll
    simp only [vsAll, binA, binLitA, intA, loadA, loadRow, partA, partOk, fieldAddrA, opA, dstOk, Nat.reduceAdd, Nat.reduceLT, Nat.reduceEqDiff, ↓reduceIte, eq_self, wtAll]
    refine condD (fun hd => ?_) (fun hd => ?_)
    · simp only [vsAll, loadA, loadRow, partA, partOk, cellA, cellsA, fillA, okParts, okAll, stAll, opsA, partsA, partsOk, opA, dstOk, Nat.reduceAdd, Nat.reduceLT, Nat.reduceLeDiff, Nat.reduceEqDiff, ↓reduceIte, eq_self, wtAll]
      refine callK_pure (listed_tri h id s l w H k ho hw (by omega) hp) ?_
      simp only [vsAll, opA, ↓reduceIte, eq_self]
      refine condV (fun hc => ?_) (fun hc => ?_)
      · have : anyN h s w 5 = true := (any_iff h s w hl).2 ⟨l, h1, hd, hc⟩
        simp only [vsAll, opA, dstOk, nilSliceOp, resA, retA.eq_1, Nat.reduceLT, ↓reduceIte, eq_self, Try.results121, this]
      · simp only [vsAll, binA, binLitA, intA, opA, dstOk, nilSliceOp, Nat.reduceLT, Nat.reduceEqDiff, ↓reduceIte, eq_self]
        refine ⟨by simp only [InR_i64]; omega, loop_next (l + 1) ⟨by omega, by omega, fun t h3 h4 => ?_⟩ (by omega) ?_ ?_⟩
        · by_cases e : t = l
          · subst e; exact hc
          · exact hall t h3 (by omega)
        · simp only [vsAll, Nat.reduceEqDiff, ↓reduceIte, eq_self]
        · simp only [HSub_refl]
    · have : anyN h s w 5 = false := by
        rw [← Bool.not_eq_true, any_iff h s w hl]
        rintro ⟨t, h3, h4, h5⟩
        rw [hall t h3 (by omega)] at h5; cases h5
      simp only [vsAll, opA, dstOk, nilSliceOp, resA, retA.eq_1, Nat.reduceLT, ↓reduceIte, eq_self, Try.results121, this]

/-- Those of some amounts of which something is so. -/
theorem left_tri (h : Hd) (id T : Nat) (recv : AV) (a q : Nat → Bool) (H : Hp) (k : HOk h) (ho : H id = some (.memo (memoF h)))
    (hq : ∀ (H' : Hp) (w : Nat), H' id = some (.memo (memoF h)) → w < 101 → PTri Try.prog (.func (.method "caulkworks/well.is") [.iface T recv] []) [hdP h id, i64 w] H' (boo (q w))) :
    PTri Try.prog (fnA 77) [amAV a, hdP h id, .iface T recv] H (amAV fun w => a w && q w) := by
  refine tri_vs (m := fun _ => false) Try.func77 (by kernel_rfl) rfl (by simp only [List.length_append, List.length_cons, List.length_nil, Try.ntmps77]; decide) ?_
  simp only [vsAll, loadA, loadRow, nilCheckA, boxA, okAll, stAll, opsA, opA, allocA, storeObj, dstOk, nilSliceOp, argFr, Nat.reduceMul, Nat.reduceLT, Nat.reduceEqDiff, ↓reduceIte, eq_self, wtAll, Try.ntmps77]
  intro i6 h6 i8 h8
  have n6 : i6 ≠ id := fun e => by rw [e, ho] at h6; cases h6
  have n86 : i8 ≠ i6 := fun e => by rw [if_pos e] at h8; cases h8
  rw [if_neg n86] at h8
  have n8 : i8 ≠ id := fun e => by rw [e, ho] at h8; cases h8
  have m6 : ¬ id = i6 := fun e => n6 e.symm
  have m8 : ¬ id = i8 := fun e => n8 e.symm
  have m86 : ¬ i6 = i8 := fun e => n86 e.symm
  refine ⟨fun j hj => by simp [amF, okCells, cellA], ?_⟩
  refine vs_loop (σ := Nat) (fun i => i ≤ 101) (fun i => [(1, hdP h id), (6, .ref i6 0 1 0 0), (7, .func (.method "caulkworks/well.is") [.iface T recv] []), (8, .ref i8 0 1 0 0), (14, i64 i)])
    (fun i => (H.set i6 (.box 1 101 fun _ => [boo false])).set i8 (.box 1 101 (amF fun j => if j < i then a j && q j else a j))) (fun i => 101 - i) 0 (by omega) ?_ ?_ fun i hi => ?_
  · simp only [vsAll, argFr, Nat.reduceEqDiff, ↓reduceIte, eq_self, Int.natCast_zero]
  · rw [Hp.set_set]
    refine HSub_set (box_ext fun j hj => ?_)
    simp [amF]
  · simp only [vsAll, binA, binLitA, intA, opA, dstOk, Nat.reduceLT, Nat.reduceEqDiff, ↓reduceIte, eq_self]
    refine condD (fun hd => ?_) (fun hd => ?_)
    · simp only [vsAll, loadA, loadRow, partA, partOk, indexAddrA, opA, guardV, dstOk, nilSliceOp, Nat.reduceLT, Nat.reduceEqDiff, ↓reduceIte, implies_true, eq_self, wtAll, amF_at]
      refine ⟨by omega, by omega, ?_⟩
      apply gcall
      · intro hg
        exact ⟨by simp only [vsAll, opA, Nat.reduceEqDiff, ↓reduceIte, eq_self, hg], by simp only [vsAll, okAll, opsA, opA, Nat.reduceEqDiff, ↓reduceIte, eq_self, hg], hq _ i (by rw [Hp.set_ne _ _ m8, Hp.set_ne _ _ m6]; exact ho) (by omega)⟩
      · simp only [vsAll, binA, binLitA, intA, indexAddrA, cellA, cellsA, pickA, opA, newCells, okCells, storeObj, dstOk, Nat.reduceLT, Nat.reduceEqDiff, ↓reduceIte, implies_true, eq_self, wtAll, amF_at]
        refine ⟨by omega, by omega, by simp only [InR_i64]; omega, loop_next (i + 1) (by omega) (by omega) ?_ ?_⟩
        · simp only [vsAll, Nat.reduceEqDiff, ↓reduceIte, eq_self, Int.natCast_add, Int.natCast_one]
        · rw [Hp.set_set]
          refine HSub_set (box_ext fun j hj => ?_)
          rw [updF_at (by omega) hj]
          simp only [amF]
          by_cases e : j = i
          · subst e
            rw [if_pos rfl, if_pos (by omega)]
          · rw [if_neg e]
            by_cases e2 : j < i
            · rw [if_pos e2, if_pos (by omega)]
            · rw [if_neg e2, if_neg (by omega)]
    · have e : i = 101 := by omega
      subst e
      simp only [vsAll, loadA, loadRow, cellA, opA, okCells, storeObj, dstOk, Nat.reduceMul, Nat.reduceLT, Nat.reduceEqDiff, ↓reduceIte, implies_true, eq_self, wtAll, amF_at, m86]
      refine ret_of [(6, .ref i6 0 1 0 0)] (H.set i6 (.box 1 101 (amF fun w => a w && q w))) ?_ ?_ ?_
      · simp only [vsAll, Nat.reduceEqDiff, ↓reduceIte, eq_self]
      · intro i x hi
        by_cases e : i = i6
        · subst e
          rw [Hp.set_same] at hi ⊢
          cases hi
          refine ⟨_, rfl, box_ext fun j hj => ?_⟩
          simp only [amF, if_pos hj]
        · rw [Hp.set_ne _ _ e] at hi ⊢
          by_cases e8 : i = i8
          · subst e8; rw [h8] at hi; cases hi
          · exact ⟨x, by rw [Hp.set_ne _ _ e8, Hp.set_ne _ _ e]; exact hi, .refl _⟩
      · simp only [vsAll, loadA, loadRow, resA, retA.eq_1, ↓reduceIte, eq_self, wtAll, Try.results77]
        exact dropR_pure rfl (HSub_drop h6)

end Go.Proofs.Ytdeollnepclhaaa
end
section
set_option linter.unusedVariables false
set_option linter.unusedSimpArgs false
namespace Go.Proofs.Ytdeollnepclhaaa
open Go.V
def byN (h : Hd) (S : Nat) : Nat → Nat → Bool
  | 0 => fun _ => true
  | i + 1 => fun w => byN h S i w && okc h w S i
theorem byN_iff (h : Hd) (S n w : Nat) : byN h S n w = true ↔ ∀ i, i < n → okc h w S i = true := by
  induction n with
  | zero => simp [byN]
  | succ n ih =>
    simp only [byN, Bool.and_eq_true, ih]
    constructor
    · rintro ⟨h1, h2⟩ i hi
      by_cases e : i = n
      · subst e; exact h2
      · exact h1 i (by omega)
    · exact fun h1 => ⟨fun i hi => h1 i (by omega), h1 n (by omega)⟩
theorem byN_can (h : Hd) (S w : Nat) : byN h S h.m w = canB h w S := by
  have := byN_iff h S h.m w
  rw [Bool.eq_iff_iff, this]
  simp [canB]
theorem bit_eq (S i : Nat) : decide ((((S : Int) / 2 ^ i).toNat &&& Int.toNat 1 : Nat) = (1 : Int)) = S.testBit i := by
  have e : ((S : Int) / 2 ^ i).toNat = S / 2 ^ i := by
    have : (S : Int) / 2 ^ i = ((S / 2 ^ i : Nat) : Int) := by simp
    rw [this]; rfl
  rw [e, Nat.testBit_eq_decide_div_mod_eq]
  show decide (((S / 2 ^ i &&& 1 : Nat) : Int) = 1) = _
  rw [Nat.and_one_is_mod]
  exact decide_eq_decide.2 ⟨fun h => by omega, fun h => by omega⟩

theorem by_tri (h : Hd) (id S : Nat) (H : Hp) (k : HOk h) (ho : H id = some (.memo (memoF h))) (hS : S < 2 ^ 60) :
    PTri Try.prog (fnA 86) [hdP h id, u64 S] H (amAV (byN h S h.m)) := by
  have hm := k.m
  refine tri_vs (m := fun _ => false) Try.func86 (by kernel_rfl) rfl (by simp only [List.length_append, List.length_cons, List.length_nil, Try.ntmps86]; decide) ?_
  simp only [vsAll, okAll, stAll, opsA, opA, allocA, dstOk, Nat.reduceLT, eq_self, wtAll, Try.ntmps86]
  intro i4 h4
  have n4 : i4 ≠ id := fun e => by rw [e, ho] at h4; cases h4
  have m4 : ¬ id = i4 := fun e => n4 e.symm
  refine callK_pure (wall_tri _) ?_
  simp only [vsAll, loadA, loadRow, partA, partOk, fieldAddrA, lenA, nilCheckA, opA, allocA, storeObj, dstOk, argFr, Nat.reduceMul, Nat.reduceLT, Nat.reduceEqDiff, ↓reduceIte, reduceCtorEq, eq_self, wtAll]
  intro i5 h5
  have n54 : i5 ≠ i4 := fun e => by rw [if_pos e] at h5; cases h5
  rw [if_neg n54] at h5
  have n5 : i5 ≠ id := fun e => by rw [e, ho] at h5; cases h5
  have m5 : ¬ id = i5 := fun e => n5 e.symm
  have m54 : ¬ i4 = i5 := fun e => n54 e.symm
  refine ⟨fun j hj => by simp [amF, okCells, cellA], ?_⟩
  refine vs_loop (σ := Nat) (fun i => i ≤ h.m) (fun i => [(0, hdP h id), (1, u64 S), (4, .ref i4 0 1 0 0), (5, .ref i5 0 1 0 0), (13, sdAV h.m h.sd), (14, i64 h.m), (15, i64 i)])
    (fun i => (H.set i4 (.box 1 101 fun _ => [boo false])).set i5 (.box 1 101 (amF (byN h S i)))) (fun i => h.m - i) 0 (by omega) ?_ ?_ fun i hi => ?_
  · simp only [vsAll, argFr, Nat.reduceEqDiff, ↓reduceIte, reduceCtorEq, eq_self, Int.natCast_zero]
  · rw [Hp.set_set]
    simp only [byN, HSub_refl]
  · simp only [vsAll, binA, binLitA, intA, opA, dstOk, Nat.reduceLT, Nat.reduceEqDiff, ↓reduceIte, reduceCtorEq, eq_self]
    refine condD (fun hd => ?_) (fun hd => ?_)
    · simp only [vsAll, binA, binLitA, intA, loadA, loadRow, partA, partOk, indexAddrA, cellA, cellsA, opA, allocA, newCells, okCells, storeObj, dstOk, nilSliceOp, Nat.reduceAdd, Nat.reduceLT, Nat.reduceEqDiff, Int.reduceLE, Int.reduceToNat, ↓reduceIte, reduceCtorEq, eq_self, wtAll]
      refine ⟨by omega, by omega, ?_⟩
      intro i7 h7
      have n75 : i7 ≠ i5 := fun e => by rw [if_pos e] at h7; cases h7
      rw [if_neg n75] at h7
      have n74 : i7 ≠ i4 := fun e => by rw [if_pos e] at h7; cases h7
      rw [if_neg n74] at h7
      have n7 : i7 ≠ id := fun e => by rw [e, ho] at h7; cases h7
      have m7 : ¬ id = i7 := fun e => n7 e.symm
      have m75 : ¬ i5 = i7 := fun e => n75 e.symm
      have hlt : S / 2 ^ i ≤ S := Nat.div_le_self _ _
      have e0 : (S : Int) / 2 ^ i = ((S / 2 ^ i : Nat) : Int) := by simp
      have eb := bit_eq S i
      have drop : ∀ X Y : Go.V.Obj, ∀ Z : Go.V.Obj, Z = X → Go.V.HSub ((((H.set i4 (.box 1 101 fun _ => [boo false])).set i5 Z).set i7 Y)) ((H.set i4 (.box 1 101 fun _ => [boo false])).set i5 X) := by
        intro X Y Z e j x hx
        subst e
        by_cases e7 : j = i7
        · subst e7
          rw [Hp.set_ne _ _ n75, Hp.set_ne _ _ n74, h7] at hx; cases hx
        · exact ⟨x, by rw [Hp.set_ne _ _ e7]; exact hx, .refl _⟩
      simp only [Hp.set_set]
      have eb' : decide (((((S : Int) / 2 ^ i).toNat &&& 1 : Nat) : Int) = 1) = S.testBit i := eb
      refine ⟨⟨by omega, by omega, rfl⟩, ⟨by rw [e0]; exact Int.natCast_nonneg _, by rw [e0, InR_u64]; generalize S / 2 ^ i = q at *; omega, by simp only [InR_u64]; omega⟩, ?_⟩
      refine condV (fun hc => ?_) (fun hc => ?_)
      · rw [eb'] at hc
        simp only [vsAll, loadA, loadRow, partA, partOk, cellsA, fillA, okParts, ifaceA, okAll, stAll, opsA, partsA, partsOk, opA, dstOk, Nat.reduceAdd, Nat.reduceLT, Nat.reduceEqDiff, ↓reduceIte, reduceCtorEq, eq_self, wtAll, m75]
        refine callK_pure (left_tri h id 101 (.agg (h.sd i).cs) (byN h S i) (fun w => anyN h (h.sd i) w 5) _ k (by rw [Hp.set_ne _ _ m7, Hp.set_ne _ _ m5, Hp.set_ne _ _ m4]; exact ho)
          (fun H' w hH' hw => tri_meth meth101 (sounded_tri h id (h.sd i) w H' k hH' (by omega) (k.w i (by omega)) (k.l i (by omega))))) ?_
        have en : (fun w => byN h S i w && anyN h (h.sd i) w 5) = byN h S (i + 1) := by
          funext w; simp only [byN, okc, hc, Bool.not_true, Bool.false_or]
        rw [en]
        simp only [vsAll, binA, binLitA, intA, opA, storeObj, dstOk, Nat.reduceMul, Nat.reduceLT, Nat.reduceEqDiff, ↓reduceIte, reduceCtorEq, eq_self, wtAll, m75]
        refine ⟨fun j hj => by simp [amF, okCells, cellA], by simp only [InR_i64]; omega, loop_next (i + 1) (by omega) (by omega) ?_ ?_⟩
        · simp only [vsAll, Nat.reduceEqDiff, ↓reduceIte, reduceCtorEq, eq_self, Int.natCast_add, Int.natCast_one]
        · intro j x hx
          by_cases e5 : j = i5
          · subst e5
            rw [Hp.set_same] at hx
            exact ⟨x, by rw [Hp.set_same]; exact hx, .refl _⟩
          · rw [Hp.set_ne _ _ e5] at hx
            by_cases e7 : j = i7
            · subst e7; rw [Hp.set_ne _ _ n74, h7] at hx; cases hx
            · exact ⟨x, by rw [Hp.set_ne _ _ e5, Hp.set_ne _ _ e7, Hp.set_ne _ _ e5]; exact hx, .refl _⟩
      · rw [eb'] at hc
        have en : byN h S (i + 1) = byN h S i := by
          funext w; simp only [byN, okc, hc, Bool.not_false, Bool.true_or, Bool.and_true]
        simp only [vsAll, binA, binLitA, intA, opA, dstOk, Nat.reduceLT, Nat.reduceEqDiff, ↓reduceIte, reduceCtorEq, eq_self]
        refine ⟨by simp only [InR_i64]; omega, loop_next (i + 1) (by omega) (by omega) ?_ ?_⟩
        · simp only [vsAll, Nat.reduceEqDiff, ↓reduceIte, reduceCtorEq, eq_self, Int.natCast_add, Int.natCast_one]
        · rw [en]; exact drop _ _ _ rfl
    · have e : i = h.m := by omega
      subst e
      simp only [vsAll, loadA, loadRow, cellA, opA, okCells, storeObj, dstOk, Nat.reduceMul, Nat.reduceLT, Nat.reduceEqDiff, ↓reduceIte, reduceCtorEq, implies_true, eq_self, wtAll, amF_at, m54]
      refine ret0 ?_
      simp only [vsAll, loadA, loadRow, resA, retA.eq_1, Nat.reduceEqDiff, ↓reduceIte, reduceCtorEq, eq_self, wtAll, Try.results86]
      refine dropR_pure rfl ?_
      intro j x hx
      have e4 : j ≠ i4 := fun e => by rw [e, h4] at hx; cases hx
      have e5 : j ≠ i5 := fun e => by rw [e, h5] at hx; cases hx
      exact ⟨x, by rw [Hp.set_ne _ _ e4, Hp.set_ne _ _ e5, Hp.set_ne _ _ e4]; exact hx, .refl _⟩

end Go.Proofs.Ytdeollnepclhaaa
end
section
set_option linter.unusedVariables false
set_option linter.unusedSimpArgs false
namespace Go.Proofs.Ytdeollnepclhaaa
open Go.V
/-- All amounts, on the program's side. -/
def toldB (h : Hd) : Nat → Bool := byN h (2 ^ h.m - 1) h.m

theorem told_tri (h : Hd) (id : Nat) (H : Hp) (k : HOk h) (ho : H id = some (.memo (memoF h))) :
    Tri Try.prog (fnA 67) [hdP h id] H fun r H' => (r = if someB (toldB h) then .ret (amAV (toldB h)) else .pan (.iface 124 (i64 10))) ∧ H' = H := by
  have hm := k.m
  have h1 : 2 ^ h.m ≤ 2 ^ 6 := Nat.pow_le_pow_right (by omega) hm
  refine tri_vs (m := fun _ => false) Try.func67 (by kernel_rfl) rfl (by simp only [List.length_append, List.length_cons, List.length_nil, Try.ntmps67]; decide) ?_
  simp only [vsAll, okAll, stAll, opsA, opA, allocA, dstOk, argFr, Nat.reduceLT, ↓reduceIte, reduceCtorEq, eq_self, wtAll, Try.ntmps67]
  intro i2 h2
  have n2 : i2 ≠ id := fun e => by rw [e, ho] at h2; cases h2
  have m2 : ¬ id = i2 := fun e => n2 e.symm
  refine callK_pure (every_tri h id _ k) ?_
  simp only [vsAll, okAll, stAll, opsA, opA, dstOk, Nat.reduceLT, Nat.reduceEqDiff, ↓reduceIte, eq_self]
  refine callK_pure (by_tri h id (2 ^ h.m - 1) _ k (by rw [Hp.set_ne _ _ m2]; exact ho) (by omega)) ?_
  simp only [vsAll, loadA, loadRow, okAll, stAll, opsA, opA, allocA, storeObj, dstOk, nilSliceOp, Nat.reduceMul, Nat.reduceLT, Nat.reduceEqDiff, ↓reduceIte, eq_self, wtAll]
  intro i3 h3
  have n32 : i3 ≠ i2 := fun e => by rw [if_pos e] at h3; cases h3
  rw [if_neg n32] at h3
  have m32 : ¬ i2 = i3 := fun e => n32 e.symm
  refine ⟨fun j hj => by simp [amF, okCells, cellA], ?_⟩
  refine callK_pure (some_tri (byN h (2 ^ h.m - 1) h.m) _) ?_
  simp only [vsAll, okAll, stAll, opsA, opA, dstOk, Nat.reduceLT, ↓reduceIte, eq_self]
  refine ask_call (fun hb => ?_) (fun hb => ?_)
  · simp only [vsAll, loadA, loadRow, opA, storeObj, dstOk, Nat.reduceMul, Nat.reduceLT, Nat.reduceEqDiff, ↓reduceIte, eq_self, wtAll, m32]
    refine ⟨fun j hj => by simp [amF, okCells, cellA], ret0 ?_⟩
    simp only [vsAll, loadA, loadRow, resA, retA.eq_1, Nat.reduceEqDiff, ↓reduceIte, eq_self, wtAll, Try.results67]
    refine ⟨H, ?_, ?_, rfl⟩
    · intro j x hx
      have e2 : j ≠ i2 := fun e => by rw [e, h2] at hx; cases hx
      have e3 : j ≠ i3 := fun e => by rw [e, h3] at hx; cases hx
      exact ⟨x, by rw [Hp.set_ne _ _ e2, Hp.set_ne _ _ e3, Hp.set_ne _ _ e3, Hp.set_ne _ _ e2]; exact hx, .refl _⟩
    · rw [toldB, hb]; rfl
  · simp only [vsAll, eq_self]
    refine ⟨H, ?_, ?_, rfl⟩
    · intro j x hx
      have e2 : j ≠ i2 := fun e => by rw [e, h2] at hx; cases hx
      have e3 : j ≠ i3 := fun e => by rw [e, h3] at hx; cases hx
      exact ⟨x, by rw [Hp.set_ne _ _ e3, Hp.set_ne _ _ e3, Hp.set_ne _ _ e2]; exact hx, .refl _⟩
    · rw [toldB, hb]; rfl

end Go.Proofs.Ytdeollnepclhaaa
end
section
set_option linter.unusedVariables false
set_option linter.unusedSimpArgs false
namespace Go.Proofs.Ytdeollnepclhaaa
open Go.V
theorem wps_of_vs {P : Program} {m : Option Tmp → Bool} {n : Nat} {c : Code} {s : Fr} {ds : List AD} {H : Hp} {Q : Post} (h : VS none P m n [.code c] s ds H Q) : WPS none P n c s ds H Q := vcC_sound c h
/-- What answer does. -/
-- tri_v0 (fun _ => false) Try.func51 (by kernel_rfl) rfl (by simp only [List.length_append, List.length_cons, List.length_nil, Try.ntmps51]; decide) ?_
theorem ans51 : AnsOk Try.prog 51 124 := by
  have hn : (1 : Nat) ≤ Try.f51.ntmps := by rw [Try.ntmps51]; decide
  refine ⟨fun H id f S vs ho hH ha => ?_, fun H id f c S vs ho hH ha => ?_, fun vs w => by kernel_rfl⟩
  · refine (ansD (args := [.ref id 0 1 0 0]) (t5 := 5) (t2 := 2) (Q := fun H' => H' = H) (u' := .returning) (rv := .lit .nilIface) (cv := .nilIface) Try.func51 rfl rfl hn (fun c₀ cs hu => .inr ⟨by simp [recoverD, hu], rfl, rfl⟩) hH ha (.lit _) ?_ (by rw [Try.ntmps51]; decide) (by rw [Try.ntmps51]; decide)).mono ?_
    · refine wps_of_vs (m := fun _ => false) ?_
      simp only [vsAll, binA, binLitA, nilA2, isConst, opA, dstOk, Nat.reduceLT, ↓reduceIte, reduceCtorEq, eq_self, wtAll, Try.ntmps51]
    · rintro e u w ⟨h1, h2, S', H', h3, h4, h5, rfl⟩
      exact ⟨h1, h2, S', h3, h4, h5⟩
  · refine (ansD (args := [.ref id 0 1 0 0]) (t5 := 5) (t2 := 2) (Q := fun H' => H' = H.set id (.box 1 1 fun _ => [i64 c])) (u' := .panicking [{ v := Go.V.refusal 124 c, recovered := true }]) (rv := .iface 124 (i64 c)) (cv := Go.V.refusal 124 c) Try.func51 rfl rfl hn (fun c₀ cs hu => .inl (by simp [recoverD, hu])) hH ha (.iface (.lit _)) ?_ (by rw [Try.ntmps51]; decide) (by rw [Try.ntmps51]; decide)).mono ?_
    · refine wps_of_vs (m := fun _ => false) ?_
      obtain ⟨bb, cc, e, q1, q2, q3, q4⟩ := hH.obj id _ ho
      have q5 := q4.2.1 0 (by omega)
      simp only [vsAll, binA, nilA2, unA, extractA, nilCheckA, cellA, cellsA, opA, newCells, okCells, storeObj, taA, dstOk, nilSliceOp, argFr, Nat.reduceAdd, Nat.reduceLT, Nat.reduceEqDiff, ↓reduceIte, reduceCtorEq, eq_self, wtAll, Try.ntmps51, ho]
      have : (f 0).drop 1 = [] := List.drop_eq_nil_of_le (by omega)
      rw [this]
    · rintro e u w ⟨h1, h2, S', H', h3, h4, h5, rfl⟩
      exact ⟨h1, h2, S', h3, h4, h5⟩

end Go.Proofs.Ytdeollnepclhaaa
end
section
set_option linter.unusedVariables false
set_option linter.unusedSimpArgs false
namespace Go.Proofs.Ytdeollnepclhaaa
open Go.V
/-- What comes of opening a hold. -/
def openR (h : Hd) (v : Bool) (H : Hp) : Res → Hp → Prop := fun r H' =>
  if HOk h then (if v = true then ∃ id, H id = none ∧ r = .ret (hdP h id) ∧ H' = H.set id (.memo (memoF h)) else r = .pan (.iface 124 (i64 2)) ∧ H' = H)
  else r = .pan (.iface 124 (i64 1)) ∧ H' = H

theorem open_tri (h : Hd) (fv : AV) (v : Bool) (H : Hp) (k : Near h) (hfv : fv.ok) (hst : fv.st = fv)
    (hq : HOk h → ∀ (H' : Hp) (id : Nat), H' id = some (.memo (memoF h)) → PTri Try.prog fv [hdP h id] H' (boo v)) :
    Tri Try.prog (fnA 52) [h.av, fv] H (openR h v H) := by
  have hn := k.n
  have hm := k.m
  refine tri_vs (m := fun _ => false) Try.func52 (by kernel_rfl) rfl (by simp only [List.length_append, List.length_cons, List.length_nil, Try.ntmps52]; decide) ?_
  simp only [vsAll, binA, binLitA, intA, loadA, loadRow, partA, partOk, fieldAddrA, lenA, boxA, opA, guardV, dstOk, nilSliceOp, argFr, Nat.reduceAdd, Nat.reduceLT, Nat.reduceEqDiff, Int.reduceEq, ↓reduceIte, implies_true, eq_self, ne_eq, wtAll, Try.ntmps52]
  refine gcall _ (fun hg => ⟨trivial, by simp only [vsAll, okAll, opsA, opA, ↓reduceIte, eq_self, hg], within_tri h.n 3 7 H⟩) ?_
  simp only [vsAll, binA, binLitA, intA, loadA, loadRow, partA, partOk, fieldAddrA, lenA, pickA, okAll, stAll, opsA, opA, guardV, dstOk, Nat.reduceLT, Nat.reduceEqDiff, ↓reduceIte, implies_true, eq_self, wtAll]
  have et : (h.n : Int).tmod 2 = (h.n : Int) % 2 := Int.tmod_eq_emod_of_nonneg (by omega)
  refine ask_call (fun hb => ?_) (fun hb => ?_)
  case refine_2 =>
    have hno : ¬ HOk h := fun q => by
      have q1 := q.n
      have q2 := q.m
      simp only [Bool.and_eq_false_iff, decide_eq_false_iff_not, et] at hb
      omega
    simp only [vsAll, eq_self]
    exact ⟨H, by simp only [HSub_refl], by unfold openR; rw [if_neg hno]; exact ⟨rfl, rfl⟩⟩
  simp only [Bool.and_eq_true, decide_eq_true_eq, et] at hb
  have hn3 : h.n = 3 ∨ h.n = 5 ∨ h.n = 7 := by omega
  have hm6 : h.m ≤ 6 := by omega
  simp only [vsAll, loadA, loadRow, partA, partOk, fieldAddrA, lenA, opA, dstOk, Nat.reduceLT, Nat.reduceEqDiff, ↓reduceIte, eq_self, wtAll]
  refine vs_loop (σ := Nat) (fun i => i ≤ h.n ∧ ∀ j, j < i → 0 ≤ h.fl j ∧ h.fl j ≤ 9) (fun i => [(1, fv), (2, .rptr 1 2 (fun _ => h.cs) 0 0), (29, flAV h.n h.fl), (30, i64 h.n), (31, i64 i)]) (fun _ => H) (fun i => h.n - i) 0 ⟨Nat.zero_le _, fun j hj => absurd hj (by omega)⟩ ?_ ?_ fun i hi => ?_
  · simp only [vsAll, argFr, Nat.reduceEqDiff, ↓reduceIte, eq_self, Int.natCast_zero]
  · simp only [HSub_refl]
  · obtain ⟨hi, hall⟩ := hi
    simp only [vsAll, binA, binLitA, intA, opA, dstOk, Nat.reduceLT, Nat.reduceEqDiff, ↓reduceIte, eq_self]
    refine condD (fun hd => ?_) (fun hd => ?_)
    · simp only [vsAll, loadA, loadRow, partA, partOk, indexAddrA, okAll, stAll, opsA, opA, dstOk, nilSliceOp, Nat.reduceLT, Nat.reduceEqDiff, ↓reduceIte, eq_self, wtAll]
      refine ⟨by omega, by omega, callK_pure (within_tri (h.fl i) 0 9 H) ?_⟩
      simp only [vsAll, okAll, stAll, opsA, opA, dstOk, Nat.reduceLT, ↓reduceIte, eq_self]
      refine ask_call (fun hc => ?_) (fun hc => ?_)
      · simp only [Bool.and_eq_true, decide_eq_true_eq] at hc
        simp only [vsAll, binA, binLitA, intA, opA, dstOk, Nat.reduceLT, Nat.reduceEqDiff, ↓reduceIte, eq_self]
        refine ⟨by simp only [InR_i64]; omega, loop_next (i + 1) ⟨by omega, fun j hj => ?_⟩ (by omega) ?_ ?_⟩
        · by_cases e : j = i
          · subst e; exact hc
          · exact hall j (by omega)
        · simp only [vsAll, Nat.reduceEqDiff, ↓reduceIte, eq_self, Int.natCast_add, Int.natCast_one]
        · simp only [HSub_refl]
      · have hno : ¬ HOk h := fun q => by
          have := q.f i (by omega)
          simp only [Bool.and_eq_false_iff, decide_eq_false_iff_not] at hc
          omega
        simp only [vsAll, eq_self]
        exact ⟨H, by simp only [HSub_refl], by unfold openR; rw [if_neg hno]; exact ⟨rfl, rfl⟩⟩
    · have ei : i = h.n := by omega
      subst ei
      simp only [vsAll, loadA, loadRow, partA, partOk, fieldAddrA, lenA, boxA, cellA, cellsA, fillA, okParts, partsA, partsOk, opA, nM, dstOk, nilSliceOp, Nat.reduceAdd, Nat.reduceLT, Nat.reduceLeDiff, Nat.reduceEqDiff, ↓reduceIte, eq_self, wtAll]
      intro id hid
      refine vs_loop (σ := Nat) (fun i => i ≤ h.m ∧ ∀ j, j < i → (0 ≤ (h.sd j).w ∧ (h.sd j).w < h.n) ∧ (-2 ≤ (h.sd j).a ∧ (h.sd j).a ≤ (h.sd j).b ∧ (h.sd j).b ≤ 2) ∧ (0 ≤ (h.sd j).c ∧ (h.sd j).c ≤ (h.sd j).d ∧ (h.sd j).d ≤ 40))
        (fun i => [(1, fv), (8, hdP h id), (44, sdAV h.m h.sd), (45, i64 h.m), (46, i64 i)]) (fun _ => H.set id (.memo (memoF h))) (fun i => h.m - i) 0 ⟨Nat.zero_le _, fun j hj => absurd hj (by omega)⟩ ?_ ?_ fun i hi => ?_
      · simp only [vsAll, Nat.reduceEqDiff, ↓reduceIte, eq_self, Int.natCast_zero]
      · exact HSub_set (memo_le (by simp) (by simp))
      · obtain ⟨hi, hall2⟩ := hi
        simp only [vsAll, binA, binLitA, intA, opA, dstOk, Nat.reduceLT, Nat.reduceEqDiff, Int.reduceNeg, ↓reduceIte, eq_self]
        refine condD (fun hd => ?_) (fun hd => ?_)
        · simp only [vsAll, loadA, loadRow, partA, partOk, fieldAddrA, indexAddrA, cellA, cellsA, okAll, stAll, opsA, opA, allocA, newCells, okCells, storeObj, dstOk, Nat.reduceAdd, Nat.reduceLT, Nat.reduceEqDiff, Int.reduceNeg, ↓reduceIte, eq_self, wtAll]
          refine ⟨by omega, by omega, fun i10 h10 => ?_⟩
          have n10 : i10 ≠ id := fun e => by rw [if_pos e] at h10; cases h10
          rw [if_neg n10] at h10
          have hsub : ∀ X Y : Go.V.Obj, Go.V.HSub (((H.set id (.memo (memoF h))).set i10 X).set i10 Y) (H.set id (.memo (memoF h))) := fun X Y => by
            rw [Hp.set_set]
            exact HSub_drop (by rw [Hp.set_ne _ _ n10]; exact h10)
          have hbad : ∀ (c : Int) X Y, ¬ HOk h → dropR (openR h v H) (.pan (.iface 124 (i64 1))) (((H.set id (.memo (memoF h))).set i10 X).set i10 Y) := fun c X Y hno => by
            refine ⟨H, ?_, by unfold openR; rw [if_neg hno]; exact ⟨rfl, rfl⟩⟩
            intro j x hx
            have e1 : j ≠ id := fun e => by rw [e, hid] at hx; cases hx
            have e2 : j ≠ i10 := fun e => by rw [e, h10] at hx; cases hx
            exact ⟨x, by rw [Hp.set_ne _ _ e2, Hp.set_ne _ _ e2, Hp.set_ne _ _ e1]; exact hx, .refl _⟩
          refine callK_pure (isPart_tri h id (h.sd i).w _ k) ?_
          simp only [vsAll, okAll, stAll, opsA, opA, dstOk, Nat.reduceLT, Int.reduceNeg, ↓reduceIte, eq_self]
          refine ask_call (fun c1 => ?_) (fun c1 => ?_)
          case refine_2 =>
            simp only [vsAll, Int.reduceNeg, eq_self]
            exact hbad 0 _ _ fun q => by
              have := q.w i (by omega)
              rw [(partB_iff h _).2 this] at c1; cases c1
          rw [partB_iff] at c1
          simp only [vsAll, loadA, loadRow, partA, partOk, fieldAddrA, okAll, stAll, opsA, opA, dstOk, Nat.reduceLT, Nat.reduceEqDiff, Int.reduceNeg, ↓reduceIte, eq_self, wtAll]
          refine callK_pure (isList_tri (h.sd i).a _) ?_
          simp only [vsAll, loadA, loadRow, partA, partOk, fieldAddrA, opA, guardV, dstOk, Nat.reduceAdd, Nat.reduceLT, Nat.reduceEqDiff, Int.reduceNeg, ↓reduceIte, implies_true, eq_self, wtAll]
          apply gcall
          · exact fun hg => ⟨trivial, by simp only [vsAll, okAll, opsA, opA, ↓reduceIte, eq_self, hg], isList_tri (h.sd i).b _⟩
          simp only [vsAll, binA, binLitA, intA, loadA, loadRow, partA, partOk, fieldAddrA, pickA, okAll, stAll, opsA, opA, guardV, dstOk, Nat.reduceAdd, Nat.reduceLT, Nat.reduceEqDiff, Int.reduceNeg, ↓reduceIte, implies_true, eq_self, wtAll]
          refine ask_call (fun c2 => ?_) (fun c2 => ?_)
          case refine_2 =>
            simp only [vsAll, Int.reduceNeg, eq_self]
            exact hbad 0 _ _ fun q => by
              have := q.l i (by omega)
              have h1 := (tiltB_iff (h.sd i).a).2 (by omega)
              have h2 := (tiltB_iff (h.sd i).b).2 (by omega)
              rw [h1, h2] at c2
              simp only [Bool.and_self, Bool.true_and, decide_eq_false_iff_not] at c2
              omega
          simp only [Bool.and_eq_true, tiltB_iff, decide_eq_true_eq] at c2
          simp only [vsAll, binA, binLitA, intA, loadA, loadRow, partA, partOk, fieldAddrA, pickA, okAll, stAll, opsA, opA, guardV, dstOk, Nat.reduceAdd, Nat.reduceLT, Nat.reduceEqDiff, Int.reduceNeg, ↓reduceIte, implies_true, eq_self, wtAll]
          refine ask_call (fun c3 => ?_) (fun c3 => ?_)
          case refine_2 =>
            simp only [vsAll, Int.reduceNeg, eq_self]
            exact hbad 0 _ _ fun q => by
              have := q.r i (by omega)
              simp only [Bool.and_eq_false_iff, decide_eq_false_iff_not] at c3
              omega
          simp only [Bool.and_eq_true, decide_eq_true_eq] at c3
          simp only [vsAll, binA, binLitA, intA, opA, dstOk, Nat.reduceLT, Nat.reduceEqDiff, Int.reduceNeg, ↓reduceIte, eq_self]
          refine ⟨by simp only [InR_i64]; omega, loop_next (i + 1) ⟨by omega, fun j hj => ?_⟩ (by omega) ?_ ?_⟩
          · by_cases e : j = i
            · subst e; omega
            · exact hall2 j (by omega)
          · simp only [vsAll, Nat.reduceEqDiff, ↓reduceIte, eq_self, Int.natCast_add, Int.natCast_one]
          · exact hsub _ _
        · have ei : i = h.m := by omega
          subst ei
          have hk : HOk h := ⟨hn3, hm6, hall, fun i hi => (hall2 i hi).1, fun i hi => (hall2 i hi).2.1, fun i hi => (hall2 i hi).2.2⟩
          have hback : Go.V.HSub (H.set id (.memo (memoF h))) H := HSub_drop hid
          simp only [vsAll, okAll, stAll, opsA, opA, dstOk, Nat.reduceLT, Nat.reduceEqDiff, Int.reduceNeg, ↓reduceIte, eq_self, hst, hfv]
          refine callK_pure (hq hk _ id (Hp.set_same _ _ _)) ?_
          simp only [vsAll, okAll, stAll, opsA, opA, dstOk, Nat.reduceLT, ↓reduceIte, eq_self]
          refine ask_call (fun c4 => ?_) (fun c4 => ?_)
          · simp only [vsAll, opA, dstOk, nilSliceOp, Nat.reduceLT, Nat.reduceEqDiff, ↓reduceIte, eq_self]
            refine ret0 ?_
            simp only [vsAll, resA, retA.eq_1, ↓reduceIte, eq_self, Try.results52]
            refine ⟨H.set id (.memo (memoF h)), by simp only [HSub_refl], ?_⟩
            unfold openR
            rw [if_pos hk, if_pos c4]
            exact ⟨id, hid, rfl, rfl⟩
          · simp only [vsAll, eq_self]
            refine ⟨H, hback, ?_⟩
            unfold openR
            rw [if_pos hk, if_neg (by rw [c4]; decide)]
            exact ⟨rfl, rfl⟩

end Go.Proofs.Ytdeollnepclhaaa
end
section
set_option linter.unusedVariables false
set_option linter.unusedSimpArgs false
namespace Go.Proofs.Ytdeollnepclhaaa
open Go.V
abbrev bx (n : Int) : AV := .rptr 1 1 (fun _ => [i64 n]) 0 0

theorem stand1_tri (w t : Int) (x : AV) (H : Hp) : PTri Try.prog (.func (.func 53) [] [bx w, bx t]) [x] H (boo (amtB w && tiltB t)) := by
  refine tri_v0 (fun _ => false) Try.func53 (by kernel_rfl) rfl (by simp only [List.length_append, List.length_cons, List.length_nil, Try.ntmps53]; decide) ?_
  simp only [vsAll, loadA, loadRow, partA, partOk, okAll, stAll, opsA, opA, dstOk, nilSliceOp, argFr, Nat.reduceLT, Nat.reduceEqDiff, ↓reduceIte, eq_self, wtAll, Try.ntmps53]
  refine callK_pure (isAmount_tri w H) ?_
  simp only [vsAll, loadA, loadRow, partA, partOk, opA, guardV, dstOk, argFr, Nat.reduceLT, Nat.reduceEqDiff, ↓reduceIte, implies_true, eq_self, wtAll]
  refine gcall _ (fun hg => ⟨trivial, by simp only [vsAll, okAll, opsA, opA, ↓reduceIte, eq_self, hg], isList_tri t H⟩) ?_
  simp only [vsAll, pickA, opA, dstOk, nilSliceOp, resA, retA.eq_1, Nat.reduceLT, Nat.reduceEqDiff, ↓reduceIte, implies_true, eq_self, Try.results53]

theorem errE_no {h : Hd} (hno : ¬ HOk h) (v t : Bool) : errE h v t = 1 := by unfold errE; rw [if_neg hno]
theorem errE_bad {h : Hd} (hk : HOk h) (t : Bool) : errE h false t = 2 := by unfold errE; rw [if_pos hk, if_neg (by decide)]
theorem errE_ok {h : Hd} (hk : HOk h) : errE h true false = 0 := by unfold errE; rw [if_pos hk, if_pos rfl, if_neg (fun q => by cases q.1)]

/-- A call of open, by its outcomes. -/
theorem open_call {h : Hd} {fv : AV} {v : Bool} {H : Hp} {K : AV → Hp → Prop} {Kp : AV → Hp → Prop} (ht : Tri Try.prog (fnA 52) [h.av, fv] H (openR h v H))
    (h1 : ¬ HOk h → Kp (.iface 124 (i64 1)) H) (h2 : HOk h → v = false → Kp (.iface 124 (i64 2)) H)
    (h3 : HOk h → v = true → ∀ id, H id = none → K (hdP h id) (H.set id (.memo (memoF h)))) : CallK Try.prog (fnA 52) [h.av, fv] H K Kp := by
  refine ⟨_, ht, fun r H' hr => ?_⟩
  unfold openR at hr
  split at hr
  · rename_i hk
    split at hr
    · rename_i hv
      obtain ⟨id, hid, rfl, rfl⟩ := hr
      exact h3 hk hv id hid
    · rename_i hv
      obtain ⟨rfl, rfl⟩ := hr
      exact h2 hk (by simpa using hv)
  · rename_i hk
    obtain ⟨rfl, rfl⟩ := hr
    exact h1 hk

theorem wstand_tri (h : Hd) (w t : Int) (H : Hp) (k : Near h) : PTri Try.prog (fnA 15) [h.av, i64 w, i64 t] H (.tuple [i64 (standV h w t), i64 (standE h w t)]) := by
  refine Tri.drop ?_
  refine tri_a (m := fun _ => false) ans51 Try.func15 (by kernel_rfl) rfl (by simp only [List.length_append, List.length_cons, List.length_nil, Try.ntmps15]; decide) ?_
  simp only [vsAll, loadA, loadRow, partA, partOk, boxA, cellA, okAll, stAll, opsA, opA, allocA, dstOk, nilSliceOp, argFr, Nat.reduceAdd, Nat.reduceLT, Nat.reduceEqDiff, ↓reduceIte, eq_self, wtAll, Try.ntmps15]
  intro i7 h7
  refine open_call (open_tri h _ (amtB w && tiltB t) _ k trivial rfl (fun hk H' id ho => stand1_tri w t _ H')) (fun hno => ?_) (fun hk hv => ?_) (fun hk hv id hid => ?_)
  · have e : standE h w t = 1 := errE_no hno _ _
    simp only [vsAll]
    refine ⟨1, i7, _, rfl, rfl, Hp.set_same _ _ _, ?_⟩
    simp only [vsAll, loadA, loadRow, partA, partOk, resA, retA.eq_2, Nat.reduceLT, Nat.reduceEqDiff, ↓reduceIte, eq_self, wtAll, Try.results15]
    refine dropR_pure ?_ (by rw [Hp.set_set]; exact HSub_drop h7)
    simp only [Int.reduceEq, ↓reduceIte, eq_self, standV, e]
  · have e : standE h w t = 2 := by unfold standE; rw [hv]; exact errE_bad hk _
    simp only [vsAll]
    refine ⟨2, i7, _, rfl, rfl, Hp.set_same _ _ _, ?_⟩
    simp only [vsAll, loadA, loadRow, partA, partOk, resA, retA.eq_2, Nat.reduceLT, Nat.reduceEqDiff, ↓reduceIte, eq_self, wtAll, Try.results15]
    refine dropR_pure ?_ (by rw [Hp.set_set]; exact HSub_drop h7)
    simp only [Int.reduceEq, ↓reduceIte, eq_self, standV, e]
  · have n7 : id ≠ i7 := fun e => by rw [e, Hp.set_same] at hid; cases hid
    have m7 : ¬ i7 = id := fun e => n7 e.symm
    rw [Hp.set_ne _ _ n7] at hid
    have e : standE h w t = 0 := by unfold standE; rw [hv]; exact errE_ok hk
    simp only [Bool.and_eq_true, amtB_iff, tiltB_iff] at hv
    simp only [vsAll, loadA, loadRow, partA, partOk, okAll, stAll, opsA, opA, dstOk, nilSliceOp, Nat.reduceLT, Nat.reduceEqDiff, ↓reduceIte, eq_self, wtAll]
    refine callK_pure (stand_tri h id w t _ hk (Hp.set_same _ _ _) hv.1 hv.2) ?_
    simp only [vsAll, partA, fieldA, cellA, cellsA, opA, newCells, okCells, storeObj, dstOk, nilSliceOp, Nat.reduceAdd, Nat.reduceLT, Nat.reduceEqDiff, ↓reduceIte, eq_self, wtAll, m7]
    refine Ent.ret ⟨i7, _, rfl, Hp.set_same _ _ _, ?_⟩
    simp only [vsAll, loadA, loadRow, partA, partOk, resA, retA.eq_2, Nat.reduceLT, Nat.reduceEqDiff, ↓reduceIte, eq_self, wtAll, Try.results15]
    refine dropR_pure ?_ ?_
    · simp only [↓reduceIte, eq_self, standV, e]
    · intro j x hx
      have e7 : j ≠ i7 := fun e => by rw [e, h7] at hx; cases hx
      have ei : j ≠ id := fun e => by rw [e, hid] at hx; cases hx
      exact ⟨x, by rw [Hp.set_ne _ _ e7, Hp.set_ne _ _ ei, Hp.set_ne _ _ e7]; exact hx, .refl _⟩

end Go.Proofs.Ytdeollnepclhaaa
end
section
set_option linter.unusedVariables false
set_option linter.unusedSimpArgs false
namespace Go.Proofs.Ytdeollnepclhaaa
open Go.V
theorem depth1_tri (h : Hd) (id : Nat) (w t p : Int) (H : Hp) (k : Near h) : PTri Try.prog (.func (.func 61) [] [bx w, bx t, bx p]) [hdP h id] H (boo (amtB w && tiltB t && partB h p)) := by
  refine tri_v0 (fun _ => false) Try.func61 (by kernel_rfl) rfl (by simp only [List.length_append, List.length_cons, List.length_nil, Try.ntmps61]; decide) ?_
  simp only [vsAll, loadA, loadRow, partA, partOk, okAll, stAll, opsA, opA, dstOk, nilSliceOp, argFr, Nat.reduceLT, Nat.reduceEqDiff, ↓reduceIte, eq_self, wtAll, Try.ntmps61]
  refine callK_pure (isAmount_tri w H) ?_
  simp only [vsAll, loadA, loadRow, partA, partOk, opA, guardV, dstOk, argFr, Nat.reduceLT, Nat.reduceEqDiff, ↓reduceIte, implies_true, eq_self, wtAll]
  refine gcall _ (fun hg => ⟨trivial, by simp only [vsAll, okAll, opsA, opA, ↓reduceIte, eq_self, hg], isList_tri t H⟩) ?_
  simp only [vsAll, loadA, loadRow, partA, partOk, pickA, opA, guardV, dstOk, argFr, Nat.reduceLT, Nat.reduceEqDiff, ↓reduceIte, reduceCtorEq, implies_true, eq_self, wtAll]
  refine gcall _ (fun hg => ⟨trivial, by simp only [vsAll, okAll, opsA, opA, Nat.reduceEqDiff, ↓reduceIte, eq_self, hg], isPart_tri h id p H k⟩) ?_
  simp only [vsAll, pickA, opA, dstOk, nilSliceOp, resA, retA.eq_1, Nat.reduceLT, Nat.reduceEqDiff, ↓reduceIte, implies_true, eq_self, Try.results61]

theorem wdepth_tri (h : Hd) (w t p : Int) (H : Hp) (k : Near h) : PTri Try.prog (fnA 17) [h.av, i64 w, i64 t, i64 p] H (.tuple [i64 (depthV h w t p), i64 (depthE h w t p)]) := by
  refine Tri.drop ?_
  refine tri_a (m := fun _ => false) ans51 Try.func17 (by kernel_rfl) rfl (by simp only [List.length_append, List.length_cons, List.length_nil, Try.ntmps17]; decide) ?_
  simp only [vsAll, loadA, loadRow, partA, partOk, boxA, cellA, okAll, stAll, opsA, opA, allocA, dstOk, nilSliceOp, argFr, Nat.reduceAdd, Nat.reduceLT, Nat.reduceEqDiff, ↓reduceIte, eq_self, wtAll, Try.ntmps17]
  intro i8 h8
  refine open_call (open_tri h _ (amtB w && tiltB t && partB h p) _ k trivial rfl (fun hk H' id ho => depth1_tri h id w t p H' k)) (fun hno => ?_) (fun hk hv => ?_) (fun hk hv id hid => ?_)
  · have e : depthE h w t p = 1 := errE_no hno _ _
    simp only [vsAll]
    refine ⟨1, i8, _, rfl, rfl, Hp.set_same _ _ _, ?_⟩
    simp only [vsAll, loadA, loadRow, partA, partOk, resA, retA.eq_2, Nat.reduceLT, Nat.reduceEqDiff, ↓reduceIte, eq_self, wtAll, Try.results17]
    refine dropR_pure ?_ (by rw [Hp.set_set]; exact HSub_drop h8)
    simp only [Int.reduceEq, ↓reduceIte, eq_self, depthV, e]
  · have e : depthE h w t p = 2 := by unfold depthE; rw [hv]; exact errE_bad hk _
    simp only [vsAll]
    refine ⟨2, i8, _, rfl, rfl, Hp.set_same _ _ _, ?_⟩
    simp only [vsAll, loadA, loadRow, partA, partOk, resA, retA.eq_2, Nat.reduceLT, Nat.reduceEqDiff, ↓reduceIte, eq_self, wtAll, Try.results17]
    refine dropR_pure ?_ (by rw [Hp.set_set]; exact HSub_drop h8)
    simp only [Int.reduceEq, ↓reduceIte, eq_self, depthV, e]
  · have n7 : id ≠ i8 := fun e => by rw [e, Hp.set_same] at hid; cases hid
    have m7 : ¬ i8 = id := fun e => n7 e.symm
    rw [Hp.set_ne _ _ n7] at hid
    have e : depthE h w t p = 0 := by unfold depthE; rw [hv]; exact errE_ok hk
    simp only [Bool.and_eq_true, amtB_iff, tiltB_iff, partB_iff] at hv
    simp only [vsAll, loadA, loadRow, partA, partOk, okAll, stAll, opsA, opA, dstOk, nilSliceOp, Nat.reduceLT, Nat.reduceEqDiff, ↓reduceIte, eq_self, wtAll]
    refine callK_pure (wdeep_tri h id w t p _ hk (Hp.set_same _ _ _) hv.1.1 hv.1.2 hv.2) ?_
    simp only [vsAll, cellA, cellsA, opA, newCells, okCells, storeObj, dstOk, nilSliceOp, Nat.reduceLT, Nat.reduceEqDiff, ↓reduceIte, eq_self, wtAll, m7]
    refine Ent.ret ⟨i8, _, rfl, Hp.set_same _ _ _, ?_⟩
    simp only [vsAll, loadA, loadRow, partA, partOk, resA, retA.eq_2, Nat.reduceLT, Nat.reduceEqDiff, ↓reduceIte, eq_self, wtAll, Try.results17]
    refine dropR_pure ?_ ?_
    · simp only [↓reduceIte, eq_self, depthV, e]
    · intro j x hx
      have e7 : j ≠ i8 := fun e => by rw [e, h8] at hx; cases hx
      have ei : j ≠ id := fun e => by rw [e, hid] at hx; cases hx
      exact ⟨x, by rw [Hp.set_ne _ _ e7, Hp.set_ne _ _ ei, Hp.set_ne _ _ e7]; exact hx, .refl _⟩

end Go.Proofs.Ytdeollnepclhaaa
end
section
set_option linter.unusedVariables false
set_option linter.unusedSimpArgs false
namespace Go.Proofs.Ytdeollnepclhaaa
open Go.V
def waterE (h : Hd) : Int := errE h true true
def waterV (h : Hd) : List (Int × Int) := if waterE h = 0 then spansL (allA h) else []

end Go.Proofs.Ytdeollnepclhaaa
end
section
set_option linter.unusedVariables false
set_option linter.unusedSimpArgs false
namespace Go.Proofs.Ytdeollnepclhaaa
open Go.V
theorem always_tri (x : AV) (H : Hp) : PTri Try.prog (fnA 66) [x] H (boo true) := by
  refine tri_v0 (fun _ => false) Try.func66 (by kernel_rfl) rfl (by simp only [List.length_append, List.length_cons, List.length_nil, Try.ntmps66]; decide) ?_
  simp only [vsAll, opA, dstOk, nilSliceOp, resA, retA.eq_1, Nat.reduceLT, ↓reduceIte, eq_self, Try.ntmps66, Try.results66]

theorem told_filter (h : Hd) : (List.range 101).filter (toldB h) = allA h := by
  unfold allA amts amtsN
  congr 1
  funext w
  exact byN_can h _ w

/-- Is there a truth? -/
theorem told_some (h : Hd) : someB (toldB h) = true ↔ 0 < (allA h).length := by
  rw [← told_filter, List.length_filter_pos_iff]
  simp only [someB, List.any_eq_true]
theorem errE_told {h : Hd} (hk : HOk h) (hs : someB (toldB h) = true) : errE h true true = 0 := by
  have := (told_some h).1 hs
  unfold errE; rw [if_pos hk, if_pos rfl, if_neg (fun q => by omega)]
theorem errE_clash {h : Hd} (hk : HOk h) (hs : ¬ someB (toldB h) = true) : errE h true true = 10 := by
  have : ¬ 0 < (allA h).length := fun q => hs ((told_some h).2 q)
  unfold errE; rw [if_pos hk, if_pos rfl, if_pos ⟨rfl, by omega⟩]

/-- The spans of the amounts below i, and the last amount of them. -/
def wA (h : Hd) (i : Nat) : List (Int × Int) := spansL ((List.range i).filter (toldB h))
def wL (l : List (Int × Int)) : Int := match l.getLast? with
  | some p => p.2
  | none => -2
theorem wA_no {h : Hd} {i : Nat} (hc : toldB h i = false) : wA h (i + 1) = wA h i := by
  simp [wA, List.range_succ, List.filter_append, hc]
theorem wA_yes {h : Hd} {i : Nat} (hc : toldB h i = true) : wA h (i + 1) = addS (wA h i) i := by
  have : [i].filter (toldB h) = [i] := by simp [hc]
  rw [wA, List.range_succ, List.filter_append, this, spansL_snoc]; rfl
theorem wA_len (h : Hd) (i : Nat) : (wA h i).length ≤ i := by
  have h1 := spansL_len ((List.range i).filter (toldB h))
  have h2 := List.length_filter_le (toldB h) (List.range i)
  rw [List.length_range] at h2
  exact Nat.le_trans h1 h2
theorem addS_new {l : List (Int × Int)} {a : Int} (h : wL l < a - 1) : addS l a = l ++ [(a, a)] := by
  unfold addS wL at *
  split
  · rename_i p hp
    rw [hp] at h
    simp only at h
    rw [if_neg (by omega)]
  · rfl
theorem addS_old {l : List (Int × Int)} {a : Int} (h : ¬ wL l < a - 1) (ha : 0 ≤ a) (hl : wL l ≤ a - 1) : ∃ p, l.getLast? = some p ∧ addS l a = l.dropLast ++ [(p.1, a)] := by
  unfold addS wL at *
  cases hp : l.getLast? with
  | none => rw [hp] at h; simp only at h; omega
  | some p => rw [hp] at h hl; simp only at h hl; exact ⟨p, rfl, by simp only; rw [if_pos (by omega)]⟩
theorem upd_last {l : List (Int × Int)} {p : Int × Int} {a : Int} {j : Nat} (hp : l.getLast? = some p) (hj : j < l.length) :
    (if j = l.length - 1 then List.take 1 (spanF l (l.length - 1)) ++ [AV.lit (Value.int IntKind.i64 a)] ++ List.drop 2 (spanF l (l.length - 1)) else spanF l j) = spanF (l.dropLast ++ [(p.1, a)]) j := by
  obtain ⟨ys, rfl⟩ := List.getLast?_eq_some_iff.1 hp
  simp only [List.dropLast_concat, List.length_append, List.length_cons, List.length_nil, Nat.zero_add, Nat.add_sub_cancel, spanF, getD_snoc]
  split
  · simp
  · rfl
theorem wL_snoc (l : List (Int × Int)) (p : Int × Int) : wL (l ++ [p]) = p.2 := by simp [wL]

/-- What is told of water, in a row of its own. -/
def waterR (h : Hd) (H : Hp) : Res → Hp → Prop := fun r H' => ∃ id, H id = none ∧ r = .ret (.tuple [.sl id 2 (waterV h).length, i64 (waterE h)]) ∧ H' = H.set id (.row 2 (waterV h).length (spanF (waterV h)))
theorem wwater_triM (h : Hd) (H : Hp) (k : Near h) : Tri Try.prog (fnA 19) [h.av] H (waterR h H) := by
  refine Tri.drop ?_
  refine tri_a (m := mset [2]) ans51 Try.func19 (by kernel_rfl) rfl (by simp only [List.length_append, List.length_cons, List.length_nil, Try.ntmps19]; decide) ?_
  simp only [vsAll, loadA, loadRow, partA, partOk, boxA, okAll, stAll, opsA, opA, allocA, dstOk, nilA, nilSliceOp, argFr, Nat.reduceAdd, Nat.reduceLT, Nat.reduceEqDiff, Nat.reduceBEq, Int.reduceNeg, ↓reduceIte, eq_self, wtAll, Try.ntmps19]
  intro i2 hh_i2; (try simp only [Hp.set_none, ite_none] at hh_i2); intro i3 hh_i3; (try simp only [ite_none] at hh_i3)
  refine open_call (open_tri h _ true _ k trivial rfl (fun hk H' id ho => always_tri _ H')) (fun hno => ?_) (fun hk hv => by cases hv) (fun hk hv => ?_)
  · have e : waterE h = 1 := errE_no hno _ _
    have ev : waterV h = [] := by simp [waterV, e]
    simp only [vsAll, Int.reduceNeg]
    refine ⟨1, i3, _, rfl, rfl, Hp.set_same _ _ _, ?_⟩
    simp only [vsAll, loadA, loadRow, partA, partOk, resA, retA.eq_2, Nat.reduceLT, Nat.reduceEqDiff, Int.reduceNeg, ↓reduceIte, eq_self, wtAll, Try.results19]
    refine ⟨_, ?_, i2, hh_i2, by simp only [vsAll, eq_self, ev, e], rfl⟩
    rw [ev]
    refine HSub_put (o' := .row 2 0 fun _ => []) (by simp only [vsAll, ↓reduceIte, eq_self, hh_i3]) (row0_le _ _ _) ?_
    (repeat (first | exact HSub_rfl | refine HSub_put_eq (by simp only [vsAll, binA, binLitA, intA, aggA, boolA, nilA2, isConst, unA, loadA, loadRow, partA, partOk, fieldAddrA, indexAddrA, indexA, fieldA, extractA, lenA, nilCheckA, boxA, cellA, cellsA, fillA, okParts, buildSliceA, buildMutA, makeSliceA, partIdx, elemsA, lensA, ifaceA, convA, mmA, pickA, okAll, stAll, opsA, partsA, partsOk, opA, allocA, boxMutA, newCells, okCells, storeObj, appendA, guardV, taA, nM, mapUpA, lookA, sliceA, boundsA, opO, okO, copyA, dstOk, nilA, quietOk, nilSliceOp, panA, resA, argFr, retA.eq_1, retA.eq_2, Nat.reduceAdd, Nat.reduceSub, Nat.reduceMul, Nat.reduceLT, Nat.reduceLeDiff, Nat.reduceEqDiff, Nat.reduceBEq, Int.reduceAdd, Int.reduceSub, Int.reduceMul, Int.reduceNeg, Int.reduceLE, Int.reduceLT, Int.reduceEq, Int.reduceNe, Int.reduceToNat, ↓reduceIte, reduceCtorEq, implies_true, forall_const, eq_self, ne_eq, wtAll, Try.ntmps19, Try.results19, hh_i2, hh_i3]) ?_ | refine HSub_drop2 (by simp only [eq_self, hh_i2, hh_i3]) ?_ | refine HSub_keep_eq (by simp only [vsAll, binA, binLitA, intA, aggA, boolA, nilA2, isConst, unA, loadA, loadRow, partA, partOk, fieldAddrA, indexAddrA, indexA, fieldA, extractA, lenA, nilCheckA, boxA, cellA, cellsA, fillA, okParts, buildSliceA, buildMutA, makeSliceA, partIdx, elemsA, lensA, ifaceA, convA, mmA, pickA, okAll, stAll, opsA, partsA, partsOk, opA, allocA, boxMutA, newCells, okCells, storeObj, appendA, guardV, taA, nM, mapUpA, lookA, sliceA, boundsA, opO, okO, copyA, dstOk, nilA, quietOk, nilSliceOp, panA, resA, argFr, retA.eq_1, retA.eq_2, Nat.reduceAdd, Nat.reduceSub, Nat.reduceMul, Nat.reduceLT, Nat.reduceLeDiff, Nat.reduceEqDiff, Nat.reduceBEq, Int.reduceAdd, Int.reduceSub, Int.reduceMul, Int.reduceNeg, Int.reduceLE, Int.reduceLT, Int.reduceEq, Int.reduceNe, Int.reduceToNat, ↓reduceIte, reduceCtorEq, implies_true, forall_const, eq_self, ne_eq, wtAll, Try.ntmps19, Try.results19, hh_i2, hh_i3]) ?_))
  · intro id hh_id; (try simp only [Hp.set_none] at hh_id)
    simp only [vsAll, okAll, stAll, opsA, opA, dstOk, Nat.reduceLT, Int.reduceNeg, ↓reduceIte, eq_self]
    refine ⟨_, told_tri h id _ hk (by simp only [vsAll, ↓reduceIte, eq_self]), ?_⟩
    rintro r H' ⟨rfl, rfl⟩
    by_cases hs : someB (toldB h) = true
    · rw [if_pos hs]
      have e : waterE h = 0 := errE_told hk hs
      have ev : waterV h = wA h 101 := by rw [waterV, if_pos e, ← told_filter]; rfl
      simp only [vsAll, loadA, loadRow, opA, allocA, storeObj, dstOk, Nat.reduceMul, Nat.reduceLT, Nat.reduceEqDiff, Int.reduceNeg, ↓reduceIte, eq_self, wtAll]
      intro i5 hh_i5; (try simp only [ite_none] at hh_i5)
      refine ⟨fun j hj => by simp [amF, okCells, cellA], ?_⟩
      refine vs_loop (σ := Nat) (fun i => i ≤ 101 ∧ wL (wA h i) ≤ (i : Int) - 1) (fun i => [(2, .sl i2 2 (wA h i).length), (3, .ref i3 0 1 0 0), (4, i64 (wL (wA h i))), (11, amAV (toldB h)), (12, i64 i)])
        (fun i => ((((H.set i3 (.box 1 1 fun _ => [i64 0])).set id (.memo (memoF h))).set i5 (.box 1 101 (amF (toldB h)))).set i2 (.row 2 (wA h i).length (spanF (wA h i))))) (fun i => 101 - i) 0 ⟨by ((try clear hh_i2); (try clear hh_i3); (try clear hh_id); (try clear hh_i5); omega), by show (-2 : Int) ≤ ((0 : Nat) : Int) - 1; ((try clear hh_i2); (try clear hh_i3); (try clear hh_id); (try clear hh_i5); omega)⟩ ?_ ?_ fun i hi => ?_
      · have a0 : wA h 0 = [] := rfl
        have l0 : wL [] = -2 := rfl
        simp only [vsAll, Nat.reduceEqDiff, Int.reduceNeg, ↓reduceIte, eq_self, Int.natCast_zero, a0, l0]
      · refine HSub_put (o' := .row 2 0 fun _ => []) (by simp only [vsAll, ↓reduceIte, eq_self, hh_i3, hh_id, hh_i5]) (row0_le _ _ _) ?_
        (repeat (first | exact HSub_rfl | refine HSub_put_eq (by simp only [vsAll, ↓reduceIte, eq_self, hh_id, hh_i5]) ?_ | refine HSub_drop2 (by simp only [eq_self, hh_i2, hh_i3, hh_id, hh_i5]) ?_ | refine HSub_keep_eq (by simp only [vsAll, binA, binLitA, intA, aggA, boolA, nilA2, isConst, unA, loadA, loadRow, partA, partOk, fieldAddrA, indexAddrA, indexA, fieldA, extractA, lenA, nilCheckA, boxA, cellA, cellsA, fillA, okParts, buildSliceA, buildMutA, makeSliceA, partIdx, elemsA, lensA, ifaceA, convA, mmA, pickA, okAll, stAll, opsA, partsA, partsOk, opA, allocA, boxMutA, newCells, okCells, storeObj, appendA, guardV, taA, nM, mapUpA, lookA, sliceA, boundsA, opO, okO, copyA, dstOk, nilA, quietOk, nilSliceOp, panA, resA, argFr, retA.eq_1, retA.eq_2, Nat.reduceAdd, Nat.reduceSub, Nat.reduceMul, Nat.reduceLT, Nat.reduceLeDiff, Nat.reduceEqDiff, Nat.reduceBEq, Int.reduceAdd, Int.reduceSub, Int.reduceMul, Int.reduceNeg, Int.reduceLE, Int.reduceLT, Int.reduceEq, Int.reduceNe, Int.reduceToNat, ↓reduceIte, reduceCtorEq, implies_true, forall_const, eq_self, ne_eq, wtAll, Try.ntmps19, Try.results19, hh_i2, hh_i3, hh_id, hh_i5]) ?_))
      · obtain ⟨hi, hL⟩ := hi
        simp only [vsAll, binA, binLitA, intA, opA, dstOk, Nat.reduceLT, Nat.reduceEqDiff, ↓reduceIte, eq_self]
        refine condD (fun hd => ?_) (fun hd => ?_)
        · simp only [vsAll, unA, partA, indexA, opA, dstOk, nilSliceOp, Nat.reduceLT, Nat.reduceEqDiff, Nat.reduceBEq, ↓reduceIte, eq_self, wtAll, amF_at]
          refine ⟨by ((try clear hh_i2); (try clear hh_i3); (try clear hh_id); (try clear hh_i5); omega), condV (fun hc => ?_) (fun hc => ?_)⟩
          · simp only [Bool.not_eq_true'] at hc
            have ea := wA_no hc
            simp only [vsAll, binA, binLitA, intA, opA, dstOk, Nat.reduceLT, Nat.reduceEqDiff, ↓reduceIte, eq_self]
            refine ⟨by simp only [InR_i64]; ((try clear hh_i2); (try clear hh_i3); (try clear hh_id); (try clear hh_i5); omega), loop_next (i + 1) ⟨by ((try clear hh_i2); (try clear hh_i3); (try clear hh_id); (try clear hh_i5); omega), by rw [ea]; ((try clear hh_i2); (try clear hh_i3); (try clear hh_id); (try clear hh_i5); omega)⟩ (by ((try clear hh_i2); (try clear hh_i3); (try clear hh_id); (try clear hh_i5); omega)) ?_ ?_⟩
            · simp only [vsAll, Nat.reduceEqDiff, ↓reduceIte, eq_self, ea, Int.natCast_add, Int.natCast_one]
            · simp only [ea, HSub_refl]
          · simp only [Bool.not_eq_false'] at hc
            have ea := wA_yes hc
            have al := wA_len h i
            simp only [vsAll, binA, binLitA, intA, opA, dstOk, Nat.reduceLT, Nat.reduceEqDiff, ↓reduceIte, eq_self]
            refine ⟨by simp only [InR_i64]; ((try clear hh_i2); (try clear hh_i3); (try clear hh_id); (try clear hh_i5); omega), condD (fun hlt => ?_) (fun hlt => ?_)⟩
            · have ea2 : wA h (i + 1) = wA h i ++ [((i : Int), (i : Int))] := by rw [ea, addS_new hlt]
              have el2 : wL (wA h (i + 1)) = i := by rw [ea2, wL_snoc]
              have al2 : (wA h (i + 1)).length = (wA h i).length + 1 := by rw [ea2]; simp
              simp only [vsAll, binA, binLitA, intA, fieldAddrA, indexAddrA, lenA, cellA, cellsA, fillA, okParts, buildSliceA, partIdx, elemsA, lensA, partsA, partsOk, opA, newCells, okCells, storeObj, appendA, dstOk, nilSliceOp, Nat.reduceAdd, Nat.reduceMul, Nat.reduceLT, Nat.reduceLeDiff, Nat.reduceEqDiff, Nat.reduceBEq, ↓reduceIte, eq_self, wtAll]
              rw [app_spans _ (i : Int) 0 _ rfl]
              have en : (((wA h i).length + 1 : Nat) : Int) - 1 = ((wA h i).length : Int) := by ((try clear hh_i2); (try clear hh_i3); (try clear hh_id); (try clear hh_i5); omega)
              simp only [InR_i64]
              refine ⟨fun j hj => ?_, by ((try clear hh_i2); (try clear hh_i3); (try clear hh_id); (try clear hh_i5); omega), by ((try clear hh_i2); (try clear hh_i3); (try clear hh_id); (try clear hh_i5); omega), by ((try clear hh_i2); (try clear hh_i3); (try clear hh_id); (try clear hh_i5); omega), by ((try clear hh_i2); (try clear hh_i3); (try clear hh_id); (try clear hh_i5); omega), by ((try clear hh_i2); (try clear hh_i3); (try clear hh_id); (try clear hh_i5); omega), by ((try clear hh_i2); (try clear hh_i3); (try clear hh_id); (try clear hh_i5); omega), loop_next (i + 1) ⟨by ((try clear hh_i2); (try clear hh_i3); (try clear hh_id); (try clear hh_i5); omega), by rw [el2]; ((try clear hh_i2); (try clear hh_i3); (try clear hh_id); (try clear hh_i5); omega)⟩ (by ((try clear hh_i2); (try clear hh_i3); (try clear hh_id); (try clear hh_i5); omega)) ?_ ?_⟩
              · have : j = 0 := by ((try clear hh_i2); (try clear hh_i3); (try clear hh_id); (try clear hh_i5); omega)
                subst this
                simp only [vsAll, cellA, okCells, eq_self]
              · simp only [vsAll, Nat.reduceEqDiff, ↓reduceIte, eq_self, al2, el2, Int.natCast_add, Int.natCast_one]
              · simp only [Hp.set_set, al2]
                refine HSub_set (row_ext fun j hj => ?_)
                rw [ea2]
                rw [updF_at (by ((try clear hh_i2); (try clear hh_i3); (try clear hh_id); (try clear hh_i5); omega)) hj]
                have en2 : ((((wA h i).length + 1 : Nat) : Int) - 1).toNat = (wA h i).length := by ((try clear hh_i2); (try clear hh_i3); (try clear hh_id); (try clear hh_i5); omega)
                rw [en2]
                simp only [spanF, getD_snoc]
                split
                · rename_i e; subst e; simp []
                · rfl
            · obtain ⟨p, hp, ea2⟩ := addS_old hlt (by ((try clear hh_i2); (try clear hh_i3); (try clear hh_id); (try clear hh_i5); omega)) hL
              rw [← ea] at ea2
              have hpos : 0 < (wA h i).length := by cases hq : wA h i with
                | nil => rw [hq] at hp; cases hp
                | cons => simp
              have el2 : wL (wA h (i + 1)) = i := by rw [ea2, wL_snoc]
              have al2 : (wA h (i + 1)).length = (wA h i).length := by rw [ea2]; simp; ((try clear hh_i2); (try clear hh_i3); (try clear hh_id); (try clear hh_i5); omega)
              simp only [vsAll, binA, binLitA, intA, fieldAddrA, indexAddrA, lenA, cellA, cellsA, opA, newCells, okCells, storeObj, dstOk, nilSliceOp, Nat.reduceAdd, Nat.reduceLT, Nat.reduceEqDiff, Nat.reduceBEq, ↓reduceIte, eq_self, wtAll]
              simp only [InR_i64]
              refine ⟨by ((try clear hh_i2); (try clear hh_i3); (try clear hh_id); (try clear hh_i5); omega), by ((try clear hh_i2); (try clear hh_i3); (try clear hh_id); (try clear hh_i5); omega), by ((try clear hh_i2); (try clear hh_i3); (try clear hh_id); (try clear hh_i5); omega), by ((try clear hh_i2); (try clear hh_i3); (try clear hh_id); (try clear hh_i5); omega), loop_next (i + 1) ⟨by ((try clear hh_i2); (try clear hh_i3); (try clear hh_id); (try clear hh_i5); omega), by rw [el2]; ((try clear hh_i2); (try clear hh_i3); (try clear hh_id); (try clear hh_i5); omega)⟩ (by ((try clear hh_i2); (try clear hh_i3); (try clear hh_id); (try clear hh_i5); omega)) ?_ ?_⟩
              · simp only [vsAll, Nat.reduceEqDiff, ↓reduceIte, eq_self, al2, el2, Int.natCast_add, Int.natCast_one]
              · simp only [Hp.set_set, al2]
                refine HSub_set (row_ext fun j hj => ?_)
                rw [updF_at (by ((try clear hh_i2); (try clear hh_i3); (try clear hh_id); (try clear hh_i5); omega)) hj]
                have en2 : (((wA h i).length : Int) - 1).toNat = (wA h i).length - 1 := by ((try clear hh_i2); (try clear hh_i3); (try clear hh_id); (try clear hh_i5); omega)
                rw [en2]
                rw [ea2]; exact upd_last hp hj
        · have ei : i = 101 := by ((try clear hh_i2); (try clear hh_i3); (try clear hh_id); (try clear hh_i5); omega)
          subst ei
          simp only [vsAll, cellA, cellsA, opA, newCells, okCells, storeObj, dstOk, nilSliceOp, Nat.reduceLT, Nat.reduceEqDiff, Nat.reduceBEq, ↓reduceIte, eq_self, wtAll, hh_i3, hh_id, hh_i5]
          refine Ent.ret ⟨i3, fun _ => [i64 0], rfl, by simp only [vsAll, ↓reduceIte, eq_self], ?_⟩
          simp only [vsAll, loadA, loadRow, partA, partOk, resA, retA.eq_2, Nat.reduceLT, Nat.reduceEqDiff, ↓reduceIte, eq_self, wtAll, Try.results19]
          refine ⟨_, ?_, i2, hh_i2, by simp only [eq_self, ev, e], rfl⟩
          rw [ev]
          (repeat (first | exact HSub_rfl | refine HSub_put_eq (by simp only [vsAll, ↓reduceIte, eq_self, hh_i3]) ?_ | refine HSub_drop2 (by simp only [eq_self, hh_i2, hh_i3, hh_id, hh_i5]) ?_ | refine HSub_keep_eq (by simp only [vsAll, binA, binLitA, intA, aggA, boolA, nilA2, isConst, unA, loadA, loadRow, partA, partOk, fieldAddrA, indexAddrA, indexA, fieldA, extractA, lenA, nilCheckA, boxA, cellA, cellsA, fillA, okParts, buildSliceA, buildMutA, makeSliceA, partIdx, elemsA, lensA, ifaceA, convA, mmA, pickA, okAll, stAll, opsA, partsA, partsOk, opA, allocA, boxMutA, newCells, okCells, storeObj, appendA, guardV, taA, nM, mapUpA, lookA, sliceA, boundsA, opO, okO, copyA, dstOk, nilA, quietOk, nilSliceOp, panA, resA, argFr, retA.eq_1, retA.eq_2, Nat.reduceAdd, Nat.reduceSub, Nat.reduceMul, Nat.reduceLT, Nat.reduceLeDiff, Nat.reduceEqDiff, Nat.reduceBEq, Int.reduceAdd, Int.reduceSub, Int.reduceMul, Int.reduceNeg, Int.reduceLE, Int.reduceLT, Int.reduceEq, Int.reduceNe, Int.reduceToNat, ↓reduceIte, reduceCtorEq, implies_true, forall_const, eq_self, ne_eq, wtAll, Try.ntmps19, Try.results19, hh_i2, hh_i3, hh_id, hh_i5]) ?_))
    · have e : waterE h = 10 := errE_clash hk hs
      have ev : waterV h = [] := by simp [waterV, e]
      rw [if_neg hs]
      simp only [vsAll, Int.reduceNeg]
      refine ⟨10, i3, fun _ => [i64 0], rfl, rfl, by simp only [vsAll, ↓reduceIte, eq_self, hh_id], ?_⟩
      simp only [vsAll, loadA, loadRow, partA, partOk, resA, retA.eq_2, Nat.reduceLT, Nat.reduceEqDiff, Int.reduceNeg, ↓reduceIte, eq_self, wtAll, Try.results19]
      refine ⟨_, ?_, i2, hh_i2, by simp only [vsAll, eq_self, ev, e], rfl⟩
      rw [ev]
      refine HSub_put (o' := .row 2 0 fun _ => []) (by simp only [vsAll, ↓reduceIte, eq_self, hh_i3, hh_id]) (row0_le _ _ _) ?_
      (repeat (first | exact HSub_rfl | refine HSub_put_eq (by simp only [vsAll, binA, binLitA, intA, aggA, boolA, nilA2, isConst, unA, loadA, loadRow, partA, partOk, fieldAddrA, indexAddrA, indexA, fieldA, extractA, lenA, nilCheckA, boxA, cellA, cellsA, fillA, okParts, buildSliceA, buildMutA, makeSliceA, partIdx, elemsA, lensA, ifaceA, convA, mmA, pickA, okAll, stAll, opsA, partsA, partsOk, opA, allocA, boxMutA, newCells, okCells, storeObj, appendA, guardV, taA, nM, mapUpA, lookA, sliceA, boundsA, opO, okO, copyA, dstOk, nilA, quietOk, nilSliceOp, panA, resA, argFr, retA.eq_1, retA.eq_2, Nat.reduceAdd, Nat.reduceSub, Nat.reduceMul, Nat.reduceLT, Nat.reduceLeDiff, Nat.reduceEqDiff, Nat.reduceBEq, Int.reduceAdd, Int.reduceSub, Int.reduceMul, Int.reduceNeg, Int.reduceLE, Int.reduceLT, Int.reduceEq, Int.reduceNe, Int.reduceToNat, ↓reduceIte, reduceCtorEq, implies_true, forall_const, eq_self, ne_eq, wtAll, Try.ntmps19, Try.results19, hh_i2, hh_i3, hh_id]) ?_ | refine HSub_drop2 (by simp only [eq_self, hh_i2, hh_i3, hh_id]) ?_ | refine HSub_keep_eq (by simp only [vsAll, binA, binLitA, intA, aggA, boolA, nilA2, isConst, unA, loadA, loadRow, partA, partOk, fieldAddrA, indexAddrA, indexA, fieldA, extractA, lenA, nilCheckA, boxA, cellA, cellsA, fillA, okParts, buildSliceA, buildMutA, makeSliceA, partIdx, elemsA, lensA, ifaceA, convA, mmA, pickA, okAll, stAll, opsA, partsA, partsOk, opA, allocA, boxMutA, newCells, okCells, storeObj, appendA, guardV, taA, nM, mapUpA, lookA, sliceA, boundsA, opO, okO, copyA, dstOk, nilA, quietOk, nilSliceOp, panA, resA, argFr, retA.eq_1, retA.eq_2, Nat.reduceAdd, Nat.reduceSub, Nat.reduceMul, Nat.reduceLT, Nat.reduceLeDiff, Nat.reduceEqDiff, Nat.reduceBEq, Int.reduceAdd, Int.reduceSub, Int.reduceMul, Int.reduceNeg, Int.reduceLE, Int.reduceLT, Int.reduceEq, Int.reduceNe, Int.reduceToNat, ↓reduceIte, reduceCtorEq, implies_true, forall_const, eq_self, ne_eq, wtAll, Try.ntmps19, Try.results19, hh_i2, hh_i3, hh_id]) ?_))
theorem wwater_tri (h : Hd) (H : Hp) (k : Near h) : PTri Try.prog (fnA 19) [h.av] H (.tuple [spansAV (waterV h), i64 (waterE h)]) := by
  refine Tri.thaw (wwater_triM h H k) ?_
  rintro r H' ⟨id, hid, rfl, rfl⟩
  right
  exact ⟨_, id, 2, _, _, 0, rfl, Hp.set_same _ _ _, by simp, rfl, rfl, set_del hid⟩

end Go.Proofs.Ytdeollnepclhaaa
end
section
set_option linter.unusedVariables false
set_option linter.unusedSimpArgs false
namespace Go.Proofs.Ytdeollnepclhaaa
open Go.V
/-- A call of told, by its outcomes. -/
theorem told_call {h : Hd} {id : Nat} {H : Hp} {K Kp : AV → Hp → Prop} (hk : HOk h) (ho : H id = some (.memo (memoF h))) (h1 : someB (toldB h) = true → K (amAV (toldB h)) H)
    (h2 : ¬ someB (toldB h) = true → Kp (.iface 124 (i64 10)) H) : CallK Try.prog (fnA 67) [hdP h id] H K Kp := by
  refine ⟨_, told_tri h id H hk ho, ?_⟩
  rintro r H' ⟨rfl, rfl⟩
  by_cases hs : someB (toldB h) = true
  · rw [if_pos hs]; exact h1 hs
  · rw [if_neg hs]; exact h2 hs

theorem over1_tri (w : Int) (x : AV) (H : Hp) : PTri Try.prog (.func (.func 69) [] [bx w]) [x] H (boo (amtB w)) := by
  refine tri_v0 (fun _ => false) Try.func69 (by kernel_rfl) rfl (by simp only [List.length_append, List.length_cons, List.length_nil, Try.ntmps69]; decide) ?_
  simp only [vsAll, loadA, loadRow, partA, partOk, okAll, stAll, opsA, opA, dstOk, nilSliceOp, argFr, Nat.reduceLT, Nat.reduceEqDiff, ↓reduceIte, eq_self, wtAll, Try.ntmps69]
  refine callK_pure (isAmount_tri w H) ?_
  simp only [vsAll, opA, dstOk, nilSliceOp, resA, retA.eq_1, Nat.reduceLT, ↓reduceIte, eq_self, Try.results69]

/-- The amounts that are no more than w, and the others. -/
def loB (a : Nat → Bool) (w : Nat) : Nat → Bool := fun i => if i < w + 1 then a i else false
def hiB (a : Nat → Bool) (w : Nat) : Nat → Bool := fun i => if w + 1 ≤ i ∧ i < 101 then a i else false
theorem lo_eq (a : Nat → Bool) (w : Nat) (hw : w ≤ 100) : cpF 0 (min (w + 1) 101) (fun _ => [boo false]) 0 (amF a) = amF (loB a w) := by
  funext i
  simp only [cpF, amF, loB]
  by_cases e : i < w + 1
  · rw [if_pos (by omega), if_pos e]; simp
  · rw [if_neg (by omega), if_neg e]
theorem hi_eq (a : Nat → Bool) (w : Nat) (hw : w ≤ 100) : cpF (w + 1) (min (101 - (w + 1)) (101 - (w + 1))) (fun _ => [boo false]) (w + 1) (amF a) = amF (hiB a w) := by
  funext i
  simp only [cpF, amF, hiB, Nat.min_self]
  by_cases e : w + 1 ≤ i ∧ i < 101
  · rw [if_pos (by omega), if_pos e]
    have : w + 1 + (i - (w + 1)) = i := by omega
    rw [this]
  · rw [if_neg (by omega), if_neg e]
theorem some_lo {h : Hd} {w : Nat} (hw : w ≤ 100) (hs : 0 < (allA h).length) : someB (loB (toldB h) w) = decide (((allA h).getD 0 0) ≤ w) := by
  have hsort : (allA h).Pairwise (· < ·) := by rw [← told_filter]; exact List.Pairwise.filter _ List.pairwise_lt_range
  have hmem : ∀ x, x ∈ allA h ↔ x < 101 ∧ toldB h x = true := fun x => by rw [← told_filter]; simp
  have h0 : (allA h).getD 0 0 ∈ allA h := by rw [List.getD_eq_getElem?_getD, List.getElem?_eq_getElem hs]; exact List.getElem_mem hs
  rw [Bool.eq_iff_iff]
  simp only [someB, List.any_eq_true, List.mem_range, decide_eq_true_eq, loB]
  constructor
  · rintro ⟨x, hx, hc⟩
    by_cases e : x < w + 1
    · rw [if_pos e] at hc
      obtain ⟨j, hj, rfl⟩ := List.getElem_of_mem ((hmem x).2 ⟨hx, hc⟩)
      rw [List.getD_eq_getElem?_getD, List.getElem?_eq_getElem hs]
      rcases Nat.eq_zero_or_pos j with rfl | hp
      · simp; omega
      · have := List.pairwise_iff_getElem.1 hsort 0 j hs hj hp
        simp; omega
    · rw [if_neg e] at hc; cases hc
  · intro hle
    have := (hmem _).1 h0
    exact ⟨_, this.1, by rw [if_pos (by omega)]; exact this.2⟩
theorem some_hi {h : Hd} {w : Nat} (hw : w ≤ 100) (hs : 0 < (allA h).length) : someB (hiB (toldB h) w) = decide (w < (allA h).getD ((allA h).length - 1) 0) := by
  have hsort : (allA h).Pairwise (· < ·) := by rw [← told_filter]; exact List.Pairwise.filter _ List.pairwise_lt_range
  have hmem : ∀ x, x ∈ allA h ↔ x < 101 ∧ toldB h x = true := fun x => by rw [← told_filter]; simp
  have hl : (allA h).length - 1 < (allA h).length := by omega
  have h0 : (allA h).getD ((allA h).length - 1) 0 ∈ allA h := by rw [List.getD_eq_getElem?_getD, List.getElem?_eq_getElem hl]; exact List.getElem_mem hl
  rw [Bool.eq_iff_iff]
  simp only [someB, List.any_eq_true, List.mem_range, decide_eq_true_eq, hiB]
  constructor
  · rintro ⟨x, hx, hc⟩
    by_cases e : w + 1 ≤ x ∧ x < 101
    · rw [if_pos e] at hc
      obtain ⟨j, hj, rfl⟩ := List.getElem_of_mem ((hmem x).2 ⟨hx, hc⟩)
      rw [List.getD_eq_getElem?_getD, List.getElem?_eq_getElem hl]
      rcases Nat.lt_or_ge j ((allA h).length - 1) with hp | hp
      · have := List.pairwise_iff_getElem.1 hsort j _ hj hl hp
        simp; omega
      · have : j = (allA h).length - 1 := by omega
        subst this
        simp; omega
    · rw [if_neg e] at hc; cases hc
  · intro hle
    have := (hmem _).1 h0
    exact ⟨_, this.1, by rw [if_pos (by omega)]; exact this.2⟩

theorem wover_tri (h : Hd) (w : Int) (H : Hp) (k : Near h) : PTri Try.prog (fnA 21) [h.av, i64 w] H (.tuple [i64 (overV h w), i64 (overE h w)]) := by
  refine Tri.drop ?_
  refine tri_a (m := fun _ => false) ans51 Try.func21 (by kernel_rfl) rfl (by simp only [List.length_append, List.length_cons, List.length_nil, Try.ntmps21]; decide) ?_
  simp only [vsAll, loadA, loadRow, partA, partOk, boxA, cellA, okAll, stAll, opsA, opA, allocA, dstOk, nilSliceOp, argFr, Nat.reduceAdd, Nat.reduceLT, Nat.reduceEqDiff, ↓reduceIte, eq_self, wtAll, Try.ntmps21]
  intro i5 hh_i5; (try simp only [Hp.set_none, ite_none] at hh_i5)
  refine open_call (open_tri h _ (amtB w) _ k trivial rfl (fun hk H' id ho => over1_tri w _ H')) (fun hno => ?_) (fun hk hv => ?_) (fun hk hv => ?_)
  · have e : overE h w = 1 := errE_no hno _ _
    simp only [vsAll]
    refine ⟨1, i5, _, rfl, rfl, Hp.set_same _ _ _, ?_⟩
    simp only [vsAll, loadA, loadRow, partA, partOk, resA, retA.eq_2, Nat.reduceLT, Nat.reduceEqDiff, ↓reduceIte, eq_self, wtAll, Try.results21]
    refine dropR_pure ?_ ?_
    · simp only [Int.reduceEq, ↓reduceIte, eq_self, overV, e]
    · (repeat (first | exact HSub_rfl | refine HSub_put_eq (by simp only [vsAll, binA, binLitA, intA, aggA, boolA, nilA2, isConst, unA, loadA, loadRow, partA, partOk, fieldAddrA, indexAddrA, indexA, fieldA, extractA, lenA, nilCheckA, boxA, cellA, cellsA, fillA, okParts, buildSliceA, partIdx, elemsA, lensA, ifaceA, convA, mmA, pickA, okAll, stAll, opsA, partsA, partsOk, opA, allocA, boxMutA, newCells, okCells, storeObj, appendA, guardV, taA, nM, mapUpA, lookA, sliceA, boundsA, opO, okO, copyA, dstOk, nilA, quietOk, nilSliceOp, panA, resA, argFr, retA.eq_1, retA.eq_2, Nat.reduceAdd, Nat.reduceSub, Nat.reduceMul, Nat.reduceLT, Nat.reduceLeDiff, Nat.reduceEqDiff, Nat.reduceBEq, Int.reduceAdd, Int.reduceSub, Int.reduceMul, Int.reduceNeg, Int.reduceLE, Int.reduceLT, Int.reduceEq, Int.reduceNe, Int.reduceToNat, ↓reduceIte, reduceCtorEq, implies_true, forall_const, eq_self, ne_eq, wtAll, Try.ntmps21, Try.results21, hh_i5]) ?_ | refine HSub_drop2 (by simp only [eq_self, hh_i5]) ?_ | refine HSub_keep_eq (by simp only [vsAll, binA, binLitA, intA, aggA, boolA, nilA2, isConst, unA, loadA, loadRow, partA, partOk, fieldAddrA, indexAddrA, indexA, fieldA, extractA, lenA, nilCheckA, boxA, cellA, cellsA, fillA, okParts, buildSliceA, partIdx, elemsA, lensA, ifaceA, convA, mmA, pickA, okAll, stAll, opsA, partsA, partsOk, opA, allocA, boxMutA, newCells, okCells, storeObj, appendA, guardV, taA, nM, mapUpA, lookA, sliceA, boundsA, opO, okO, copyA, dstOk, nilA, quietOk, nilSliceOp, panA, resA, argFr, retA.eq_1, retA.eq_2, Nat.reduceAdd, Nat.reduceSub, Nat.reduceMul, Nat.reduceLT, Nat.reduceLeDiff, Nat.reduceEqDiff, Nat.reduceBEq, Int.reduceAdd, Int.reduceSub, Int.reduceMul, Int.reduceNeg, Int.reduceLE, Int.reduceLT, Int.reduceEq, Int.reduceNe, Int.reduceToNat, ↓reduceIte, reduceCtorEq, implies_true, forall_const, eq_self, ne_eq, wtAll, Try.ntmps21, Try.results21, hh_i5]) ?_))
  · have e : overE h w = 2 := by unfold overE; rw [hv]; exact errE_bad hk _
    simp only [vsAll]
    refine ⟨2, i5, _, rfl, rfl, Hp.set_same _ _ _, ?_⟩
    simp only [vsAll, loadA, loadRow, partA, partOk, resA, retA.eq_2, Nat.reduceLT, Nat.reduceEqDiff, ↓reduceIte, eq_self, wtAll, Try.results21]
    refine dropR_pure ?_ ?_
    · simp only [Int.reduceEq, ↓reduceIte, eq_self, overV, e]
    · (repeat (first | exact HSub_rfl | refine HSub_put_eq (by simp only [vsAll, binA, binLitA, intA, aggA, boolA, nilA2, isConst, unA, loadA, loadRow, partA, partOk, fieldAddrA, indexAddrA, indexA, fieldA, extractA, lenA, nilCheckA, boxA, cellA, cellsA, fillA, okParts, buildSliceA, partIdx, elemsA, lensA, ifaceA, convA, mmA, pickA, okAll, stAll, opsA, partsA, partsOk, opA, allocA, boxMutA, newCells, okCells, storeObj, appendA, guardV, taA, nM, mapUpA, lookA, sliceA, boundsA, opO, okO, copyA, dstOk, nilA, quietOk, nilSliceOp, panA, resA, argFr, retA.eq_1, retA.eq_2, Nat.reduceAdd, Nat.reduceSub, Nat.reduceMul, Nat.reduceLT, Nat.reduceLeDiff, Nat.reduceEqDiff, Nat.reduceBEq, Int.reduceAdd, Int.reduceSub, Int.reduceMul, Int.reduceNeg, Int.reduceLE, Int.reduceLT, Int.reduceEq, Int.reduceNe, Int.reduceToNat, ↓reduceIte, reduceCtorEq, implies_true, forall_const, eq_self, ne_eq, wtAll, Try.ntmps21, Try.results21, hh_i5]) ?_ | refine HSub_drop2 (by simp only [eq_self, hh_i5]) ?_ | refine HSub_keep_eq (by simp only [vsAll, binA, binLitA, intA, aggA, boolA, nilA2, isConst, unA, loadA, loadRow, partA, partOk, fieldAddrA, indexAddrA, indexA, fieldA, extractA, lenA, nilCheckA, boxA, cellA, cellsA, fillA, okParts, buildSliceA, partIdx, elemsA, lensA, ifaceA, convA, mmA, pickA, okAll, stAll, opsA, partsA, partsOk, opA, allocA, boxMutA, newCells, okCells, storeObj, appendA, guardV, taA, nM, mapUpA, lookA, sliceA, boundsA, opO, okO, copyA, dstOk, nilA, quietOk, nilSliceOp, panA, resA, argFr, retA.eq_1, retA.eq_2, Nat.reduceAdd, Nat.reduceSub, Nat.reduceMul, Nat.reduceLT, Nat.reduceLeDiff, Nat.reduceEqDiff, Nat.reduceBEq, Int.reduceAdd, Int.reduceSub, Int.reduceMul, Int.reduceNeg, Int.reduceLE, Int.reduceLT, Int.reduceEq, Int.reduceNe, Int.reduceToNat, ↓reduceIte, reduceCtorEq, implies_true, forall_const, eq_self, ne_eq, wtAll, Try.ntmps21, Try.results21, hh_i5]) ?_))
  · intro id hh_id; (try simp only [Hp.set_none] at hh_id)
    simp only [vsAll, okAll, stAll, opsA, opA, dstOk, Nat.reduceLT, ↓reduceIte, eq_self]
    refine told_call hk (by simp only [vsAll, ↓reduceIte, eq_self]) (fun hs => ?_) (fun hs => ?_)
    · have e : overE h w = 0 := by unfold overE; rw [hv]; exact errE_told hk hs
      rw [amtB_iff] at hv
      obtain ⟨w, rfl⟩ : ∃ n : Nat, w = n := ⟨w.toNat, by ((try clear hh_i5); (try clear hh_id); omega)⟩
      have hl := (told_some h).1 hs
      simp only [vsAll, opA, allocA, storeObj, dstOk, Nat.reduceMul, Nat.reduceLT, Nat.reduceEqDiff, ↓reduceIte, eq_self, wtAll]
      intro i6 hh_i6; (try simp only [ite_none] at hh_i6)
      refine ⟨fun j hj => by simp [amF, okCells, cellA], ?_⟩
      intro i7 hh_i7; (try simp only [ite_none] at hh_i7); intro i8 hh_i8; (try simp only [ite_none] at hh_i8)
      refine vs_draw 4 (by decide +kernel) ?_
      simp only [vsAll, binA, binLitA, intA, loadA, loadRow, partA, partOk, opA, sliceA, boundsA, opO, okO, copyA, dstOk, Nat.reduceSub, Nat.reduceLT, Nat.reduceEqDiff, ↓reduceIte, eq_self, ne_eq, wtAll, hh_i7, hh_i8]
      have e1 : ((w : Int) + 1).toNat - 0 = w + 1 := by ((try clear hh_i5); (try clear hh_id); (try clear hh_i6); (try clear hh_i7); (try clear hh_i8); omega)
      have e2 : ((w : Int) + 1).toNat = w + 1 := by ((try clear hh_i5); (try clear hh_id); (try clear hh_i6); (try clear hh_i7); (try clear hh_i8); omega)
      have q1 := lo_eq (toldB h) w (by ((try clear hh_i5); (try clear hh_id); (try clear hh_i6); (try clear hh_i7); (try clear hh_i8); omega))
      have q2 := hi_eq (toldB h) w (by ((try clear hh_i5); (try clear hh_id); (try clear hh_i6); (try clear hh_i7); (try clear hh_i8); omega))
      have l1 := some_lo (h := h) (w := w) (by ((try clear hh_i5); (try clear hh_id); (try clear hh_i6); (try clear hh_i7); (try clear hh_i8); omega)) hl
      have l2 := some_hi (h := h) (w := w) (by ((try clear hh_i5); (try clear hh_id); (try clear hh_i6); (try clear hh_i7); (try clear hh_i8); omega)) hl
      rw [e1]
      refine ⟨by simp only [InR_i64]; ((try clear hh_i5); (try clear hh_id); (try clear hh_i6); (try clear hh_i7); (try clear hh_i8); omega), by ((try clear hh_i5); (try clear hh_id); (try clear hh_i6); (try clear hh_i7); (try clear hh_i8); omega), by ((try clear hh_i5); (try clear hh_id); (try clear hh_i6); (try clear hh_i7); (try clear hh_i8); omega), fun j hj => by simp [amF, okCells, cellA], ?_⟩
      refine vs_draw 6 (by decide +kernel) ?_
      simp only [vsAll, binA, binLitA, intA, loadA, loadRow, partA, partOk, okAll, stAll, opsA, opA, sliceA, boundsA, opO, okO, copyA, dstOk, Nat.reduceLT, Nat.reduceEqDiff, ↓reduceIte, eq_self, ne_eq, wtAll, hh_i7, hh_i8, e2]
      refine ⟨by simp only [InR_i64]; ((try clear hh_i5); (try clear hh_id); (try clear hh_i6); (try clear hh_i7); (try clear hh_i8); omega), by ((try clear hh_i5); (try clear hh_id); (try clear hh_i6); (try clear hh_i7); (try clear hh_i8); omega), by simp only [InR_i64]; ((try clear hh_i5); (try clear hh_id); (try clear hh_i6); (try clear hh_i7); (try clear hh_i8); omega), by ((try clear hh_i5); (try clear hh_id); (try clear hh_i6); (try clear hh_i7); (try clear hh_i8); omega), by ((try clear hh_i5); (try clear hh_id); (try clear hh_i6); (try clear hh_i7); (try clear hh_i8); omega), by ((try clear hh_i5); (try clear hh_id); (try clear hh_i6); (try clear hh_i7); (try clear hh_i8); omega), fun j hj => by simp [amF, okCells, cellA], ?_⟩
      refine callK_pure (v := boo (someB (loB (toldB h) w))) ?_ ?_
      · rw [show (AV.arr 101 1 (cpF 0 (min (w + 1) 101) (fun x => [AV.lit (Value.bool false)]) 0 (amF (toldB h)))) = amAV (loB (toldB h) w) from congrArg (AV.arr 101 1) q1]
        exact some_tri _ _
      simp only [vsAll, unA, opA, dstOk, nilSliceOp, Nat.reduceLT, ↓reduceIte, eq_self]
      refine condV (fun h1 => ?_) (fun h1 => ?_)
      · rw [l1] at h1
        simp only [Bool.not_eq_true', decide_eq_false_iff_not] at h1
        simp only [vsAll, cellA, cellsA, opA, newCells, okCells, storeObj, dstOk, nilSliceOp, Nat.reduceLT, Nat.reduceEqDiff, ↓reduceIte, eq_self, wtAll, hh_id, hh_i6, hh_i7, hh_i8]
        refine Ent.ret ⟨i5, fun _ => [i64 0], rfl, by simp only [vsAll, ↓reduceIte, eq_self], ?_⟩
        simp only [vsAll, loadA, loadRow, partA, partOk, resA, retA.eq_2, Nat.reduceLT, Nat.reduceEqDiff, ↓reduceIte, eq_self, wtAll, Try.results21]
        refine dropR_pure ?_ ?_
        · have : (w : Int) < ((allA h).getD 0 0 : Nat) := by ((try clear hh_i5); (try clear hh_id); (try clear hh_i6); (try clear hh_i7); (try clear hh_i8); omega)
          simp only [↓reduceIte, eq_self, overV, e, if_pos this]
        · (repeat (first | exact HSub_rfl | refine HSub_put_eq (by simp only [vsAll, binA, binLitA, intA, aggA, boolA, nilA2, isConst, unA, loadA, loadRow, partA, partOk, fieldAddrA, indexAddrA, indexA, fieldA, extractA, lenA, nilCheckA, boxA, cellA, cellsA, fillA, okParts, buildSliceA, partIdx, elemsA, lensA, ifaceA, convA, mmA, pickA, okAll, stAll, opsA, partsA, partsOk, opA, allocA, boxMutA, newCells, okCells, storeObj, appendA, guardV, taA, nM, mapUpA, lookA, sliceA, boundsA, opO, okO, copyA, dstOk, nilA, quietOk, nilSliceOp, panA, resA, argFr, retA.eq_1, retA.eq_2, Nat.reduceAdd, Nat.reduceSub, Nat.reduceMul, Nat.reduceLT, Nat.reduceLeDiff, Nat.reduceEqDiff, Nat.reduceBEq, Int.reduceAdd, Int.reduceSub, Int.reduceMul, Int.reduceNeg, Int.reduceLE, Int.reduceLT, Int.reduceEq, Int.reduceNe, Int.reduceToNat, ↓reduceIte, reduceCtorEq, implies_true, forall_const, eq_self, ne_eq, wtAll, Try.ntmps21, Try.results21, hh_i5, hh_id, hh_i6, hh_i7, hh_i8]) ?_ | refine HSub_drop2 (by simp only [eq_self, hh_i5, hh_id, hh_i6, hh_i7, hh_i8]) ?_ | refine HSub_keep_eq (by simp only [vsAll, binA, binLitA, intA, aggA, boolA, nilA2, isConst, unA, loadA, loadRow, partA, partOk, fieldAddrA, indexAddrA, indexA, fieldA, extractA, lenA, nilCheckA, boxA, cellA, cellsA, fillA, okParts, buildSliceA, partIdx, elemsA, lensA, ifaceA, convA, mmA, pickA, okAll, stAll, opsA, partsA, partsOk, opA, allocA, boxMutA, newCells, okCells, storeObj, appendA, guardV, taA, nM, mapUpA, lookA, sliceA, boundsA, opO, okO, copyA, dstOk, nilA, quietOk, nilSliceOp, panA, resA, argFr, retA.eq_1, retA.eq_2, Nat.reduceAdd, Nat.reduceSub, Nat.reduceMul, Nat.reduceLT, Nat.reduceLeDiff, Nat.reduceEqDiff, Nat.reduceBEq, Int.reduceAdd, Int.reduceSub, Int.reduceMul, Int.reduceNeg, Int.reduceLE, Int.reduceLT, Int.reduceEq, Int.reduceNe, Int.reduceToNat, ↓reduceIte, reduceCtorEq, implies_true, forall_const, eq_self, ne_eq, wtAll, Try.ntmps21, Try.results21, hh_i5, hh_id, hh_i6, hh_i7, hh_i8]) ?_))
      · rw [l1] at h1
        simp only [Bool.not_eq_false', decide_eq_true_eq] at h1
        simp only [vsAll, loadA, loadRow, okAll, stAll, opsA, opA, dstOk, Nat.reduceLT, Nat.reduceEqDiff, ↓reduceIte, eq_self, wtAll]
        refine callK_pure (v := boo (someB (hiB (toldB h) w))) ?_ ?_
        · rw [show (AV.arr 101 1 (cpF (w + 1) (min (101 - (w + 1)) (101 - (w + 1))) (fun x => [AV.lit (Value.bool false)]) (w + 1) (amF (toldB h)))) = amAV (hiB (toldB h) w) from congrArg (AV.arr 101 1) q2]
          exact some_tri _ _
        simp only [vsAll, unA, opA, dstOk, nilSliceOp, Nat.reduceLT, ↓reduceIte, eq_self]
        have g1 : ¬ (w : Int) < ((allA h).getD 0 0 : Nat) := by ((try clear hh_i5); (try clear hh_id); (try clear hh_i6); (try clear hh_i7); (try clear hh_i8); omega)
        refine condV (fun h2 => ?_) (fun h2 => ?_)
        · rw [l2] at h2
          simp only [Bool.not_eq_true', decide_eq_false_iff_not] at h2
          simp only [vsAll, cellA, cellsA, opA, newCells, okCells, storeObj, dstOk, nilSliceOp, Nat.reduceLT, Nat.reduceEqDiff, ↓reduceIte, eq_self, wtAll, hh_id, hh_i6, hh_i7, hh_i8]
          refine Ent.ret ⟨i5, fun _ => [i64 0], rfl, by simp only [vsAll, ↓reduceIte, eq_self], ?_⟩
          simp only [vsAll, loadA, loadRow, partA, partOk, resA, retA.eq_2, Nat.reduceLT, Nat.reduceEqDiff, ↓reduceIte, eq_self, wtAll, Try.results21]
          refine dropR_pure ?_ ?_
          · have : (((allA h).getD ((allA h).length - 1) 0 : Nat) : Int) ≤ (w : Int) := by ((try clear hh_i5); (try clear hh_id); (try clear hh_i6); (try clear hh_i7); (try clear hh_i8); omega)
            simp only [↓reduceIte, eq_self, overV, e, if_neg g1, if_pos this]
          · (repeat (first | exact HSub_rfl | refine HSub_put_eq (by simp only [vsAll, binA, binLitA, intA, aggA, boolA, nilA2, isConst, unA, loadA, loadRow, partA, partOk, fieldAddrA, indexAddrA, indexA, fieldA, extractA, lenA, nilCheckA, boxA, cellA, cellsA, fillA, okParts, buildSliceA, partIdx, elemsA, lensA, ifaceA, convA, mmA, pickA, okAll, stAll, opsA, partsA, partsOk, opA, allocA, boxMutA, newCells, okCells, storeObj, appendA, guardV, taA, nM, mapUpA, lookA, sliceA, boundsA, opO, okO, copyA, dstOk, nilA, quietOk, nilSliceOp, panA, resA, argFr, retA.eq_1, retA.eq_2, Nat.reduceAdd, Nat.reduceSub, Nat.reduceMul, Nat.reduceLT, Nat.reduceLeDiff, Nat.reduceEqDiff, Nat.reduceBEq, Int.reduceAdd, Int.reduceSub, Int.reduceMul, Int.reduceNeg, Int.reduceLE, Int.reduceLT, Int.reduceEq, Int.reduceNe, Int.reduceToNat, ↓reduceIte, reduceCtorEq, implies_true, forall_const, eq_self, ne_eq, wtAll, Try.ntmps21, Try.results21, hh_i5, hh_id, hh_i6, hh_i7, hh_i8]) ?_ | refine HSub_drop2 (by simp only [eq_self, hh_i5, hh_id, hh_i6, hh_i7, hh_i8]) ?_ | refine HSub_keep_eq (by simp only [vsAll, binA, binLitA, intA, aggA, boolA, nilA2, isConst, unA, loadA, loadRow, partA, partOk, fieldAddrA, indexAddrA, indexA, fieldA, extractA, lenA, nilCheckA, boxA, cellA, cellsA, fillA, okParts, buildSliceA, partIdx, elemsA, lensA, ifaceA, convA, mmA, pickA, okAll, stAll, opsA, partsA, partsOk, opA, allocA, boxMutA, newCells, okCells, storeObj, appendA, guardV, taA, nM, mapUpA, lookA, sliceA, boundsA, opO, okO, copyA, dstOk, nilA, quietOk, nilSliceOp, panA, resA, argFr, retA.eq_1, retA.eq_2, Nat.reduceAdd, Nat.reduceSub, Nat.reduceMul, Nat.reduceLT, Nat.reduceLeDiff, Nat.reduceEqDiff, Nat.reduceBEq, Int.reduceAdd, Int.reduceSub, Int.reduceMul, Int.reduceNeg, Int.reduceLE, Int.reduceLT, Int.reduceEq, Int.reduceNe, Int.reduceToNat, ↓reduceIte, reduceCtorEq, implies_true, forall_const, eq_self, ne_eq, wtAll, Try.ntmps21, Try.results21, hh_i5, hh_id, hh_i6, hh_i7, hh_i8]) ?_))
        · rw [l2] at h2
          simp only [Bool.not_eq_false', decide_eq_true_eq] at h2
          simp only [vsAll, cellA, cellsA, opA, newCells, okCells, storeObj, dstOk, nilSliceOp, Nat.reduceLT, Nat.reduceEqDiff, ↓reduceIte, eq_self, wtAll, hh_id, hh_i6, hh_i7, hh_i8]
          refine Ent.ret ⟨i5, fun _ => [i64 0], rfl, by simp only [vsAll, ↓reduceIte, eq_self], ?_⟩
          simp only [vsAll, loadA, loadRow, partA, partOk, resA, retA.eq_2, Nat.reduceLT, Nat.reduceEqDiff, ↓reduceIte, eq_self, wtAll, Try.results21]
          refine dropR_pure ?_ ?_
          · have : ¬ (((allA h).getD ((allA h).length - 1) 0 : Nat) : Int) ≤ (w : Int) := by ((try clear hh_i5); (try clear hh_id); (try clear hh_i6); (try clear hh_i7); (try clear hh_i8); omega)
            simp only [↓reduceIte, eq_self, overV, e, if_neg g1, if_neg this]
          · (repeat (first | exact HSub_rfl | refine HSub_put_eq (by simp only [vsAll, binA, binLitA, intA, aggA, boolA, nilA2, isConst, unA, loadA, loadRow, partA, partOk, fieldAddrA, indexAddrA, indexA, fieldA, extractA, lenA, nilCheckA, boxA, cellA, cellsA, fillA, okParts, buildSliceA, partIdx, elemsA, lensA, ifaceA, convA, mmA, pickA, okAll, stAll, opsA, partsA, partsOk, opA, allocA, boxMutA, newCells, okCells, storeObj, appendA, guardV, taA, nM, mapUpA, lookA, sliceA, boundsA, opO, okO, copyA, dstOk, nilA, quietOk, nilSliceOp, panA, resA, argFr, retA.eq_1, retA.eq_2, Nat.reduceAdd, Nat.reduceSub, Nat.reduceMul, Nat.reduceLT, Nat.reduceLeDiff, Nat.reduceEqDiff, Nat.reduceBEq, Int.reduceAdd, Int.reduceSub, Int.reduceMul, Int.reduceNeg, Int.reduceLE, Int.reduceLT, Int.reduceEq, Int.reduceNe, Int.reduceToNat, ↓reduceIte, reduceCtorEq, implies_true, forall_const, eq_self, ne_eq, wtAll, Try.ntmps21, Try.results21, hh_i5, hh_id, hh_i6, hh_i7, hh_i8]) ?_ | refine HSub_drop2 (by simp only [eq_self, hh_i5, hh_id, hh_i6, hh_i7, hh_i8]) ?_ | refine HSub_keep_eq (by simp only [vsAll, binA, binLitA, intA, aggA, boolA, nilA2, isConst, unA, loadA, loadRow, partA, partOk, fieldAddrA, indexAddrA, indexA, fieldA, extractA, lenA, nilCheckA, boxA, cellA, cellsA, fillA, okParts, buildSliceA, partIdx, elemsA, lensA, ifaceA, convA, mmA, pickA, okAll, stAll, opsA, partsA, partsOk, opA, allocA, boxMutA, newCells, okCells, storeObj, appendA, guardV, taA, nM, mapUpA, lookA, sliceA, boundsA, opO, okO, copyA, dstOk, nilA, quietOk, nilSliceOp, panA, resA, argFr, retA.eq_1, retA.eq_2, Nat.reduceAdd, Nat.reduceSub, Nat.reduceMul, Nat.reduceLT, Nat.reduceLeDiff, Nat.reduceEqDiff, Nat.reduceBEq, Int.reduceAdd, Int.reduceSub, Int.reduceMul, Int.reduceNeg, Int.reduceLE, Int.reduceLT, Int.reduceEq, Int.reduceNe, Int.reduceToNat, ↓reduceIte, reduceCtorEq, implies_true, forall_const, eq_self, ne_eq, wtAll, Try.ntmps21, Try.results21, hh_i5, hh_id, hh_i6, hh_i7, hh_i8]) ?_))
    · have e : overE h w = 10 := by unfold overE; rw [hv]; exact errE_clash hk hs
      simp only [vsAll]
      refine ⟨10, i5, fun _ => [i64 0], rfl, rfl, by simp only [vsAll, ↓reduceIte, eq_self, hh_id], ?_⟩
      simp only [vsAll, loadA, loadRow, partA, partOk, resA, retA.eq_2, Nat.reduceLT, Nat.reduceEqDiff, ↓reduceIte, eq_self, wtAll, Try.results21]
      refine dropR_pure ?_ ?_
      · simp only [Int.reduceEq, ↓reduceIte, eq_self, overV, e]
      · (repeat (first | exact HSub_rfl | refine HSub_put_eq (by simp only [vsAll, binA, binLitA, intA, aggA, boolA, nilA2, isConst, unA, loadA, loadRow, partA, partOk, fieldAddrA, indexAddrA, indexA, fieldA, extractA, lenA, nilCheckA, boxA, cellA, cellsA, fillA, okParts, buildSliceA, partIdx, elemsA, lensA, ifaceA, convA, mmA, pickA, okAll, stAll, opsA, partsA, partsOk, opA, allocA, boxMutA, newCells, okCells, storeObj, appendA, guardV, taA, nM, mapUpA, lookA, sliceA, boundsA, opO, okO, copyA, dstOk, nilA, quietOk, nilSliceOp, panA, resA, argFr, retA.eq_1, retA.eq_2, Nat.reduceAdd, Nat.reduceSub, Nat.reduceMul, Nat.reduceLT, Nat.reduceLeDiff, Nat.reduceEqDiff, Nat.reduceBEq, Int.reduceAdd, Int.reduceSub, Int.reduceMul, Int.reduceNeg, Int.reduceLE, Int.reduceLT, Int.reduceEq, Int.reduceNe, Int.reduceToNat, ↓reduceIte, reduceCtorEq, implies_true, forall_const, eq_self, ne_eq, wtAll, Try.ntmps21, Try.results21, hh_i5, hh_id]) ?_ | refine HSub_drop2 (by simp only [eq_self, hh_i5, hh_id]) ?_ | refine HSub_keep_eq (by simp only [vsAll, binA, binLitA, intA, aggA, boolA, nilA2, isConst, unA, loadA, loadRow, partA, partOk, fieldAddrA, indexAddrA, indexA, fieldA, extractA, lenA, nilCheckA, boxA, cellA, cellsA, fillA, okParts, buildSliceA, partIdx, elemsA, lensA, ifaceA, convA, mmA, pickA, okAll, stAll, opsA, partsA, partsOk, opA, allocA, boxMutA, newCells, okCells, storeObj, appendA, guardV, taA, nM, mapUpA, lookA, sliceA, boundsA, opO, okO, copyA, dstOk, nilA, quietOk, nilSliceOp, panA, resA, argFr, retA.eq_1, retA.eq_2, Nat.reduceAdd, Nat.reduceSub, Nat.reduceMul, Nat.reduceLT, Nat.reduceLeDiff, Nat.reduceEqDiff, Nat.reduceBEq, Int.reduceAdd, Int.reduceSub, Int.reduceMul, Int.reduceNeg, Int.reduceLE, Int.reduceLT, Int.reduceEq, Int.reduceNe, Int.reduceToNat, ↓reduceIte, reduceCtorEq, implies_true, forall_const, eq_self, ne_eq, wtAll, Try.ntmps21, Try.results21, hh_i5, hh_id]) ?_))

end Go.Proofs.Ytdeollnepclhaaa
end
section
set_option linter.unusedVariables false
set_option linter.unusedSimpArgs false
namespace Go.Proofs.Ytdeollnepclhaaa
open Go.V
theorem allA_len (h : Hd) : (allA h).length ≤ 101 := amts_len h _
theorem allA_le {h : Hd} {i : Nat} (hi : i < (allA h).length) : (allA h).getD i 0 ≤ 100 := amts_le (mem_getD (allA h) i 0 hi)
theorem dz_range (h : Hd) (w t p : Int) (k : HOk h) (hw : 0 ≤ w ∧ w ≤ 100) (ht : -2 ≤ t ∧ t ≤ 2) (hp : 0 ≤ p ∧ p < h.n) : 0 ≤ dz h w t p ∧ dz h w t p ≤ 1000 := by
  have := hz_spec h w t k ht hw
  have hn := k.n
  have hf := k.fi p hp
  have hm : t * (p - (h.n : Int) / 2) ≤ 100 := by
    have h1 : -7 ≤ p - (h.n : Int) / 2 ∧ p - (h.n : Int) / 2 ≤ 7 := by omega
    generalize p - (h.n : Int) / 2 = q at *
    have : t = -2 ∨ t = -1 ∨ t = 0 ∨ t = 1 ∨ t = 2 := by omega
    rcases this with rfl | rfl | rfl | rfl | rfl <;> omega
  simp only [dz, uz]
  omega

def rodE (h : Hd) (t p : Int) : Int := errE h (tiltB t && partB h p) true
def rodN (h : Hd) (t p : Int) : Nat → Int × Int
  | 0 => (dz h ((allA h).getD 0 0 : Nat) t p, 0)
  | i + 1 => (min (rodN h t p i).1 (dz h ((allA h).getD i 0 : Nat) t p), max (rodN h t p i).2 (dz h ((allA h).getD i 0 : Nat) t p))
def rodV (h : Hd) (t p : Int) : Int × Int := if rodE h t p = 0 then rodN h t p (allA h).length else (0, 0)

def listsE (h : Hd) (n : Int) : Int := errE h (decide (0 ≤ n) && decide (n ≤ (h.m : Int) - 1)) true
def lsK (h : Hd) (n : Int) (j k : Nat) : Bool := ((allA h).take k).any fun w => rightB h (h.sd n.toNat) w ((j : Int) - 2)
def lsB (h : Hd) (n : Int) (j : Nat) : Bool := lsK h n j (allA h).length
def lsN (h : Hd) (n : Int) (k : Nat) : List Int := ((List.range k).filter (lsB h n)).map fun (j : Nat) => (j : Int) - 2
def listsV (h : Hd) (n : Int) : List Int := if listsE h n = 0 then lsN h n 5 else []
theorem lsN_yes {h : Hd} {n : Int} {k : Nat} (hc : lsB h n k = true) : lsN h n (k + 1) = lsN h n k ++ [(k : Int) - 2] := by
  simp [lsN, List.range_succ, List.filter_append, hc]
theorem lsN_no {h : Hd} {n : Int} {k : Nat} (hc : lsB h n k = false) : lsN h n (k + 1) = lsN h n k := by
  simp [lsN, List.range_succ, List.filter_append, hc]
theorem lsN_len (h : Hd) (n : Int) (k : Nat) : (lsN h n k).length ≤ k := by
  have := List.length_filter_le (lsB h n) (List.range k)
  simpa [lsN] using this

end Go.Proofs.Ytdeollnepclhaaa
end
section
set_option linter.unusedVariables false
set_option linter.unusedSimpArgs false
namespace Go.Proofs.Ytdeollnepclhaaa
open Go.V
def dryE (h : Hd) (t : Int) : Int := errE h (tiltB t) true
def dryC (h : Hd) (t p : Int) (k : Nat) : Nat := ((allA h).take k).countP fun w : Nat => decide (dz h w t p = 0)
def dryN (h : Hd) (t : Int) : Nat → Nat × Nat
  | 0 => (0, 0)
  | n + 1 => ((dryN h t n).1 + (if dryC h t n (allA h).length = (allA h).length then 2 ^ n else 0), (dryN h t n).2 + (if 0 < dryC h t n (allA h).length then 2 ^ n else 0))
def dryV (h : Hd) (t : Int) : Nat × Nat := if dryE h t = 0 then dryN h t h.n else (0, 0)
theorem dryC_le (h : Hd) (t p : Int) (k : Nat) : dryC h t p k ≤ k := by
  have := List.countP_le_length (p := fun w : Nat => decide (dz h w t p = 0)) (l := (allA h).take k)
  rw [List.length_take] at this
  simp only [dryC]; omega
theorem dryN_lt (h : Hd) (t : Int) (n : Nat) : (dryN h t n).1 < 2 ^ n ∧ (dryN h t n).2 < 2 ^ n := by
  induction n with
  | zero => simp [dryN]
  | succ n ih => simp only [dryN, Nat.pow_succ]; constructor <;> split <;> omega

def cntP (h : Hd) (t p : Int) (l : List Nat) (w k : Nat) : Nat := (l.take k).countP fun y : Nat => decide (dz h w t p = dz h y t p)
def leftN (h : Hd) (t p : Int) (l : List Nat) : Nat → Nat
  | 0 => 0
  | i + 1 => max (leftN h t p l i) (cntP h t p l (l.getD i 0) l.length)
def leftV (h : Hd) (t p : Int) (l : List Nat) : Nat := leftN h t p l l.length
theorem cntP_le (h : Hd) (t p : Int) (l : List Nat) (w k : Nat) : cntP h t p l w k ≤ k := by
  have := List.countP_le_length (p := fun y : Nat => decide (dz h w t p = dz h y t p)) (l := l.take k)
  rw [List.length_take] at this
  simp only [cntP]; omega
theorem leftN_le (h : Hd) (t p : Int) (l : List Nat) (i : Nat) : leftN h t p l i ≤ l.length := by
  induction i with
  | zero => simp [leftN]
  | succ i ih => have := cntP_le h t p l (l.getD i 0) l.length; simp only [leftN]; omega

end Go.Proofs.Ytdeollnepclhaaa
end
section
set_option linter.unusedVariables false
set_option linter.unusedSimpArgs false
namespace Go.Proofs.Ytdeollnepclhaaa
open Go.V
def nextE (h : Hd) (t : Int) : Int := errE h (tiltB t) true
def nextN (h : Hd) (t : Int) : Nat → Nat × Nat
  | 0 => (0, leftV h t (0 : Nat) (allA h))
  | n + 1 => if leftV h t ((n + 1 : Nat) : Int) (allA h) < (nextN h t n).2 then (n + 1, leftV h t ((n + 1 : Nat) : Int) (allA h)) else nextN h t n
def nextV (h : Hd) (t : Int) : Nat × Nat := if nextE h t = 0 then nextN h t (h.n - 1) else (0, 0)
theorem leftV_le (h : Hd) (t p : Int) (l : List Nat) : leftV h t p l ≤ l.length := leftN_le h t p l _
def clN (h : Hd) (ev : Nat) : Nat → Nat
  | 0 => ev
  | s + 1 => if pop s < pop (clN h ev s) ∧ (amts h s).length = 0 then s else clN h ev s
def clashE (h : Hd) : Int := if errE h true false = 0 then (if 0 < (amts h (2 ^ h.m - 1)).length then 4 else 0) else errE h true false
def clashV (h : Hd) : Nat := if clashE h = 0 then clN h (2 ^ h.m - 1) (2 ^ h.m) else 0
theorem clN_le (h : Hd) (ev s : Nat) (hs : s ≤ ev + 1) : clN h ev s ≤ ev := by
  induction s with
  | zero => simp [clN]
  | succ s ih =>
    simp only [clN]
    split
    · omega
    · exact ih (by omega)

end Go.Proofs.Ytdeollnepclhaaa
end
section
set_option linter.unusedVariables false
set_option linter.unusedSimpArgs false
namespace Go.Proofs.Ytdeollnepclhaaa
open Go.V
theorem lists1_tri (h : Hd) (id : Nat) (n : Int) (H : Hp) (k : Near h) : PTri Try.prog (.func (.func 75) [] [bx n]) [hdP h id] H (boo (decide (0 ≤ n) && decide (n ≤ (h.m : Int) - 1))) := by
  have := k.m
  refine tri_v0 (fun _ => false) Try.func75 (by kernel_rfl) rfl (by simp only [List.length_append, List.length_cons, List.length_nil, Try.ntmps75]; decide) ?_
  simp only [vsAll, opA, dstOk, nilSliceOp, Nat.reduceLT, eq_self, Try.ntmps75]
  refine vs_draw 9 (by decide +kernel) ?_
  simp only [vsAll, binA, binLitA, intA, loadA, loadRow, partA, partOk, fieldAddrA, lenA, nilCheckA, opA, dstOk, argFr, Nat.reduceLT, Nat.reduceEqDiff, ↓reduceIte, reduceCtorEq, eq_self, wtAll]
  refine ⟨by simp only [InR_i64]; omega, qcall _ ⟨trivial, by simp only [vsAll, okAll, opsA, opA, Nat.reduceEqDiff, ↓reduceIte, eq_self], within_tri n 0 ((h.m : Int) - 1) H⟩ ?_⟩
  simp only [vsAll, opA, dstOk, nilSliceOp, resA, retA.eq_1, Nat.reduceLT, ↓reduceIte, eq_self, Try.results75]

theorem lists_step (h : Hd) (n : Int) (j : Nat) : someB (fun w => toldB h w && rightB h (h.sd n.toNat) w ((j : Int) - 2)) = lsB h n j := by
  rw [Bool.eq_iff_iff]
  simp only [lsB, lsK, List.take_length, ← told_filter, someB, List.any_eq_true, List.mem_filter, List.mem_range, Bool.and_eq_true]
  constructor
  · rintro ⟨w, h1, h2, h3⟩; exact ⟨w, ⟨h1, h2⟩, h3⟩
  · rintro ⟨w, ⟨h1, h2⟩, h3⟩; exact ⟨w, h1, h2, h3⟩

theorem wlists_tri (h : Hd) (n : Int) (H : Hp) (k : Near h) : PTri Try.prog (fnA 28) [h.av, i64 n] H (.tuple [intsAV (listsV h n), i64 (listsE h n)]) := by
  refine Tri.thaw (R1 := fun r H' => ∃ id, H id = none ∧ r = .ret (.tuple [.sl id 1 (listsV h n).length, i64 (listsE h n)]) ∧ H' = H.set id (.row 1 (listsV h n).length (intF (listsV h n)))) ?_ ?_
  · refine Tri.drop ?_
    refine tri_a (m := mset [4]) ans51 Try.func28 (by kernel_rfl) rfl (by simp only [List.length_append, List.length_cons, List.length_nil, Try.ntmps28]; decide) ?_
    simp only [vsAll, loadA, loadRow, partA, partOk, boxA, cellA, okAll, stAll, opsA, opA, allocA, dstOk, nilA, argFr, Nat.reduceAdd, Nat.reduceLT, Nat.reduceEqDiff, Nat.reduceBEq, Int.reduceNeg, ↓reduceIte, eq_self, wtAll, Try.ntmps28]
    intro i4 hh_i4; (try simp only [Hp.set_none, ite_none] at hh_i4); intro i5 hh_i5; (try simp only [ite_none] at hh_i5)
    refine open_call (open_tri h _ (decide (0 ≤ n) && decide (n ≤ (h.m : Int) - 1)) _ k trivial rfl (fun hk H' id ho => lists1_tri h id n H' k)) (fun hno => ?_) (fun hk hv => ?_) (fun hk hv => ?_)
    · have e : listsE h n = 1 := errE_no hno _ _
      have ev : listsV h n = [] := by simp [listsV, e]
      simp only [vsAll, Int.reduceNeg]
      refine ⟨1, i5, _, rfl, rfl, Hp.set_same _ _ _, ?_⟩
      simp only [vsAll, loadA, loadRow, partA, partOk, resA, retA.eq_2, Nat.reduceLT, Nat.reduceEqDiff, ↓reduceIte, eq_self, wtAll, Try.results28]
      refine ⟨_, ?_, i4, hh_i4, by simp only [vsAll, eq_self, ev, e], rfl⟩
      rw [ev]
      refine HSub_put (o' := .row 1 0 fun _ => []) (by simp only [vsAll, ↓reduceIte, eq_self, hh_i5]) (row0_le _ _ _) ?_
      (repeat (first | exact HSub_rfl | refine HSub_put_eq (by simp only [vsAll, binA, binLitA, intA, aggA, boolA, nilA2, isConst, unA, loadA, loadRow, partA, partOk, fieldAddrA, indexAddrA, indexA, fieldA, extractA, lenA, nilCheckA, boxA, cellA, cellsA, fillA, okParts, buildSliceA, partIdx, elemsA, lensA, ifaceA, convA, mmA, pickA, okAll, stAll, opsA, partsA, partsOk, opA, allocA, boxMutA, newCells, okCells, storeObj, appendA, guardV, taA, nM, mapUpA, lookA, sliceA, boundsA, opO, okO, copyA, dstOk, nilA, quietOk, nilSliceOp, panA, resA, argFr, retA.eq_1, retA.eq_2, Nat.reduceAdd, Nat.reduceSub, Nat.reduceMul, Nat.reduceLT, Nat.reduceLeDiff, Nat.reduceEqDiff, Nat.reduceBEq, Int.reduceAdd, Int.reduceSub, Int.reduceMul, Int.reduceNeg, Int.reduceLE, Int.reduceLT, Int.reduceEq, Int.reduceNe, Int.reduceToNat, ↓reduceIte, reduceCtorEq, implies_true, forall_const, eq_self, ne_eq, wtAll, Try.ntmps28, Try.results28, hh_i4, hh_i5]) ?_ | refine HSub_drop2 (by simp only [eq_self, hh_i4, hh_i5]) ?_ | refine HSub_keep_eq (by simp only [vsAll, binA, binLitA, intA, aggA, boolA, nilA2, isConst, unA, loadA, loadRow, partA, partOk, fieldAddrA, indexAddrA, indexA, fieldA, extractA, lenA, nilCheckA, boxA, cellA, cellsA, fillA, okParts, buildSliceA, partIdx, elemsA, lensA, ifaceA, convA, mmA, pickA, okAll, stAll, opsA, partsA, partsOk, opA, allocA, boxMutA, newCells, okCells, storeObj, appendA, guardV, taA, nM, mapUpA, lookA, sliceA, boundsA, opO, okO, copyA, dstOk, nilA, quietOk, nilSliceOp, panA, resA, argFr, retA.eq_1, retA.eq_2, Nat.reduceAdd, Nat.reduceSub, Nat.reduceMul, Nat.reduceLT, Nat.reduceLeDiff, Nat.reduceEqDiff, Nat.reduceBEq, Int.reduceAdd, Int.reduceSub, Int.reduceMul, Int.reduceNeg, Int.reduceLE, Int.reduceLT, Int.reduceEq, Int.reduceNe, Int.reduceToNat, ↓reduceIte, reduceCtorEq, implies_true, forall_const, eq_self, ne_eq, wtAll, Try.ntmps28, Try.results28, hh_i4, hh_i5]) ?_))
    · have e : listsE h n = 2 := by unfold listsE; rw [hv]; exact errE_bad hk _
      have ev : listsV h n = [] := by simp [listsV, e]
      simp only [vsAll, Int.reduceNeg]
      refine ⟨2, i5, _, rfl, rfl, Hp.set_same _ _ _, ?_⟩
      simp only [vsAll, loadA, loadRow, partA, partOk, resA, retA.eq_2, Nat.reduceLT, Nat.reduceEqDiff, ↓reduceIte, eq_self, wtAll, Try.results28]
      refine ⟨_, ?_, i4, hh_i4, by simp only [vsAll, eq_self, ev, e], rfl⟩
      rw [ev]
      refine HSub_put (o' := .row 1 0 fun _ => []) (by simp only [vsAll, ↓reduceIte, eq_self, hh_i5]) (row0_le _ _ _) ?_
      (repeat (first | exact HSub_rfl | refine HSub_put_eq (by simp only [vsAll, binA, binLitA, intA, aggA, boolA, nilA2, isConst, unA, loadA, loadRow, partA, partOk, fieldAddrA, indexAddrA, indexA, fieldA, extractA, lenA, nilCheckA, boxA, cellA, cellsA, fillA, okParts, buildSliceA, partIdx, elemsA, lensA, ifaceA, convA, mmA, pickA, okAll, stAll, opsA, partsA, partsOk, opA, allocA, boxMutA, newCells, okCells, storeObj, appendA, guardV, taA, nM, mapUpA, lookA, sliceA, boundsA, opO, okO, copyA, dstOk, nilA, quietOk, nilSliceOp, panA, resA, argFr, retA.eq_1, retA.eq_2, Nat.reduceAdd, Nat.reduceSub, Nat.reduceMul, Nat.reduceLT, Nat.reduceLeDiff, Nat.reduceEqDiff, Nat.reduceBEq, Int.reduceAdd, Int.reduceSub, Int.reduceMul, Int.reduceNeg, Int.reduceLE, Int.reduceLT, Int.reduceEq, Int.reduceNe, Int.reduceToNat, ↓reduceIte, reduceCtorEq, implies_true, forall_const, eq_self, ne_eq, wtAll, Try.ntmps28, Try.results28, hh_i4, hh_i5]) ?_ | refine HSub_drop2 (by simp only [eq_self, hh_i4, hh_i5]) ?_ | refine HSub_keep_eq (by simp only [vsAll, binA, binLitA, intA, aggA, boolA, nilA2, isConst, unA, loadA, loadRow, partA, partOk, fieldAddrA, indexAddrA, indexA, fieldA, extractA, lenA, nilCheckA, boxA, cellA, cellsA, fillA, okParts, buildSliceA, partIdx, elemsA, lensA, ifaceA, convA, mmA, pickA, okAll, stAll, opsA, partsA, partsOk, opA, allocA, boxMutA, newCells, okCells, storeObj, appendA, guardV, taA, nM, mapUpA, lookA, sliceA, boundsA, opO, okO, copyA, dstOk, nilA, quietOk, nilSliceOp, panA, resA, argFr, retA.eq_1, retA.eq_2, Nat.reduceAdd, Nat.reduceSub, Nat.reduceMul, Nat.reduceLT, Nat.reduceLeDiff, Nat.reduceEqDiff, Nat.reduceBEq, Int.reduceAdd, Int.reduceSub, Int.reduceMul, Int.reduceNeg, Int.reduceLE, Int.reduceLT, Int.reduceEq, Int.reduceNe, Int.reduceToNat, ↓reduceIte, reduceCtorEq, implies_true, forall_const, eq_self, ne_eq, wtAll, Try.ntmps28, Try.results28, hh_i4, hh_i5]) ?_))
    · intro id hh_id; (try simp only [Hp.set_none] at hh_id)
      simp only [vsAll, okAll, stAll, opsA, opA, dstOk, nilSliceOp, Nat.reduceLT, Nat.reduceBEq, Int.reduceNeg, ↓reduceIte, eq_self]
      refine told_call hk (by simp only [vsAll, ↓reduceIte, eq_self]) (fun hs => ?_) (fun hs => ?_)
      · have e : listsE h n = 0 := by unfold listsE; rw [hv]; exact errE_told hk hs
        have ev : listsV h n = lsN h n 5 := by rw [listsV, if_pos e]
        simp only [Bool.and_eq_true, decide_eq_true_eq] at hv
        have hn2 : n.toNat < h.m := by ((try clear hh_i4); (try clear hh_i5); (try clear hh_id); omega)
        have hw2 := hk.w n.toNat hn2
        simp only [vsAll, opA, allocA, storeObj, dstOk, nilSliceOp, Nat.reduceMul, Nat.reduceLT, Nat.reduceEqDiff, Nat.reduceBEq, Int.reduceNeg, ↓reduceIte, eq_self, wtAll]
        intro i7 hh_i7; (try simp only [ite_none] at hh_i7)
        refine ⟨fun j hj => by simp [amF, okCells, cellA], ?_⟩
        have e0 : lsN h n 0 = [] := by simp [lsN]
        refine vs_loop (σ := Nat) (fun j => j ≤ 5) (fun j => [(3, bx n), (4, .sl i4 1 (lsN h n j).length), (5, .ref i5 0 1 0 0), (6, hdP h id), (7, .ref i7 0 1 0 0), (8, i64 ((j : Int) - 2))])
          (fun j => ((((H.set i5 (.box 1 1 fun _ => [i64 0])).set id (.memo (memoF h))).set i7 (.box 1 101 (amF (toldB h)))).set i4 (.row 1 (lsN h n j).length (intF (lsN h n j))))) (fun j => 5 - j) 0 (by ((try clear hh_i4); (try clear hh_i5); (try clear hh_id); (try clear hh_i7); omega)) ?_ ?_ fun j hj => ?_
        · simp only [vsAll, Nat.reduceEqDiff, Int.reduceSub, Int.reduceNeg, ↓reduceIte, eq_self, e0, Int.natCast_zero]
        · simp only [e0]
          refine HSub_put (o' := .row 1 0 fun _ => []) (by simp only [vsAll, ↓reduceIte, eq_self, hh_i5, hh_id, hh_i7]) (row0_le _ _ _) ?_
          (repeat (first | exact HSub_rfl | refine HSub_put_eq (by simp only [vsAll, ↓reduceIte, eq_self, hh_id, hh_i7]) ?_ | refine HSub_drop2 (by simp only [eq_self, hh_i4, hh_i5, hh_id, hh_i7]) ?_ | refine HSub_keep_eq (by simp only [vsAll, binA, binLitA, intA, aggA, boolA, nilA2, isConst, unA, loadA, loadRow, partA, partOk, fieldAddrA, indexAddrA, indexA, fieldA, extractA, lenA, nilCheckA, boxA, cellA, cellsA, fillA, okParts, buildSliceA, partIdx, elemsA, lensA, ifaceA, convA, mmA, pickA, okAll, stAll, opsA, partsA, partsOk, opA, allocA, boxMutA, newCells, okCells, storeObj, appendA, guardV, taA, nM, mapUpA, lookA, sliceA, boundsA, opO, okO, copyA, dstOk, nilA, quietOk, nilSliceOp, panA, resA, argFr, retA.eq_1, retA.eq_2, Nat.reduceAdd, Nat.reduceSub, Nat.reduceMul, Nat.reduceLT, Nat.reduceLeDiff, Nat.reduceEqDiff, Nat.reduceBEq, Int.reduceAdd, Int.reduceSub, Int.reduceMul, Int.reduceNeg, Int.reduceLE, Int.reduceLT, Int.reduceEq, Int.reduceNe, Int.reduceToNat, ↓reduceIte, reduceCtorEq, implies_true, forall_const, eq_self, ne_eq, wtAll, Try.ntmps28, Try.results28, hh_i4, hh_i5, hh_id, hh_i7]) ?_))
        · simp only [vsAll, binA, binLitA, intA, opA, dstOk, Nat.reduceLT, Nat.reduceEqDiff, ↓reduceIte, eq_self]
          refine condD (fun hd => ?_) (fun hd => ?_)
          · simp only [vsAll]
            refine vs_draw 16 (by decide +kernel) ?_
            simp only [vsAll, loadA, loadRow, partA, partOk, fieldAddrA, indexAddrA, nilCheckA, cellA, cellsA, fillA, okParts, ifaceA, partsA, partsOk, opA, dstOk, Nat.reduceAdd, Nat.reduceLT, Nat.reduceLeDiff, Nat.reduceEqDiff, ↓reduceIte, eq_self, wtAll, hh_i7]
            refine ⟨by ((try clear hh_i4); (try clear hh_i5); (try clear hh_id); (try clear hh_i7); omega), by ((try clear hh_i4); (try clear hh_i5); (try clear hh_id); (try clear hh_i7); omega), qcall (amAV fun w => toldB h w && rightB h (h.sd n.toNat) w ((j : Int) - 2)) ⟨trivial, by simp only [vsAll, okAll, opsA, opA, Nat.reduceEqDiff, ↓reduceIte, eq_self], left_tri h id 103 (.agg ((h.sd n.toNat).cs ++ [i64 ((j : Int) - 2)])) (toldB h) (fun w => rightB h (h.sd n.toNat) w ((j : Int) - 2)) _ hk (by simp only [vsAll, ↓reduceIte, eq_self, hh_id, hh_i7])
              (fun H' w hH' hw => tri_meth meth103 (listed_tri h id (h.sd n.toNat) _ w H' hk hH' (by ((try clear hh_i4); (try clear hh_i5); (try clear hh_id); (try clear hh_i7); omega)) (by ((try clear hh_i4); (try clear hh_i5); (try clear hh_id); (try clear hh_i7); omega)) hw2))⟩ ?_⟩
            simp only [vsAll, dstOk, Nat.reduceLT, eq_self]
            refine qcall _ ⟨trivial, by simp only [vsAll, okAll, opsA, opA, ↓reduceIte, eq_self], some_tri _ _⟩ ?_
            rw [lists_step]
            simp only [vsAll, opA, ↓reduceIte, eq_self]
            refine condV (fun hq => ?_) (fun hq => ?_)
            · have al := lsN_len h n j
              simp only [vsAll, binA, binLitA, intA, cellA, cellsA, okParts, buildSliceA, partIdx, elemsA, lensA, partsA, partsOk, opA, appendA, dstOk, nilSliceOp, Nat.reduceMul, Nat.reduceLT, Nat.reduceLeDiff, Nat.reduceEqDiff, Nat.reduceBEq, ↓reduceIte, eq_self, wtAll]
              rw [app_ints _ ((j : Int) - 2) _ rfl]
              refine ⟨fun q hq => by (have : q = 0 := by ((try clear hh_i4); (try clear hh_i5); (try clear hh_id); (try clear hh_i7); omega)); subst this; simp only [vsAll, cellA, okCells, eq_self], by ((try clear hh_i4); (try clear hh_i5); (try clear hh_id); (try clear hh_i7); omega), by ((try clear hh_i4); (try clear hh_i5); (try clear hh_id); (try clear hh_i7); omega), by simp only [InR_i64]; ((try clear hh_i4); (try clear hh_i5); (try clear hh_id); (try clear hh_i7); omega), loop_next (j + 1) (by ((try clear hh_i4); (try clear hh_i5); (try clear hh_id); (try clear hh_i7); omega)) (by ((try clear hh_i4); (try clear hh_i5); (try clear hh_id); (try clear hh_i7); omega)) ?_ ?_⟩
              · have e3 : (j : Int) - 2 + 1 = (j : Int) + 1 - 2 := by ((try clear hh_i4); (try clear hh_i5); (try clear hh_id); (try clear hh_i7); omega)
                simp only [vsAll, Nat.reduceEqDiff, ↓reduceIte, eq_self, lsN_yes hq, e3, List.length_append, Int.natCast_add, Int.natCast_one]
              · simp only [vsAll, lsN_yes hq, List.length_append, Hp.set_set]
            · simp only [vsAll, binA, binLitA, intA, opA, dstOk, nilSliceOp, Nat.reduceLT, Nat.reduceEqDiff, Nat.reduceBEq, ↓reduceIte, eq_self]
              refine ⟨by simp only [InR_i64]; ((try clear hh_i4); (try clear hh_i5); (try clear hh_id); (try clear hh_i7); omega), loop_next (j + 1) (by ((try clear hh_i4); (try clear hh_i5); (try clear hh_id); (try clear hh_i7); omega)) (by ((try clear hh_i4); (try clear hh_i5); (try clear hh_id); (try clear hh_i7); omega)) ?_ ?_⟩
              · have e3 : (j : Int) - 2 + 1 = (j : Int) + 1 - 2 := by ((try clear hh_i4); (try clear hh_i5); (try clear hh_id); (try clear hh_i7); omega)
                simp only [vsAll, Nat.reduceEqDiff, ↓reduceIte, eq_self, lsN_no hq, e3, Int.natCast_add, Int.natCast_one]
              · simp only [vsAll, lsN_no hq]
          · have ej : j = 5 := by ((try clear hh_i4); (try clear hh_i5); (try clear hh_id); (try clear hh_i7); omega)
            subst ej
            simp only [vsAll, cellA, cellsA, opA, newCells, okCells, storeObj, dstOk, nilSliceOp, Nat.reduceLT, Nat.reduceEqDiff, Nat.reduceBEq, ↓reduceIte, eq_self, wtAll, hh_i5, hh_id, hh_i7]
            refine Ent.ret ⟨i5, fun _ => [i64 0], rfl, by simp only [vsAll, ↓reduceIte, eq_self], ?_⟩
            simp only [vsAll, loadA, loadRow, partA, partOk, resA, retA.eq_2, Nat.reduceLT, Nat.reduceEqDiff, ↓reduceIte, eq_self, wtAll, Try.results28]
            refine ⟨_, ?_, i4, hh_i4, by simp only [eq_self, ev, e], rfl⟩
            rw [ev]
            (repeat (first | exact HSub_rfl | refine HSub_put_eq (by simp only [vsAll, ↓reduceIte, eq_self, hh_i5]) ?_ | refine HSub_drop2 (by simp only [eq_self, hh_i4, hh_i5, hh_id, hh_i7]) ?_ | refine HSub_keep_eq (by simp only [vsAll, binA, binLitA, intA, aggA, boolA, nilA2, isConst, unA, loadA, loadRow, partA, partOk, fieldAddrA, indexAddrA, indexA, fieldA, extractA, lenA, nilCheckA, boxA, cellA, cellsA, fillA, okParts, buildSliceA, partIdx, elemsA, lensA, ifaceA, convA, mmA, pickA, okAll, stAll, opsA, partsA, partsOk, opA, allocA, boxMutA, newCells, okCells, storeObj, appendA, guardV, taA, nM, mapUpA, lookA, sliceA, boundsA, opO, okO, copyA, dstOk, nilA, quietOk, nilSliceOp, panA, resA, argFr, retA.eq_1, retA.eq_2, Nat.reduceAdd, Nat.reduceSub, Nat.reduceMul, Nat.reduceLT, Nat.reduceLeDiff, Nat.reduceEqDiff, Nat.reduceBEq, Int.reduceAdd, Int.reduceSub, Int.reduceMul, Int.reduceNeg, Int.reduceLE, Int.reduceLT, Int.reduceEq, Int.reduceNe, Int.reduceToNat, ↓reduceIte, reduceCtorEq, implies_true, forall_const, eq_self, ne_eq, wtAll, Try.ntmps28, Try.results28, hh_i4, hh_i5, hh_id, hh_i7]) ?_))
      · have e : listsE h n = 10 := by unfold listsE; rw [hv]; exact errE_clash hk hs
        have ev : listsV h n = [] := by simp [listsV, e]
        simp only [vsAll, Int.reduceNeg]
        refine ⟨10, i5, fun _ => [i64 0], rfl, rfl, by simp only [vsAll, ↓reduceIte, eq_self, hh_id], ?_⟩
        simp only [vsAll, loadA, loadRow, partA, partOk, resA, retA.eq_2, Nat.reduceLT, Nat.reduceEqDiff, ↓reduceIte, eq_self, wtAll, Try.results28]
        refine ⟨_, ?_, i4, hh_i4, by simp only [vsAll, eq_self, ev, e], rfl⟩
        rw [ev]
        refine HSub_put (o' := .row 1 0 fun _ => []) (by simp only [vsAll, ↓reduceIte, eq_self, hh_i5, hh_id]) (row0_le _ _ _) ?_
        (repeat (first | exact HSub_rfl | refine HSub_put_eq (by simp only [vsAll, binA, binLitA, intA, aggA, boolA, nilA2, isConst, unA, loadA, loadRow, partA, partOk, fieldAddrA, indexAddrA, indexA, fieldA, extractA, lenA, nilCheckA, boxA, cellA, cellsA, fillA, okParts, buildSliceA, partIdx, elemsA, lensA, ifaceA, convA, mmA, pickA, okAll, stAll, opsA, partsA, partsOk, opA, allocA, boxMutA, newCells, okCells, storeObj, appendA, guardV, taA, nM, mapUpA, lookA, sliceA, boundsA, opO, okO, copyA, dstOk, nilA, quietOk, nilSliceOp, panA, resA, argFr, retA.eq_1, retA.eq_2, Nat.reduceAdd, Nat.reduceSub, Nat.reduceMul, Nat.reduceLT, Nat.reduceLeDiff, Nat.reduceEqDiff, Nat.reduceBEq, Int.reduceAdd, Int.reduceSub, Int.reduceMul, Int.reduceNeg, Int.reduceLE, Int.reduceLT, Int.reduceEq, Int.reduceNe, Int.reduceToNat, ↓reduceIte, reduceCtorEq, implies_true, forall_const, eq_self, ne_eq, wtAll, Try.ntmps28, Try.results28, hh_i4, hh_i5, hh_id]) ?_ | refine HSub_drop2 (by simp only [eq_self, hh_i4, hh_i5, hh_id]) ?_ | refine HSub_keep_eq (by simp only [vsAll, binA, binLitA, intA, aggA, boolA, nilA2, isConst, unA, loadA, loadRow, partA, partOk, fieldAddrA, indexAddrA, indexA, fieldA, extractA, lenA, nilCheckA, boxA, cellA, cellsA, fillA, okParts, buildSliceA, partIdx, elemsA, lensA, ifaceA, convA, mmA, pickA, okAll, stAll, opsA, partsA, partsOk, opA, allocA, boxMutA, newCells, okCells, storeObj, appendA, guardV, taA, nM, mapUpA, lookA, sliceA, boundsA, opO, okO, copyA, dstOk, nilA, quietOk, nilSliceOp, panA, resA, argFr, retA.eq_1, retA.eq_2, Nat.reduceAdd, Nat.reduceSub, Nat.reduceMul, Nat.reduceLT, Nat.reduceLeDiff, Nat.reduceEqDiff, Nat.reduceBEq, Int.reduceAdd, Int.reduceSub, Int.reduceMul, Int.reduceNeg, Int.reduceLE, Int.reduceLT, Int.reduceEq, Int.reduceNe, Int.reduceToNat, ↓reduceIte, reduceCtorEq, implies_true, forall_const, eq_self, ne_eq, wtAll, Try.ntmps28, Try.results28, hh_i4, hh_i5, hh_id]) ?_))
  · rintro r H' ⟨id, hid, rfl, rfl⟩
    right
    exact ⟨_, id, 1, _, _, 0, rfl, Hp.set_same _ _ _, by simp, rfl, rfl, set_del hid⟩

end Go.Proofs.Ytdeollnepclhaaa
end
section
set_option linter.unusedVariables false
set_option linter.unusedSimpArgs false
namespace Go.Proofs.Ytdeollnepclhaaa
open Go.V
/-- All amounts of a set, and how deep they are in a part, one after another. -/
abbrev eachF (h : Hd) (id : Nat) (a : Nat → Bool) (t p : Int) : AV := .func (.func 98) [] [.rptr 101 1 (amF a) 0 0, .rptr 1 1 (fun _ => [hdP h id]) 0 0, bx t, bx p]
theorem each_tri (h : Hd) (id : Nat) (a : Nat → Bool) (t p : Int) (H : Hp) : PTri Try.prog (fnA 72) [hdP h id, amAV a, i64 t, i64 p] H (eachF h id a t p) := by
  refine tri_v0 (fun _ => false) Try.func72 (by kernel_rfl) rfl (by simp only [List.length_append, List.length_cons, List.length_nil, Try.ntmps72]; decide) ?_
  simp only [vsAll, boxA, cellA, okAll, stAll, opsA, opA, dstOk, nilSliceOp, resA, argFr, retA.eq_1, Nat.reduceLT, Nat.reduceEqDiff, ↓reduceIte, eq_self, Try.ntmps72, Try.results72]

def eachW (h : Hd) (a : Nat → Bool) (t p : Int) (l : List Nat) : List (List AV) := (l.filter a).map fun w : Nat => [i64 w, i64 (dz h w t p)]
abbrev eachL (h : Hd) (a : Nat → Bool) (t p : Int) : List (List AV) := eachW h a t p (List.range 101)
theorem eachW_drop (h : Hd) (a : Nat → Bool) (t p : Int) (w : Nat) (hw : w < 101) :
    eachW h a t p ((List.range 101).drop w) = if a w = true then [i64 w, i64 (dz h w t p)] :: eachW h a t p ((List.range 101).drop (w + 1)) else eachW h a t p ((List.range 101).drop (w + 1)) := by
  rw [List.drop_eq_getElem_cons (by simpa using hw)]
  simp only [List.getElem_range, eachW, List.filter_cons]
  split <;> rfl

theorem each1_tri (h : Hd) (id : Nat) (a : Nat → Bool) (t p : Int) (hk : HOk h) (ht : -2 ≤ t ∧ t ≤ 2) (hp : 0 ≤ p ∧ p < h.n) (yf : Fn) (H : Hp) (K : Hp → Prop)
    (hit : Iter Try.prog (.func yf [] []) (fun H => H id = some (.memo (memoF h))) (eachL h a t p) H K) :
    Tri Try.prog (eachF h id a t p) [.func yf [] []] H fun r H' => (∃ v, r = .ret v) ∧ K H' := by
  refine tri_v0 (fun _ => false) Try.func98 (by kernel_rfl) rfl (by simp only [List.length_append, List.length_cons, List.length_nil, Try.ntmps98]; decide) ?_
  simp only [vsAll, loadA, loadRow, opA, dstOk, argFr, Nat.reduceLT, eq_self, wtAll, Try.ntmps98]
  refine vs_loop (σ := Nat × Hp) (fun x => x.1 ≤ 101 ∧ Iter Try.prog (.func yf [] []) (fun H => H id = some (.memo (memoF h))) (eachW h a t p ((List.range 101).drop x.1)) x.2 K)
    (fun x => [(0, .func yf [] []), (2, .rptr 1 1 (fun _ => [hdP h id]) 0 0), (3, bx t), (4, bx p), (8, amAV a), (9, i64 x.1)]) (fun x => x.2) (fun x => 101 - x.1) (0, H) ⟨by omega, hit⟩ ?_ (HSub.refl _) fun x hx => ?_
  · simp only [vsAll, argFr, Nat.reduceEqDiff, ↓reduceIte, reduceCtorEq, eq_self, Int.natCast_zero]
  · obtain ⟨w, H'⟩ := x
    obtain ⟨hw, hx⟩ := hx
    simp only [vsAll, binA, binLitA, intA, opA, dstOk, Nat.reduceLT, Nat.reduceEqDiff, ↓reduceIte, reduceCtorEq, eq_self]
    refine condD (fun hd => ?_) (fun hd => ?_)
    · simp only [] at hw hx hd
      rw [eachW_drop h a t p w (by omega)] at hx
      simp only [vsAll, unA, partA, indexA, opA, dstOk, nilSliceOp, Nat.reduceLT, Nat.reduceEqDiff, ↓reduceIte, reduceCtorEq, eq_self, wtAll, amF_at]
      refine ⟨by omega, condV (fun hc => ?_) (fun hc => ?_)⟩
      · simp only [Bool.not_eq_true'] at hc
        rw [hc, if_neg (by simp)] at hx
        simp only [vsAll, binA, binLitA, intA, opA, dstOk, Nat.reduceLT, Nat.reduceEqDiff, ↓reduceIte, reduceCtorEq, eq_self]
        refine ⟨by simp only [InR_i64]; omega, loop_next (w + 1, H') ⟨by simp only []; omega, hx⟩ (by simp only []; omega) ?_ (HSub.refl _)⟩
        simp only [vsAll, Nat.reduceEqDiff, ↓reduceIte, reduceCtorEq, eq_self, Int.natCast_add, Int.natCast_one]
      · simp only [Bool.not_eq_false'] at hc
        rw [hc, if_pos rfl] at hx
        obtain ⟨hpre, hx⟩ := hx
        simp only [vsAll, loadA, loadRow, partA, partOk, okAll, stAll, opsA, opA, dstOk, Nat.reduceLT, Nat.reduceEqDiff, ↓reduceIte, reduceCtorEq, eq_self, wtAll]
        refine callK_pure (wdeep_tri h id w t p _ hk hpre (by omega) ht hp) ?_
        simp only [vsAll, okAll, stAll, opsA, opA, dstOk, Nat.reduceLT, Nat.reduceEqDiff, ↓reduceIte, eq_self]
        refine callK hx ?_
        rintro r H'' (⟨rfl, hr⟩ | ⟨rfl, hr⟩)
        · simp only [vsAll, binA, binLitA, intA, unA, opA, dstOk, Nat.reduceLT, Nat.reduceEqDiff, ↓reduceIte, reduceCtorEq, eq_self]
          refine ⟨by simp only [InR_i64]; omega, loop_next (w + 1, H'') ⟨by simp only []; omega, hr⟩ (by simp only []; omega) ?_ (HSub.refl _)⟩
          simp only [vsAll, Nat.reduceEqDiff, ↓reduceIte, reduceCtorEq, eq_self, Int.natCast_add, Int.natCast_one]
        · simp only [vsAll, unA, opA, dstOk, resA, retA.eq_2, Nat.reduceLT, ↓reduceIte, eq_self, Try.results98]
          exact ⟨⟨_, rfl⟩, hr⟩
    · simp only [] at hw hx hd
      have ew : w = 101 := by omega
      subst ew
      have : (List.range 101).drop 101 = [] := List.drop_eq_nil_of_le (by simp)
      rw [this] at hx
      simp only [vsAll, resA, retA.eq_2, ↓reduceIte, eq_self, Try.results98]
      exact ⟨⟨_, rfl⟩, hx⟩

end Go.Proofs.Ytdeollnepclhaaa
end
section
set_option linter.unusedVariables false
set_option linter.unusedSimpArgs false
namespace Go.Proofs.Ytdeollnepclhaaa
open Go.V
theorem dz_150 (h : Hd) (w t p : Int) (k : HOk h) (hw : 0 ≤ w ∧ w ≤ 100) (ht : -2 ≤ t ∧ t ≤ 2) (hp : 0 ≤ p ∧ p < h.n) : 0 ≤ dz h w t p ∧ dz h w t p ≤ 150 := by
  have := hz_spec h w t k ht hw
  have hn := k.n
  have hf := k.fi p hp
  have hm : t * (p - (h.n : Int) / 2) ≤ 10 := by
    have h1 : -3 ≤ p - (h.n : Int) / 2 ∧ p - (h.n : Int) / 2 ≤ 3 := by omega
    generalize p - (h.n : Int) / 2 = q at *
    have : t = -2 ∨ t = -1 ∨ t = 0 ∨ t = 1 ∨ t = 2 := by omega
    rcases this with rfl | rfl | rfl | rfl | rfl <;> omega
  simp only [dz, uz]
  omega

theorem rod1_tri (h : Hd) (id : Nat) (t p : Int) (H : Hp) (k : Near h) : PTri Try.prog (.func (.func 71) [] [bx t, bx p]) [hdP h id] H (boo (tiltB t && partB h p)) := by
  refine tri_v0 (fun _ => false) Try.func71 (by kernel_rfl) rfl (by simp only [List.length_append, List.length_cons, List.length_nil, Try.ntmps71]; decide) ?_
  simp only [vsAll, loadA, loadRow, partA, partOk, okAll, stAll, opsA, opA, dstOk, nilSliceOp, argFr, Nat.reduceLT, Nat.reduceEqDiff, ↓reduceIte, eq_self, wtAll, Try.ntmps71]
  refine callK_pure (isList_tri t H) ?_
  simp only [vsAll, loadA, loadRow, partA, partOk, opA, guardV, dstOk, argFr, Nat.reduceLT, Nat.reduceEqDiff, ↓reduceIte, reduceCtorEq, implies_true, eq_self, wtAll]
  refine gcall _ (fun hg => ⟨trivial, by simp only [vsAll, okAll, opsA, opA, Nat.reduceEqDiff, ↓reduceIte, eq_self, hg], isPart_tri h id p H k⟩) ?_
  simp only [vsAll, pickA, opA, dstOk, nilSliceOp, resA, retA.eq_1, Nat.reduceLT, Nat.reduceEqDiff, ↓reduceIte, implies_true, eq_self, Try.results71]

def rk (h : Hd) (t p : Int) : Nat → Int × Int
  | 0 => (200, 0)
  | i + 1 => (min (rk h t p i).1 (dz h ((allA h).getD i 0 : Nat) t p), max (rk h t p i).2 (dz h ((allA h).getD i 0 : Nat) t p))
theorem rk_rod (h : Hd) (t p : Int) (k : HOk h) (ht : -2 ≤ t ∧ t ≤ 2) (hp : 0 ≤ p ∧ p < h.n) (i : Nat) (hi : i < (allA h).length) : rk h t p (i + 1) = rodN h t p (i + 1) := by
  induction i with
  | zero =>
    have := allA_le hi
    have := dz_150 h ((allA h).getD 0 0 : Nat) t p k (by omega) ht hp
    simp only [rk, rodN]
    congr 1
    omega
  | succ i ih =>
    have := ih (by omega)
    rw [rk, rodN, this]
theorem each_all (h : Hd) (t p : Int) : eachL h (toldB h) t p = (allA h).map fun w : Nat => [i64 w, i64 (dz h w t p)] := by
  simp only [eachL, eachW, told_filter]

theorem each_get {h : Hd} {t p : Int} {i : Nat} {x : List AV} (hx : (eachL h (toldB h) t p)[i]? = some x) : i < (allA h).length ∧ x = [i64 ((allA h).getD i 0 : Nat), i64 (dz h ((allA h).getD i 0 : Nat) t p)] := by
  rw [each_all, List.getElem?_map, Option.map_eq_some_iff] at hx
  obtain ⟨w, h1, rfl⟩ := hx
  refine ⟨(List.getElem?_eq_some_iff.1 h1).1, ?_⟩
  rw [List.getD_eq_getElem?_getD, h1]; rfl

theorem wrod_tri (h : Hd) (t p : Int) (H : Hp) (k : Near h) : PTri Try.prog (fnA 24) [h.av, i64 t, i64 p] H (.tuple [.agg [i64 (rodV h t p).1, i64 (rodV h t p).2], i64 (rodE h t p)]) := by
  refine Tri.drop ?_
  refine tri_am (m := fun _ => false) ans51 Try.func24 (by kernel_rfl) rfl (by simp only [List.length_append, List.length_cons, List.length_nil, Try.ntmps24]; decide) ?_
  simp only [vsAll, loadA, loadRow, partA, partOk, boxA, cellA, okAll, stAll, opsA, opA, allocA, dstOk, argFr, Nat.reduceAdd, Nat.reduceLT, Nat.reduceEqDiff, ↓reduceIte, eq_self, wtAll, Try.ntmps24]
  intro i6 hh_i6; (try simp only [Hp.set_none, ite_none] at hh_i6); intro i7 hh_i7; (try simp only [ite_none] at hh_i7)
  refine open_call (open_tri h _ (tiltB t && partB h p) _ k trivial rfl (fun hk H' id ho => rod1_tri h id t p H' k)) (fun hno => ?_) (fun hk hv => ?_) (fun hk hv => ?_)
  · have e : rodE h t p = 1 := errE_no hno _ _
    simp only [vsAll, loadA, loadRow, partA, partOk, resA, retA.eq_2, Nat.reduceEqDiff, ↓reduceIte, eq_self, wtAll, Try.results24, hh_i7]
    refine ⟨1, i7, fun _ => [i64 0], rfl, rfl, by simp only [↓reduceIte, eq_self], ?_⟩
    simp only [vsAll, Nat.reduceLT, ↓reduceIte, eq_self, hh_i7]
    refine dropR_pure ?_ (by (repeat (first | exact HSub_rfl | refine HSub_put_eq (by simp only [vsAll, binA, binLitA, intA, aggA, boolA, nilA2, isConst, unA, loadA, loadRow, partA, partOk, fieldAddrA, indexAddrA, indexA, fieldA, extractA, lenA, nilCheckA, boxA, cellA, cellsA, fillA, okParts, buildSliceA, partIdx, elemsA, lensA, ifaceA, convA, mmA, pickA, okAll, stAll, opsA, partsA, partsOk, opA, allocA, boxMutA, newCells, okCells, storeObj, appendA, guardV, taA, nM, mapUpA, lookA, sliceA, boundsA, opO, okO, copyA, dstOk, nilA, quietOk, nilSliceOp, panA, resA, argFr, retA.eq_1, retA.eq_2, Nat.reduceAdd, Nat.reduceSub, Nat.reduceMul, Nat.reduceLT, Nat.reduceLeDiff, Nat.reduceEqDiff, Nat.reduceBEq, Int.reduceAdd, Int.reduceSub, Int.reduceMul, Int.reduceNeg, Int.reduceLE, Int.reduceLT, Int.reduceEq, Int.reduceNe, Int.reduceToNat, ↓reduceIte, reduceCtorEq, implies_true, forall_const, eq_self, ne_eq, wtAll, Try.ntmps24, Try.results24, hh_i6, hh_i7]) ?_ | refine HSub_drop2 (by simp only [eq_self, hh_i6, hh_i7]) ?_ | refine HSub_keep_eq (by simp only [vsAll, binA, binLitA, intA, aggA, boolA, nilA2, isConst, unA, loadA, loadRow, partA, partOk, fieldAddrA, indexAddrA, indexA, fieldA, extractA, lenA, nilCheckA, boxA, cellA, cellsA, fillA, okParts, buildSliceA, partIdx, elemsA, lensA, ifaceA, convA, mmA, pickA, okAll, stAll, opsA, partsA, partsOk, opA, allocA, boxMutA, newCells, okCells, storeObj, appendA, guardV, taA, nM, mapUpA, lookA, sliceA, boundsA, opO, okO, copyA, dstOk, nilA, quietOk, nilSliceOp, panA, resA, argFr, retA.eq_1, retA.eq_2, Nat.reduceAdd, Nat.reduceSub, Nat.reduceMul, Nat.reduceLT, Nat.reduceLeDiff, Nat.reduceEqDiff, Nat.reduceBEq, Int.reduceAdd, Int.reduceSub, Int.reduceMul, Int.reduceNeg, Int.reduceLE, Int.reduceLT, Int.reduceEq, Int.reduceNe, Int.reduceToNat, ↓reduceIte, reduceCtorEq, implies_true, forall_const, eq_self, ne_eq, wtAll, Try.ntmps24, Try.results24, hh_i6, hh_i7]) ?_)))
    simp only [Int.reduceEq, ↓reduceIte, eq_self, rodV, e]
  · have e : rodE h t p = 2 := by unfold rodE; rw [hv]; exact errE_bad hk _
    simp only [vsAll, loadA, loadRow, partA, partOk, resA, retA.eq_2, Nat.reduceEqDiff, ↓reduceIte, eq_self, wtAll, Try.results24, hh_i7]
    refine ⟨2, i7, fun _ => [i64 0], rfl, rfl, by simp only [↓reduceIte, eq_self], ?_⟩
    simp only [vsAll, Nat.reduceLT, ↓reduceIte, eq_self, hh_i7]
    refine dropR_pure ?_ (by (repeat (first | exact HSub_rfl | refine HSub_put_eq (by simp only [vsAll, binA, binLitA, intA, aggA, boolA, nilA2, isConst, unA, loadA, loadRow, partA, partOk, fieldAddrA, indexAddrA, indexA, fieldA, extractA, lenA, nilCheckA, boxA, cellA, cellsA, fillA, okParts, buildSliceA, partIdx, elemsA, lensA, ifaceA, convA, mmA, pickA, okAll, stAll, opsA, partsA, partsOk, opA, allocA, boxMutA, newCells, okCells, storeObj, appendA, guardV, taA, nM, mapUpA, lookA, sliceA, boundsA, opO, okO, copyA, dstOk, nilA, quietOk, nilSliceOp, panA, resA, argFr, retA.eq_1, retA.eq_2, Nat.reduceAdd, Nat.reduceSub, Nat.reduceMul, Nat.reduceLT, Nat.reduceLeDiff, Nat.reduceEqDiff, Nat.reduceBEq, Int.reduceAdd, Int.reduceSub, Int.reduceMul, Int.reduceNeg, Int.reduceLE, Int.reduceLT, Int.reduceEq, Int.reduceNe, Int.reduceToNat, ↓reduceIte, reduceCtorEq, implies_true, forall_const, eq_self, ne_eq, wtAll, Try.ntmps24, Try.results24, hh_i6, hh_i7]) ?_ | refine HSub_drop2 (by simp only [eq_self, hh_i6, hh_i7]) ?_ | refine HSub_keep_eq (by simp only [vsAll, binA, binLitA, intA, aggA, boolA, nilA2, isConst, unA, loadA, loadRow, partA, partOk, fieldAddrA, indexAddrA, indexA, fieldA, extractA, lenA, nilCheckA, boxA, cellA, cellsA, fillA, okParts, buildSliceA, partIdx, elemsA, lensA, ifaceA, convA, mmA, pickA, okAll, stAll, opsA, partsA, partsOk, opA, allocA, boxMutA, newCells, okCells, storeObj, appendA, guardV, taA, nM, mapUpA, lookA, sliceA, boundsA, opO, okO, copyA, dstOk, nilA, quietOk, nilSliceOp, panA, resA, argFr, retA.eq_1, retA.eq_2, Nat.reduceAdd, Nat.reduceSub, Nat.reduceMul, Nat.reduceLT, Nat.reduceLeDiff, Nat.reduceEqDiff, Nat.reduceBEq, Int.reduceAdd, Int.reduceSub, Int.reduceMul, Int.reduceNeg, Int.reduceLE, Int.reduceLT, Int.reduceEq, Int.reduceNe, Int.reduceToNat, ↓reduceIte, reduceCtorEq, implies_true, forall_const, eq_self, ne_eq, wtAll, Try.ntmps24, Try.results24, hh_i6, hh_i7]) ?_)))
    simp only [Int.reduceEq, ↓reduceIte, eq_self, rodV, e]
  · intro id hh_id; (try simp only [Hp.set_none] at hh_id)
    simp only [vsAll, cellA, cellsA, fillA, okParts, partsA, partsOk, opA, allocA, newCells, okCells, storeObj, dstOk, nilSliceOp, Nat.reduceAdd, Nat.reduceLT, Nat.reduceLeDiff, Nat.reduceEqDiff, ↓reduceIte, eq_self, wtAll]
    intro i9 hh_i9; (try simp only [ite_none] at hh_i9)
    refine vs_draw2 [0, 0, 1, 0, 0, 2] [([0, 1, 3, 4], [3, 4], 2)] [5] (by decide +kernel) ?_
    simp only [vsAll, loadA, loadRow, partA, partOk, okAll, stAll, opsA, opA, dstOk, Nat.reduceLT, Nat.reduceEqDiff, ↓reduceIte, eq_self, wtAll]
    refine told_call hk (by simp only [vsAll, ↓reduceIte, eq_self, hh_i9]) (fun hs => ?_) (fun hs => ?_)
    · have e : rodE h t p = 0 := by unfold rodE; rw [hv]; exact errE_told hk hs
      have hl := (told_some h).1 hs
      simp only [Bool.and_eq_true, tiltB_iff, partB_iff] at hv
      simp only [vsAll, loadA, loadRow, partA, partOk, opA, dstOk, Nat.reduceLT, Nat.reduceEqDiff, ↓reduceIte, eq_self, wtAll]
      refine qcall _ ⟨trivial, by simp only [vsAll, okAll, opsA, opA, Nat.reduceEqDiff, ↓reduceIte, eq_self], each_tri h id (toldB h) t p _⟩ ?_
      simp only [vsAll]
      refine vs_range (eachL h (toldB h) t p) (fun i => ((((H.set i6 (.box 2 1 fun _ => [i64 0, i64 0])).set i7 (.box 1 1 fun _ => [i64 0])).set id (.memo (memoF h))).set i9 (.box 2 1 fun _ => [i64 (rk h t p i).1, i64 (rk h t p i).2])))
        (fun H => H id = some (.memo (memoF h))) Try.func98 (by kernel_rfl) rfl (by simp only [vsAll, opA, ↓reduceIte, eq_self]) (by simp only [vsAll, opA, ↓reduceIte, eq_self]) (by decide) (by rw [each_all]; simp) (each1_tri h id (toldB h) t p hk hv.1 hv.2) ?_ ?_ ?_ ?_ ?_
      · simp only [rk, Hp.set_set]
      · intro i x hx; simp only [Hp.set_none] at hx ⊢; exact hx.2
      · intro i lid did o1 o2 h1 h2
        simp only [Hp.set_none] at h1 h2
        simp only [vsAll, ↓reduceIte, eq_self, hh_i9, h1, h2]
      · intro i x hx lid did l lo h1 h2 h3
        simp only [Hp.set_none] at h1 h2
        have h4 : ¬ did = lid := fun e => h3 e.symm
        skip
        obtain ⟨hi, rfl⟩ := each_get hx
        have hxa := allA_le hi
        have hr := dz_150 h ((allA h).getD i 0 : Nat) t p hk (by ((try clear hh_i6); (try clear hh_i7); (try clear hh_id); (try clear hh_i9); (try clear h1); (try clear h2); (try clear h3); (try clear h4); omega)) hv.1 hv.2
        simp only [vsAll, loadA, loadRow, partA, partOk, fieldAddrA, cellA, cellsA, fillA, okParts, mmA, okAll, stAll, opsA, partsA, partsOk, opA, newCells, okCells, storeObj, dstOk, quietOk, nilSliceOp, Nat.reduceAdd, Nat.reduceLT, Nat.reduceLeDiff, Nat.reduceEqDiff, ↓reduceIte, eq_self, wtAll, h1, h2]
        refine ⟨⟨_, _, rfl⟩, ?_⟩
        simp only [rk]; (repeat (first | exact HSub_rfl | refine HSub_put_eq (by simp only [vsAll, ↓reduceIte, eq_self, hh_i7, hh_id, hh_i9, h1, h2, h4]) ?_ | refine HSub_drop2 (by simp only [eq_self, hh_i6, hh_i7, hh_id, hh_i9, h1, h2]) ?_ | refine HSub_keep_eq (by simp only [vsAll, binA, binLitA, intA, aggA, boolA, nilA2, isConst, unA, loadA, loadRow, partA, partOk, fieldAddrA, indexAddrA, indexA, fieldA, extractA, lenA, nilCheckA, boxA, cellA, cellsA, fillA, okParts, buildSliceA, partIdx, elemsA, lensA, ifaceA, convA, mmA, pickA, okAll, stAll, opsA, partsA, partsOk, opA, allocA, boxMutA, newCells, okCells, storeObj, appendA, guardV, taA, nM, mapUpA, lookA, sliceA, boundsA, opO, okO, copyA, dstOk, nilA, quietOk, nilSliceOp, panA, resA, argFr, retA.eq_1, retA.eq_2, Nat.reduceAdd, Nat.reduceSub, Nat.reduceMul, Nat.reduceLT, Nat.reduceLeDiff, Nat.reduceEqDiff, Nat.reduceBEq, Int.reduceAdd, Int.reduceSub, Int.reduceMul, Int.reduceNeg, Int.reduceLE, Int.reduceLT, Int.reduceEq, Int.reduceNe, Int.reduceToNat, ↓reduceIte, reduceCtorEq, implies_true, forall_const, eq_self, ne_eq, wtAll, Try.ntmps24, Try.results24, hh_i6, hh_i7, hh_id, hh_i9, h1, h2, h3, h4]) ?_))
      · intro lid did lo h1 h2 h3
        simp only [Hp.set_none] at h1 h2
        have h4 : ¬ did = lid := fun e => h3 e.symm
        skip
        have el : (eachL h (toldB h) t p).length = (allA h).length := by rw [each_all]; simp
        have er : rk h t p (allA h).length = rodV h t p := by
          rw [rodV, if_pos e]
          obtain ⟨q, hq⟩ : ∃ q, (allA h).length = q + 1 := ⟨(allA h).length - 1, by ((try clear hh_i6); (try clear hh_i7); (try clear hh_id); (try clear hh_i9); (try clear h1); (try clear h2); (try clear h3); (try clear h4); omega)⟩
          rw [hq]; exact rk_rod h t p hk hv.1 hv.2 q (by ((try clear hh_i6); (try clear hh_i7); (try clear hh_id); (try clear hh_i9); (try clear h1); (try clear h2); (try clear h3); (try clear h4); omega))
        rw [el, er]
        simp only [vsAll, loadA, loadRow, partA, partOk, cellA, cellsA, opA, newCells, okCells, storeObj, dstOk, resA, retA.eq_2, Nat.reduceAdd, Nat.reduceLT, Nat.reduceEqDiff, ↓reduceIte, eq_self, wtAll, Try.results24, hh_i7, hh_id, hh_i9, h1, h2, h4]
        refine ⟨i7, fun _ => [i64 0], rfl, by simp only [↓reduceIte, eq_self, h2], ?_⟩
        refine dropR_pure ?_ (by (repeat (first | exact HSub_rfl | refine HSub_put_eq (by simp only [vsAll, binA, binLitA, intA, aggA, boolA, nilA2, isConst, unA, loadA, loadRow, partA, partOk, fieldAddrA, indexAddrA, indexA, fieldA, extractA, lenA, nilCheckA, boxA, cellA, cellsA, fillA, okParts, buildSliceA, partIdx, elemsA, lensA, ifaceA, convA, mmA, pickA, okAll, stAll, opsA, partsA, partsOk, opA, allocA, boxMutA, newCells, okCells, storeObj, appendA, guardV, taA, nM, mapUpA, lookA, sliceA, boundsA, opO, okO, copyA, dstOk, nilA, quietOk, nilSliceOp, panA, resA, argFr, retA.eq_1, retA.eq_2, Nat.reduceAdd, Nat.reduceSub, Nat.reduceMul, Nat.reduceLT, Nat.reduceLeDiff, Nat.reduceEqDiff, Nat.reduceBEq, Int.reduceAdd, Int.reduceSub, Int.reduceMul, Int.reduceNeg, Int.reduceLE, Int.reduceLT, Int.reduceEq, Int.reduceNe, Int.reduceToNat, ↓reduceIte, reduceCtorEq, implies_true, forall_const, eq_self, ne_eq, wtAll, Try.ntmps24, Try.results24, hh_i6, hh_i7, hh_id, hh_i9, h1, h2, h3, h4]) ?_ | refine HSub_drop2 (by simp only [eq_self, hh_i6, hh_i7, hh_id, hh_i9, h1, h2]) ?_ | refine HSub_keep_eq (by simp only [vsAll, binA, binLitA, intA, aggA, boolA, nilA2, isConst, unA, loadA, loadRow, partA, partOk, fieldAddrA, indexAddrA, indexA, fieldA, extractA, lenA, nilCheckA, boxA, cellA, cellsA, fillA, okParts, buildSliceA, partIdx, elemsA, lensA, ifaceA, convA, mmA, pickA, okAll, stAll, opsA, partsA, partsOk, opA, allocA, boxMutA, newCells, okCells, storeObj, appendA, guardV, taA, nM, mapUpA, lookA, sliceA, boundsA, opO, okO, copyA, dstOk, nilA, quietOk, nilSliceOp, panA, resA, argFr, retA.eq_1, retA.eq_2, Nat.reduceAdd, Nat.reduceSub, Nat.reduceMul, Nat.reduceLT, Nat.reduceLeDiff, Nat.reduceEqDiff, Nat.reduceBEq, Int.reduceAdd, Int.reduceSub, Int.reduceMul, Int.reduceNeg, Int.reduceLE, Int.reduceLT, Int.reduceEq, Int.reduceNe, Int.reduceToNat, ↓reduceIte, reduceCtorEq, implies_true, forall_const, eq_self, ne_eq, wtAll, Try.ntmps24, Try.results24, hh_i6, hh_i7, hh_id, hh_i9, h1, h2, h3, h4]) ?_)))
        simp only [eq_self, e]
    · have e : rodE h t p = 10 := by unfold rodE; rw [hv]; exact errE_clash hk hs
      simp only [vsAll, loadA, loadRow, partA, partOk, resA, retA.eq_2, Nat.reduceEqDiff, ↓reduceIte, eq_self, wtAll, Try.results24, hh_i7, hh_id, hh_i9]
      refine ⟨10, i7, fun _ => [i64 0], rfl, rfl, by simp only [↓reduceIte, eq_self, hh_id, hh_i9], ?_⟩
      simp only [vsAll, Nat.reduceLT, ↓reduceIte, eq_self, hh_i7]
      refine dropR_pure ?_ (by (repeat (first | exact HSub_rfl | refine HSub_put_eq (by simp only [vsAll, binA, binLitA, intA, aggA, boolA, nilA2, isConst, unA, loadA, loadRow, partA, partOk, fieldAddrA, indexAddrA, indexA, fieldA, extractA, lenA, nilCheckA, boxA, cellA, cellsA, fillA, okParts, buildSliceA, partIdx, elemsA, lensA, ifaceA, convA, mmA, pickA, okAll, stAll, opsA, partsA, partsOk, opA, allocA, boxMutA, newCells, okCells, storeObj, appendA, guardV, taA, nM, mapUpA, lookA, sliceA, boundsA, opO, okO, copyA, dstOk, nilA, quietOk, nilSliceOp, panA, resA, argFr, retA.eq_1, retA.eq_2, Nat.reduceAdd, Nat.reduceSub, Nat.reduceMul, Nat.reduceLT, Nat.reduceLeDiff, Nat.reduceEqDiff, Nat.reduceBEq, Int.reduceAdd, Int.reduceSub, Int.reduceMul, Int.reduceNeg, Int.reduceLE, Int.reduceLT, Int.reduceEq, Int.reduceNe, Int.reduceToNat, ↓reduceIte, reduceCtorEq, implies_true, forall_const, eq_self, ne_eq, wtAll, Try.ntmps24, Try.results24, hh_i6, hh_i7, hh_id, hh_i9]) ?_ | refine HSub_drop2 (by simp only [eq_self, hh_i6, hh_i7, hh_id, hh_i9]) ?_ | refine HSub_keep_eq (by simp only [vsAll, binA, binLitA, intA, aggA, boolA, nilA2, isConst, unA, loadA, loadRow, partA, partOk, fieldAddrA, indexAddrA, indexA, fieldA, extractA, lenA, nilCheckA, boxA, cellA, cellsA, fillA, okParts, buildSliceA, partIdx, elemsA, lensA, ifaceA, convA, mmA, pickA, okAll, stAll, opsA, partsA, partsOk, opA, allocA, boxMutA, newCells, okCells, storeObj, appendA, guardV, taA, nM, mapUpA, lookA, sliceA, boundsA, opO, okO, copyA, dstOk, nilA, quietOk, nilSliceOp, panA, resA, argFr, retA.eq_1, retA.eq_2, Nat.reduceAdd, Nat.reduceSub, Nat.reduceMul, Nat.reduceLT, Nat.reduceLeDiff, Nat.reduceEqDiff, Nat.reduceBEq, Int.reduceAdd, Int.reduceSub, Int.reduceMul, Int.reduceNeg, Int.reduceLE, Int.reduceLT, Int.reduceEq, Int.reduceNe, Int.reduceToNat, ↓reduceIte, reduceCtorEq, implies_true, forall_const, eq_self, ne_eq, wtAll, Try.ntmps24, Try.results24, hh_i6, hh_i7, hh_id, hh_i9]) ?_)))
      simp only [Int.reduceEq, ↓reduceIte, eq_self, rodV, e]

end Go.Proofs.Ytdeollnepclhaaa
end
