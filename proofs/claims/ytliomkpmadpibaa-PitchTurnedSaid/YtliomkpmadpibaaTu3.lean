/- Helper lemmas of this claim, part 3. -/
import Derived.Test.YtliomkpmadpibaaChecked
import Derived.ChangeSame
import Derived.JoinedOf
import Derived.ProofKit
import Derived.Handed
import Derived.Test.YtliomkpmadpibaaTu2
section
namespace Go.Proofs.Ytliomkpmadpibaa
open Go.V
theorem boolT4 : boolT Try.prog 4 = true := by kernel_rfl
theorem ifcT20 : ifcT Try.prog 20 = true := by kernel_rfl
theorem ifcT129 : ifcT Try.prog 129 = true := by kernel_rfl
theorem ifcT130 : ifcT Try.prog 130 = true := by kernel_rfl
theorem zT1 : zT Try.prog 1 = false := by kernel_rfl
theorem szT1 : szT Try.prog 1 = some (1, false) := by kernel_rfl
theorem arT1 : arT Try.prog 1 = none := by kernel_rfl
theorem conc1 : Program.concrete Try.prog 1 = true := by kernel_rfl
theorem zT2 : zT Try.prog 2 = false := by kernel_rfl
theorem szT2 : szT Try.prog 2 = some (1, false) := by kernel_rfl
theorem arT2 : arT Try.prog 2 = none := by kernel_rfl
theorem conc2 : Program.concrete Try.prog 2 = true := by kernel_rfl
theorem undS2 : (Program.underlying Try.prog 2).isSome = true := by kernel_rfl
theorem intT2 : intT Try.prog 2 = some .i64 := by kernel_rfl
theorem elT2 : elT Try.prog 2 = none := by kernel_rfl
theorem azT2 : azT Try.prog 2 = some (1, 1, [.int .i64 0]) := by kernel_rfl
theorem zeroT2 : zeroT Try.prog 2 = some [.int .i64 0] := by kernel_rfl
theorem zT3 : zT Try.prog 3 = false := by kernel_rfl
theorem szT3 : szT Try.prog 3 = some (1, false) := by kernel_rfl
theorem arT3 : arT Try.prog 3 = none := by kernel_rfl
theorem conc3 : Program.concrete Try.prog 3 = true := by kernel_rfl
theorem undS3 : (Program.underlying Try.prog 3).isSome = true := by kernel_rfl
theorem intT3 : intT Try.prog 3 = some .i64 := by kernel_rfl
theorem elT3 : elT Try.prog 3 = none := by kernel_rfl
theorem azT3 : azT Try.prog 3 = some (1, 1, [.int .i64 0]) := by kernel_rfl
theorem zeroT3 : zeroT Try.prog 3 = some [.int .i64 0] := by kernel_rfl
theorem zT4 : zT Try.prog 4 = false := by kernel_rfl
theorem szT4 : szT Try.prog 4 = some (1, false) := by kernel_rfl
theorem arT4 : arT Try.prog 4 = none := by kernel_rfl
theorem conc4 : Program.concrete Try.prog 4 = true := by kernel_rfl
theorem undS4 : (Program.underlying Try.prog 4).isSome = true := by kernel_rfl
theorem elT4 : elT Try.prog 4 = none := by kernel_rfl
theorem azT4 : azT Try.prog 4 = some (1, 1, [.bool false]) := by kernel_rfl
theorem zeroT4 : zeroT Try.prog 4 = some [.bool false] := by kernel_rfl
theorem zT5 : zT Try.prog 5 = false := by kernel_rfl
theorem szT5 : szT Try.prog 5 = some (1, false) := by kernel_rfl
theorem arT5 : arT Try.prog 5 = none := by kernel_rfl
theorem conc5 : Program.concrete Try.prog 5 = true := by kernel_rfl
theorem undS5 : (Program.underlying Try.prog 5).isSome = true := by kernel_rfl
theorem intT5 : intT Try.prog 5 = some .u8 := by kernel_rfl
theorem elT5 : elT Try.prog 5 = none := by kernel_rfl
theorem azT5 : azT Try.prog 5 = some (1, 1, [.int .u8 0]) := by kernel_rfl
theorem zeroT5 : zeroT Try.prog 5 = some [.int .u8 0] := by kernel_rfl
theorem zT12 : zT Try.prog 12 = false := by kernel_rfl
theorem szT12 : szT Try.prog 12 = some (1, false) := by kernel_rfl
theorem arT12 : arT Try.prog 12 = none := by kernel_rfl
theorem conc12 : Program.concrete Try.prog 12 = true := by kernel_rfl
theorem undS12 : (Program.underlying Try.prog 12).isSome = true := by kernel_rfl
theorem intT12 : intT Try.prog 12 = some .u64 := by kernel_rfl
theorem elT12 : elT Try.prog 12 = none := by kernel_rfl
theorem azT12 : azT Try.prog 12 = some (1, 1, [.int .u64 0]) := by kernel_rfl
theorem zeroT12 : zeroT Try.prog 12 = some [.int .u64 0] := by kernel_rfl
theorem zT13 : zT Try.prog 13 = false := by kernel_rfl
theorem szT13 : szT Try.prog 13 = some (2, true) := by kernel_rfl
theorem arT13 : arT Try.prog 13 = none := by kernel_rfl
theorem conc13 : Program.concrete Try.prog 13 = true := by kernel_rfl
theorem undS13 : (Program.underlying Try.prog 13).isSome = true := by kernel_rfl
theorem elT13 : elT Try.prog 13 = none := by kernel_rfl
theorem azT13 : azT Try.prog 13 = some (2, 1, [.string .empty, .int .u64 0]) := by kernel_rfl
theorem zeroT13 : zeroT Try.prog 13 = some [.string .empty, .int .u64 0] := by kernel_rfl
theorem bT13 : bT Try.prog 13 = true := by kernel_rfl
theorem fldT13_0 : fldT Try.prog 13 0 = some (0, 1, false) := by kernel_rfl
theorem fldT13_1 : fldT Try.prog 13 1 = some (1, 1, false) := by kernel_rfl
theorem zT20 : zT Try.prog 20 = false := by kernel_rfl
theorem szT20 : szT Try.prog 20 = some (1, false) := by kernel_rfl
theorem arT20 : arT Try.prog 20 = none := by kernel_rfl
theorem zT21 : zT Try.prog 21 = false := by kernel_rfl
theorem szT21 : szT Try.prog 21 = some (1, false) := by kernel_rfl
theorem arT21 : arT Try.prog 21 = none := by kernel_rfl
theorem conc21 : Program.concrete Try.prog 21 = true := by kernel_rfl
theorem undS21 : (Program.underlying Try.prog 21).isSome = true := by kernel_rfl
theorem intT21 : intT Try.prog 21 = some .i32 := by kernel_rfl
theorem elT21 : elT Try.prog 21 = none := by kernel_rfl
theorem azT21 : azT Try.prog 21 = some (1, 1, [.int .i32 0]) := by kernel_rfl
theorem zeroT21 : zeroT Try.prog 21 = some [.int .i32 0] := by kernel_rfl
theorem zT22 : zT Try.prog 22 = false := by kernel_rfl
theorem szT22 : szT Try.prog 22 = some (1, false) := by kernel_rfl
theorem arT22 : arT Try.prog 22 = none := by kernel_rfl
theorem conc22 : Program.concrete Try.prog 22 = true := by kernel_rfl
theorem undS22 : (Program.underlying Try.prog 22).isSome = true := by kernel_rfl
theorem elT22 : elT Try.prog 22 = some (1, false) := by kernel_rfl
theorem elB22 : elB Try.prog 22 = some (1, 8) := by kernel_rfl
theorem bsT22 : bsT Try.prog 22 = some 1 := by kernel_rfl
theorem mkT22 : mkT Try.prog 22 = some (1, 8, [.int .i64 0]) := by kernel_rfl
theorem azT22 : azT Try.prog 22 = some (1, 1, [.slice none 0 0]) := by kernel_rfl
theorem zeroT22 : zeroT Try.prog 22 = some [.slice none 0 0] := by kernel_rfl
theorem zT23 : zT Try.prog 23 = false := by kernel_rfl
theorem szT23 : szT Try.prog 23 = some (1, false) := by kernel_rfl
theorem arT23 : arT Try.prog 23 = none := by kernel_rfl
theorem conc23 : Program.concrete Try.prog 23 = true := by kernel_rfl
theorem undS23 : (Program.underlying Try.prog 23).isSome = true := by kernel_rfl
theorem elT23 : elT Try.prog 23 = some (3, true) := by kernel_rfl
theorem elB23 : elB Try.prog 23 = some (3, 24) := by kernel_rfl
theorem bsT23 : bsT Try.prog 23 = some 3 := by kernel_rfl
theorem mkT23 : mkT Try.prog 23 = some (3, 24, [.int .i64 0, .int .i64 0, .int .i64 0]) := by kernel_rfl
theorem azT23 : azT Try.prog 23 = some (1, 1, [.slice none 0 0]) := by kernel_rfl
theorem zeroT23 : zeroT Try.prog 23 = some [.slice none 0 0] := by kernel_rfl
theorem zT24 : zT Try.prog 24 = false := by kernel_rfl
theorem szT24 : szT Try.prog 24 = some (5, true) := by kernel_rfl
theorem arT24 : arT Try.prog 24 = none := by kernel_rfl
theorem conc24 : Program.concrete Try.prog 24 = true := by kernel_rfl
theorem undS24 : (Program.underlying Try.prog 24).isSome = true := by kernel_rfl
theorem elT24 : elT Try.prog 24 = none := by kernel_rfl
theorem azT24 : azT Try.prog 24 = some (5, 1, [.int .i64 0, .int .i64 0, .int .i64 0, .slice none 0 0, .slice none 0 0]) := by kernel_rfl
theorem zeroT24 : zeroT Try.prog 24 = some [.int .i64 0, .int .i64 0, .int .i64 0, .slice none 0 0, .slice none 0 0] := by kernel_rfl
theorem bT24 : bT Try.prog 24 = true := by kernel_rfl
theorem fldT24_0 : fldT Try.prog 24 0 = some (0, 1, false) := by kernel_rfl
theorem fldT24_1 : fldT Try.prog 24 1 = some (1, 1, false) := by kernel_rfl
theorem fldT24_2 : fldT Try.prog 24 2 = some (2, 1, false) := by kernel_rfl
theorem fldT24_3 : fldT Try.prog 24 3 = some (3, 1, false) := by kernel_rfl
theorem fldT24_4 : fldT Try.prog 24 4 = some (4, 1, false) := by kernel_rfl
theorem zT25 : zT Try.prog 25 = false := by kernel_rfl
theorem szT25 : szT Try.prog 25 = some (5, true) := by kernel_rfl
theorem arT25 : arT Try.prog 25 = none := by kernel_rfl
theorem conc25 : Program.concrete Try.prog 25 = true := by kernel_rfl
theorem undS25 : (Program.underlying Try.prog 25).isSome = true := by kernel_rfl
theorem elT25 : elT Try.prog 25 = none := by kernel_rfl
theorem azT25 : azT Try.prog 25 = some (5, 1, [.int .i64 0, .int .i64 0, .int .i64 0, .slice none 0 0, .slice none 0 0]) := by kernel_rfl
theorem zeroT25 : zeroT Try.prog 25 = some [.int .i64 0, .int .i64 0, .int .i64 0, .slice none 0 0, .slice none 0 0] := by kernel_rfl
theorem bT25 : bT Try.prog 25 = true := by kernel_rfl
theorem fldT25_0 : fldT Try.prog 25 0 = some (0, 1, false) := by kernel_rfl
theorem fldT25_1 : fldT Try.prog 25 1 = some (1, 1, false) := by kernel_rfl
theorem fldT25_2 : fldT Try.prog 25 2 = some (2, 1, false) := by kernel_rfl
theorem fldT25_3 : fldT Try.prog 25 3 = some (3, 1, false) := by kernel_rfl
theorem fldT25_4 : fldT Try.prog 25 4 = some (4, 1, false) := by kernel_rfl
theorem zT26 : zT Try.prog 26 = false := by kernel_rfl
theorem szT26 : szT Try.prog 26 = some (1, false) := by kernel_rfl
theorem arT26 : arT Try.prog 26 = none := by kernel_rfl
theorem conc26 : Program.concrete Try.prog 26 = true := by kernel_rfl
theorem undS26 : (Program.underlying Try.prog 26).isSome = true := by kernel_rfl
theorem elT26 : elT Try.prog 26 = some (2, true) := by kernel_rfl
theorem elB26 : elB Try.prog 26 = some (2, 16) := by kernel_rfl
theorem bsT26 : bsT Try.prog 26 = some 2 := by kernel_rfl
theorem mkT26 : mkT Try.prog 26 = some (2, 16, [.int .i64 0, .int .i64 0]) := by kernel_rfl
theorem azT26 : azT Try.prog 26 = some (1, 1, [.slice none 0 0]) := by kernel_rfl
theorem zeroT26 : zeroT Try.prog 26 = some [.slice none 0 0] := by kernel_rfl
theorem zT27 : zT Try.prog 27 = false := by kernel_rfl
theorem szT27 : szT Try.prog 27 = some (1, false) := by kernel_rfl
theorem arT27 : arT Try.prog 27 = none := by kernel_rfl
theorem conc27 : Program.concrete Try.prog 27 = true := by kernel_rfl
theorem zT28 : zT Try.prog 28 = false := by kernel_rfl
theorem szT28 : szT Try.prog 28 = some (1, false) := by kernel_rfl
theorem arT28 : arT Try.prog 28 = none := by kernel_rfl
theorem conc28 : Program.concrete Try.prog 28 = true := by kernel_rfl
theorem zT29 : zT Try.prog 29 = false := by kernel_rfl
theorem szT29 : szT Try.prog 29 = some (2, true) := by kernel_rfl
theorem arT29 : arT Try.prog 29 = none := by kernel_rfl
theorem conc29 : Program.concrete Try.prog 29 = true := by kernel_rfl
theorem undS29 : (Program.underlying Try.prog 29).isSome = true := by kernel_rfl
theorem elT29 : elT Try.prog 29 = none := by kernel_rfl
theorem azT29 : azT Try.prog 29 = some (2, 1, [.int .i64 0, .int .i64 0]) := by kernel_rfl
theorem zeroT29 : zeroT Try.prog 29 = some [.int .i64 0, .int .i64 0] := by kernel_rfl
theorem bT29 : bT Try.prog 29 = true := by kernel_rfl
theorem fldT29_0 : fldT Try.prog 29 0 = some (0, 1, false) := by kernel_rfl
theorem fldT29_1 : fldT Try.prog 29 1 = some (1, 1, false) := by kernel_rfl
theorem zT30 : zT Try.prog 30 = false := by kernel_rfl
theorem szT30 : szT Try.prog 30 = some (2, true) := by kernel_rfl
theorem arT30 : arT Try.prog 30 = none := by kernel_rfl
theorem conc30 : Program.concrete Try.prog 30 = true := by kernel_rfl
theorem undS30 : (Program.underlying Try.prog 30).isSome = true := by kernel_rfl
theorem elT30 : elT Try.prog 30 = none := by kernel_rfl
theorem azT30 : azT Try.prog 30 = some (2, 1, [.int .i64 0, .int .i64 0]) := by kernel_rfl
theorem zeroT30 : zeroT Try.prog 30 = some [.int .i64 0, .int .i64 0] := by kernel_rfl
theorem bT30 : bT Try.prog 30 = true := by kernel_rfl
theorem fldT30_0 : fldT Try.prog 30 0 = some (0, 1, false) := by kernel_rfl
theorem fldT30_1 : fldT Try.prog 30 1 = some (1, 1, false) := by kernel_rfl
theorem zT31 : zT Try.prog 31 = false := by kernel_rfl
theorem szT31 : szT Try.prog 31 = some (1, false) := by kernel_rfl
theorem arT31 : arT Try.prog 31 = none := by kernel_rfl
theorem conc31 : Program.concrete Try.prog 31 = true := by kernel_rfl
theorem undS31 : (Program.underlying Try.prog 31).isSome = true := by kernel_rfl
theorem intT31 : intT Try.prog 31 = some .i64 := by kernel_rfl
theorem elT31 : elT Try.prog 31 = none := by kernel_rfl
theorem azT31 : azT Try.prog 31 = some (1, 1, [.int .i64 0]) := by kernel_rfl
theorem zeroT31 : zeroT Try.prog 31 = some [.int .i64 0] := by kernel_rfl
theorem zT33 : zT Try.prog 33 = false := by kernel_rfl
theorem szT33 : szT Try.prog 33 = some (1, false) := by kernel_rfl
theorem arT33 : arT Try.prog 33 = none := by kernel_rfl
theorem conc33 : Program.concrete Try.prog 33 = true := by kernel_rfl
theorem zT35 : zT Try.prog 35 = false := by kernel_rfl
theorem szT35 : szT Try.prog 35 = some (1, false) := by kernel_rfl
theorem arT35 : arT Try.prog 35 = none := by kernel_rfl
theorem conc35 : Program.concrete Try.prog 35 = true := by kernel_rfl
theorem zT37 : zT Try.prog 37 = false := by kernel_rfl
theorem szT37 : szT Try.prog 37 = some (1, false) := by kernel_rfl
theorem arT37 : arT Try.prog 37 = none := by kernel_rfl
theorem conc37 : Program.concrete Try.prog 37 = true := by kernel_rfl
theorem zT38 : zT Try.prog 38 = false := by kernel_rfl
theorem szT38 : szT Try.prog 38 = some (1, false) := by kernel_rfl
theorem arT38 : arT Try.prog 38 = none := by kernel_rfl
theorem conc38 : Program.concrete Try.prog 38 = true := by kernel_rfl
theorem zT39 : zT Try.prog 39 = false := by kernel_rfl
theorem szT39 : szT Try.prog 39 = some (1, false) := by kernel_rfl
theorem arT39 : arT Try.prog 39 = none := by kernel_rfl
theorem conc39 : Program.concrete Try.prog 39 = true := by kernel_rfl
theorem zT40 : zT Try.prog 40 = false := by kernel_rfl
theorem szT40 : szT Try.prog 40 = some (1, false) := by kernel_rfl
theorem arT40 : arT Try.prog 40 = none := by kernel_rfl
theorem conc40 : Program.concrete Try.prog 40 = true := by kernel_rfl
theorem zT42 : zT Try.prog 42 = false := by kernel_rfl
theorem szT42 : szT Try.prog 42 = some (1, false) := by kernel_rfl
theorem arT42 : arT Try.prog 42 = none := by kernel_rfl
theorem conc42 : Program.concrete Try.prog 42 = true := by kernel_rfl
theorem zT43 : zT Try.prog 43 = false := by kernel_rfl
theorem szT43 : szT Try.prog 43 = some (1, false) := by kernel_rfl
theorem arT43 : arT Try.prog 43 = none := by kernel_rfl
theorem conc43 : Program.concrete Try.prog 43 = true := by kernel_rfl
theorem zT44 : zT Try.prog 44 = false := by kernel_rfl
theorem szT44 : szT Try.prog 44 = some (1, false) := by kernel_rfl
theorem arT44 : arT Try.prog 44 = none := by kernel_rfl
theorem conc44 : Program.concrete Try.prog 44 = true := by kernel_rfl
theorem zT45 : zT Try.prog 45 = false := by kernel_rfl
theorem szT45 : szT Try.prog 45 = some (1, false) := by kernel_rfl
theorem arT45 : arT Try.prog 45 = none := by kernel_rfl
theorem conc45 : Program.concrete Try.prog 45 = true := by kernel_rfl
theorem zT46 : zT Try.prog 46 = false := by kernel_rfl
theorem szT46 : szT Try.prog 46 = some (1, false) := by kernel_rfl
theorem arT46 : arT Try.prog 46 = none := by kernel_rfl
theorem conc46 : Program.concrete Try.prog 46 = true := by kernel_rfl
theorem undS46 : (Program.underlying Try.prog 46).isSome = true := by kernel_rfl
theorem elT46 : elT Try.prog 46 = some (1, false) := by kernel_rfl
theorem elB46 : elB Try.prog 46 = some (1, 1) := by kernel_rfl
theorem bsT46 : bsT Try.prog 46 = some 1 := by kernel_rfl
theorem mkT46 : mkT Try.prog 46 = some (1, 1, [.int .u8 0]) := by kernel_rfl
theorem azT46 : azT Try.prog 46 = some (1, 1, [.slice none 0 0]) := by kernel_rfl
theorem zeroT46 : zeroT Try.prog 46 = some [.slice none 0 0] := by kernel_rfl
theorem zT47 : zT Try.prog 47 = false := by kernel_rfl
theorem szT47 : szT Try.prog 47 = some (1, false) := by kernel_rfl
theorem arT47 : arT Try.prog 47 = none := by kernel_rfl
theorem conc47 : Program.concrete Try.prog 47 = true := by kernel_rfl
theorem undS47 : (Program.underlying Try.prog 47).isSome = true := by kernel_rfl
theorem intT47 : intT Try.prog 47 = some .u16 := by kernel_rfl
theorem elT47 : elT Try.prog 47 = none := by kernel_rfl
theorem azT47 : azT Try.prog 47 = some (1, 1, [.int .u16 0]) := by kernel_rfl
theorem zeroT47 : zeroT Try.prog 47 = some [.int .u16 0] := by kernel_rfl
theorem zT48 : zT Try.prog 48 = false := by kernel_rfl
theorem szT48 : szT Try.prog 48 = some (1, false) := by kernel_rfl
theorem arT48 : arT Try.prog 48 = none := by kernel_rfl
theorem conc48 : Program.concrete Try.prog 48 = true := by kernel_rfl
theorem zT49 : zT Try.prog 49 = false := by kernel_rfl
theorem szT49 : szT Try.prog 49 = some (1, false) := by kernel_rfl
theorem arT49 : arT Try.prog 49 = none := by kernel_rfl
theorem conc49 : Program.concrete Try.prog 49 = true := by kernel_rfl
theorem zT50 : zT Try.prog 50 = false := by kernel_rfl
theorem szT50 : szT Try.prog 50 = some (2, true) := by kernel_rfl
theorem arT50 : arT Try.prog 50 = none := by kernel_rfl
theorem conc50 : Program.concrete Try.prog 50 = true := by kernel_rfl
theorem undS50 : (Program.underlying Try.prog 50).isSome = true := by kernel_rfl
theorem elT50 : elT Try.prog 50 = none := by kernel_rfl
theorem azT50 : azT Try.prog 50 = some (2, 1, [.int .i64 0, .int .i64 0]) := by kernel_rfl
theorem zeroT50 : zeroT Try.prog 50 = some [.int .i64 0, .int .i64 0] := by kernel_rfl
theorem bT50 : bT Try.prog 50 = true := by kernel_rfl
theorem fldT50_0 : fldT Try.prog 50 0 = some (0, 1, false) := by kernel_rfl
theorem fldT50_1 : fldT Try.prog 50 1 = some (1, 1, false) := by kernel_rfl
theorem zT51 : zT Try.prog 51 = false := by kernel_rfl
theorem szT51 : szT Try.prog 51 = some (2, true) := by kernel_rfl
theorem arT51 : arT Try.prog 51 = none := by kernel_rfl
theorem conc51 : Program.concrete Try.prog 51 = true := by kernel_rfl
theorem undS51 : (Program.underlying Try.prog 51).isSome = true := by kernel_rfl
theorem elT51 : elT Try.prog 51 = none := by kernel_rfl
theorem azT51 : azT Try.prog 51 = some (2, 1, [.int .i64 0, .int .i64 0]) := by kernel_rfl
theorem zeroT51 : zeroT Try.prog 51 = some [.int .i64 0, .int .i64 0] := by kernel_rfl
theorem bT51 : bT Try.prog 51 = true := by kernel_rfl
theorem fldT51_0 : fldT Try.prog 51 0 = some (0, 1, false) := by kernel_rfl
theorem fldT51_1 : fldT Try.prog 51 1 = some (1, 1, false) := by kernel_rfl
theorem zT52 : zT Try.prog 52 = false := by kernel_rfl
theorem szT52 : szT Try.prog 52 = some (1, false) := by kernel_rfl
theorem arT52 : arT Try.prog 52 = none := by kernel_rfl
theorem conc52 : Program.concrete Try.prog 52 = true := by kernel_rfl
theorem zT53 : zT Try.prog 53 = false := by kernel_rfl
theorem szT53 : szT Try.prog 53 = some (3, true) := by kernel_rfl
theorem arT53 : arT Try.prog 53 = none := by kernel_rfl
theorem conc53 : Program.concrete Try.prog 53 = true := by kernel_rfl
theorem undS53 : (Program.underlying Try.prog 53).isSome = true := by kernel_rfl
theorem elT53 : elT Try.prog 53 = none := by kernel_rfl
theorem azT53 : azT Try.prog 53 = some (3, 1, [.int .i64 0, .int .i64 0, .int .i64 0]) := by kernel_rfl
theorem zeroT53 : zeroT Try.prog 53 = some [.int .i64 0, .int .i64 0, .int .i64 0] := by kernel_rfl
theorem bT53 : bT Try.prog 53 = true := by kernel_rfl
theorem fldT53_0 : fldT Try.prog 53 0 = some (0, 1, false) := by kernel_rfl
theorem fldT53_1 : fldT Try.prog 53 1 = some (1, 1, false) := by kernel_rfl
theorem fldT53_2 : fldT Try.prog 53 2 = some (2, 1, false) := by kernel_rfl
theorem zT54 : zT Try.prog 54 = false := by kernel_rfl
theorem szT54 : szT Try.prog 54 = some (3, true) := by kernel_rfl
theorem arT54 : arT Try.prog 54 = none := by kernel_rfl
theorem conc54 : Program.concrete Try.prog 54 = true := by kernel_rfl
theorem undS54 : (Program.underlying Try.prog 54).isSome = true := by kernel_rfl
theorem elT54 : elT Try.prog 54 = none := by kernel_rfl
theorem azT54 : azT Try.prog 54 = some (3, 1, [.int .i64 0, .int .i64 0, .int .i64 0]) := by kernel_rfl
theorem zeroT54 : zeroT Try.prog 54 = some [.int .i64 0, .int .i64 0, .int .i64 0] := by kernel_rfl
theorem bT54 : bT Try.prog 54 = true := by kernel_rfl
theorem fldT54_0 : fldT Try.prog 54 0 = some (0, 1, false) := by kernel_rfl
theorem fldT54_1 : fldT Try.prog 54 1 = some (1, 1, false) := by kernel_rfl
theorem fldT54_2 : fldT Try.prog 54 2 = some (2, 1, false) := by kernel_rfl
theorem zT55 : zT Try.prog 55 = false := by kernel_rfl
theorem szT55 : szT Try.prog 55 = some (1, false) := by kernel_rfl
theorem arT55 : arT Try.prog 55 = none := by kernel_rfl
theorem conc55 : Program.concrete Try.prog 55 = true := by kernel_rfl
theorem zT56 : zT Try.prog 56 = false := by kernel_rfl
theorem szT56 : szT Try.prog 56 = some (1, false) := by kernel_rfl
theorem arT56 : arT Try.prog 56 = none := by kernel_rfl
theorem conc56 : Program.concrete Try.prog 56 = true := by kernel_rfl
theorem zT57 : zT Try.prog 57 = false := by kernel_rfl
theorem szT57 : szT Try.prog 57 = some (1, false) := by kernel_rfl
theorem arT57 : arT Try.prog 57 = none := by kernel_rfl
theorem conc57 : Program.concrete Try.prog 57 = true := by kernel_rfl
theorem zT58 : zT Try.prog 58 = false := by kernel_rfl
theorem szT58 : szT Try.prog 58 = some (1, false) := by kernel_rfl
theorem arT58 : arT Try.prog 58 = none := by kernel_rfl
theorem conc58 : Program.concrete Try.prog 58 = true := by kernel_rfl
theorem zT59 : zT Try.prog 59 = false := by kernel_rfl
theorem szT59 : szT Try.prog 59 = some (1, false) := by kernel_rfl
theorem arT59 : arT Try.prog 59 = none := by kernel_rfl
theorem conc59 : Program.concrete Try.prog 59 = true := by kernel_rfl
theorem zT60 : zT Try.prog 60 = false := by kernel_rfl
theorem szT60 : szT Try.prog 60 = some (1, false) := by kernel_rfl
theorem arT60 : arT Try.prog 60 = none := by kernel_rfl
theorem conc60 : Program.concrete Try.prog 60 = true := by kernel_rfl
theorem zT61 : zT Try.prog 61 = false := by kernel_rfl
theorem szT61 : szT Try.prog 61 = some (1, false) := by kernel_rfl
theorem arT61 : arT Try.prog 61 = none := by kernel_rfl
theorem conc61 : Program.concrete Try.prog 61 = true := by kernel_rfl
theorem zT62 : zT Try.prog 62 = false := by kernel_rfl
theorem szT62 : szT Try.prog 62 = some (1, false) := by kernel_rfl
theorem zeroT62 : azT Try.prog 62 = some (1, 1, [.pointer none]) := by kernel_rfl
theorem arT62 : arT Try.prog 62 = none := by kernel_rfl
theorem conc62 : Program.concrete Try.prog 62 = true := by kernel_rfl
theorem zT63 : zT Try.prog 63 = false := by kernel_rfl
theorem szT63 : szT Try.prog 63 = some (1, false) := by kernel_rfl
theorem arT63 : arT Try.prog 63 = none := by kernel_rfl
theorem conc63 : Program.concrete Try.prog 63 = true := by kernel_rfl
theorem zT64 : zT Try.prog 64 = false := by kernel_rfl
theorem szT64 : szT Try.prog 64 = some (1, false) := by kernel_rfl
theorem arT64 : arT Try.prog 64 = none := by kernel_rfl
theorem conc64 : Program.concrete Try.prog 64 = true := by kernel_rfl
theorem zT65 : zT Try.prog 65 = false := by kernel_rfl
theorem szT65 : szT Try.prog 65 = some (1, false) := by kernel_rfl
theorem arT65 : arT Try.prog 65 = none := by kernel_rfl
theorem conc65 : Program.concrete Try.prog 65 = true := by kernel_rfl
theorem zT66 : zT Try.prog 66 = false := by kernel_rfl
theorem szT66 : szT Try.prog 66 = some (1, false) := by kernel_rfl
theorem arT66 : arT Try.prog 66 = none := by kernel_rfl
theorem conc66 : Program.concrete Try.prog 66 = true := by kernel_rfl
theorem zT67 : zT Try.prog 67 = false := by kernel_rfl
theorem szT67 : szT Try.prog 67 = some (1, false) := by kernel_rfl
theorem zeroT67 : azT Try.prog 67 = some (1, 1, [.pointer none]) := by kernel_rfl
theorem arT67 : arT Try.prog 67 = none := by kernel_rfl
theorem conc67 : Program.concrete Try.prog 67 = true := by kernel_rfl
theorem zT68 : zT Try.prog 68 = false := by kernel_rfl
theorem szT68 : szT Try.prog 68 = some (1, false) := by kernel_rfl
theorem zeroT68 : azT Try.prog 68 = some (1, 1, [.pointer none]) := by kernel_rfl
theorem arT68 : arT Try.prog 68 = none := by kernel_rfl
theorem conc68 : Program.concrete Try.prog 68 = true := by kernel_rfl
theorem zT69 : zT Try.prog 69 = false := by kernel_rfl
theorem szT69 : szT Try.prog 69 = some (1, false) := by kernel_rfl
theorem arT69 : arT Try.prog 69 = none := by kernel_rfl
theorem conc69 : Program.concrete Try.prog 69 = true := by kernel_rfl
theorem zT70 : zT Try.prog 70 = false := by kernel_rfl
theorem szT70 : szT Try.prog 70 = some (1, false) := by kernel_rfl
theorem arT70 : arT Try.prog 70 = none := by kernel_rfl
theorem conc70 : Program.concrete Try.prog 70 = true := by kernel_rfl
theorem zT71 : zT Try.prog 71 = false := by kernel_rfl
theorem szT71 : szT Try.prog 71 = some (1, false) := by kernel_rfl
theorem arT71 : arT Try.prog 71 = none := by kernel_rfl
theorem conc71 : Program.concrete Try.prog 71 = true := by kernel_rfl
theorem zT72 : zT Try.prog 72 = false := by kernel_rfl
theorem szT72 : szT Try.prog 72 = some (1, false) := by kernel_rfl
theorem arT72 : arT Try.prog 72 = none := by kernel_rfl
theorem conc72 : Program.concrete Try.prog 72 = true := by kernel_rfl
theorem undS72 : (Program.underlying Try.prog 72).isSome = true := by kernel_rfl
theorem intT72 : intT Try.prog 72 = some .u64 := by kernel_rfl
theorem elT72 : elT Try.prog 72 = none := by kernel_rfl
theorem azT72 : azT Try.prog 72 = some (1, 1, [.int .u64 0]) := by kernel_rfl
theorem zeroT72 : zeroT Try.prog 72 = some [.int .u64 0] := by kernel_rfl
theorem zT73 : zT Try.prog 73 = false := by kernel_rfl
theorem szT73 : szT Try.prog 73 = some (1, false) := by kernel_rfl
theorem arT73 : arT Try.prog 73 = none := by kernel_rfl
theorem conc73 : Program.concrete Try.prog 73 = true := by kernel_rfl
theorem undS73 : (Program.underlying Try.prog 73).isSome = true := by kernel_rfl
theorem intT73 : intT Try.prog 73 = some .u64 := by kernel_rfl
theorem elT73 : elT Try.prog 73 = none := by kernel_rfl
theorem azT73 : azT Try.prog 73 = some (1, 1, [.int .u64 0]) := by kernel_rfl
theorem zeroT73 : zeroT Try.prog 73 = some [.int .u64 0] := by kernel_rfl
theorem zT74 : zT Try.prog 74 = false := by kernel_rfl
theorem szT74 : szT Try.prog 74 = some (7, true) := by kernel_rfl
theorem arT74 : arT Try.prog 74 = none := by kernel_rfl
theorem conc74 : Program.concrete Try.prog 74 = true := by kernel_rfl
theorem undS74 : (Program.underlying Try.prog 74).isSome = true := by kernel_rfl
theorem elT74 : elT Try.prog 74 = none := by kernel_rfl
theorem azT74 : azT Try.prog 74 = some (7, 1, [.int .i64 0, .int .i64 0, .int .i64 0, .slice none 0 0, .slice none 0 0, .int .u64 0, .int .u64 0]) := by kernel_rfl
theorem zeroT74 : zeroT Try.prog 74 = some [.int .i64 0, .int .i64 0, .int .i64 0, .slice none 0 0, .slice none 0 0, .int .u64 0, .int .u64 0] := by kernel_rfl
theorem bT74 : bT Try.prog 74 = true := by kernel_rfl
theorem fldT74_0 : fldT Try.prog 74 0 = some (0, 5, true) := by kernel_rfl
theorem fldT74_1 : fldT Try.prog 74 1 = some (5, 1, false) := by kernel_rfl
theorem fldT74_2 : fldT Try.prog 74 2 = some (6, 1, false) := by kernel_rfl
theorem zT75 : zT Try.prog 75 = false := by kernel_rfl
theorem szT75 : szT Try.prog 75 = some (7, true) := by kernel_rfl
theorem arT75 : arT Try.prog 75 = none := by kernel_rfl
theorem conc75 : Program.concrete Try.prog 75 = true := by kernel_rfl
theorem undS75 : (Program.underlying Try.prog 75).isSome = true := by kernel_rfl
theorem elT75 : elT Try.prog 75 = none := by kernel_rfl
theorem azT75 : azT Try.prog 75 = some (7, 1, [.int .i64 0, .int .i64 0, .int .i64 0, .slice none 0 0, .slice none 0 0, .int .u64 0, .int .u64 0]) := by kernel_rfl
theorem zeroT75 : zeroT Try.prog 75 = some [.int .i64 0, .int .i64 0, .int .i64 0, .slice none 0 0, .slice none 0 0, .int .u64 0, .int .u64 0] := by kernel_rfl
theorem bT75 : bT Try.prog 75 = true := by kernel_rfl
theorem fldT75_0 : fldT Try.prog 75 0 = some (0, 5, true) := by kernel_rfl
theorem fldT75_1 : fldT Try.prog 75 1 = some (5, 1, false) := by kernel_rfl
theorem fldT75_2 : fldT Try.prog 75 2 = some (6, 1, false) := by kernel_rfl
theorem zT76 : zT Try.prog 76 = false := by kernel_rfl
theorem szT76 : szT Try.prog 76 = some (1, false) := by kernel_rfl
theorem arT76 : arT Try.prog 76 = none := by kernel_rfl
theorem conc76 : Program.concrete Try.prog 76 = true := by kernel_rfl
theorem zT77 : zT Try.prog 77 = false := by kernel_rfl
theorem szT77 : szT Try.prog 77 = some (1, false) := by kernel_rfl
theorem arT77 : arT Try.prog 77 = none := by kernel_rfl
theorem conc77 : Program.concrete Try.prog 77 = true := by kernel_rfl
theorem zT78 : zT Try.prog 78 = false := by kernel_rfl
theorem szT78 : szT Try.prog 78 = some (1, false) := by kernel_rfl
theorem arT78 : arT Try.prog 78 = none := by kernel_rfl
theorem conc78 : Program.concrete Try.prog 78 = true := by kernel_rfl
theorem zT79 : zT Try.prog 79 = false := by kernel_rfl
theorem szT79 : szT Try.prog 79 = some (1, false) := by kernel_rfl
theorem arT79 : arT Try.prog 79 = none := by kernel_rfl
theorem conc79 : Program.concrete Try.prog 79 = true := by kernel_rfl
theorem zT80 : zT Try.prog 80 = false := by kernel_rfl
theorem szT80 : szT Try.prog 80 = some (1, false) := by kernel_rfl
theorem arT80 : arT Try.prog 80 = none := by kernel_rfl
theorem conc80 : Program.concrete Try.prog 80 = true := by kernel_rfl
theorem zT81 : zT Try.prog 81 = false := by kernel_rfl
theorem szT81 : szT Try.prog 81 = some (1, false) := by kernel_rfl
theorem arT81 : arT Try.prog 81 = none := by kernel_rfl
theorem conc81 : Program.concrete Try.prog 81 = true := by kernel_rfl
theorem zT82 : zT Try.prog 82 = false := by kernel_rfl
theorem szT82 : szT Try.prog 82 = some (1, false) := by kernel_rfl
theorem arT82 : arT Try.prog 82 = none := by kernel_rfl
theorem conc82 : Program.concrete Try.prog 82 = true := by kernel_rfl
theorem zT83 : zT Try.prog 83 = false := by kernel_rfl
theorem szT83 : szT Try.prog 83 = some (1, false) := by kernel_rfl
theorem arT83 : arT Try.prog 83 = none := by kernel_rfl
theorem conc83 : Program.concrete Try.prog 83 = true := by kernel_rfl
theorem zT84 : zT Try.prog 84 = false := by kernel_rfl
theorem szT84 : szT Try.prog 84 = some (3, true) := by kernel_rfl
theorem conc84 : Program.concrete Try.prog 84 = true := by kernel_rfl
theorem undS84 : (Program.underlying Try.prog 84).isSome = true := by kernel_rfl
theorem elT84 : elT Try.prog 84 = none := by kernel_rfl
theorem arT84 : arT Try.prog 84 = some (3, 1, false) := by kernel_rfl
theorem azT84 : azT Try.prog 84 = some (1, 3, [.int .u64 0]) := by kernel_rfl
theorem zeroT84 : zeroT Try.prog 84 = some [.int .u64 0, .int .u64 0, .int .u64 0] := by kernel_rfl
theorem zT85 : zT Try.prog 85 = false := by kernel_rfl
theorem szT85 : szT Try.prog 85 = some (3, true) := by kernel_rfl
theorem conc85 : Program.concrete Try.prog 85 = true := by kernel_rfl
theorem undS85 : (Program.underlying Try.prog 85).isSome = true := by kernel_rfl
theorem elT85 : elT Try.prog 85 = none := by kernel_rfl
theorem arT85 : arT Try.prog 85 = some (3, 1, false) := by kernel_rfl
theorem azT85 : azT Try.prog 85 = some (1, 3, [.int .u64 0]) := by kernel_rfl
theorem zeroT85 : zeroT Try.prog 85 = some [.int .u64 0, .int .u64 0, .int .u64 0] := by kernel_rfl
theorem zT86 : zT Try.prog 86 = false := by kernel_rfl
theorem szT86 : szT Try.prog 86 = some (1, false) := by kernel_rfl
theorem arT86 : arT Try.prog 86 = none := by kernel_rfl
theorem conc86 : Program.concrete Try.prog 86 = true := by kernel_rfl
theorem zT87 : zT Try.prog 87 = true := by kernel_rfl
theorem szT87 : szT Try.prog 87 = some (0, true) := by kernel_rfl
theorem arT87 : arT Try.prog 87 = none := by kernel_rfl
theorem conc87 : Program.concrete Try.prog 87 = true := by kernel_rfl
theorem undS87 : (Program.underlying Try.prog 87).isSome = true := by kernel_rfl
theorem elT87 : elT Try.prog 87 = none := by kernel_rfl
theorem azT87 : azT Try.prog 87 = some (0, 1, []) := by kernel_rfl
theorem zeroT87 : zeroT Try.prog 87 = some [] := by kernel_rfl
theorem bT87 : bT Try.prog 87 = true := by kernel_rfl
theorem zT88 : zT Try.prog 88 = true := by kernel_rfl
theorem szT88 : szT Try.prog 88 = some (0, true) := by kernel_rfl
theorem arT88 : arT Try.prog 88 = none := by kernel_rfl
theorem conc88 : Program.concrete Try.prog 88 = true := by kernel_rfl
theorem undS88 : (Program.underlying Try.prog 88).isSome = true := by kernel_rfl
theorem elT88 : elT Try.prog 88 = none := by kernel_rfl
theorem azT88 : azT Try.prog 88 = some (0, 1, []) := by kernel_rfl
theorem zeroT88 : zeroT Try.prog 88 = some [] := by kernel_rfl
theorem bT88 : bT Try.prog 88 = true := by kernel_rfl
theorem zT89 : zT Try.prog 89 = true := by kernel_rfl
theorem szT89 : szT Try.prog 89 = some (0, true) := by kernel_rfl
theorem arT89 : arT Try.prog 89 = none := by kernel_rfl
theorem conc89 : Program.concrete Try.prog 89 = true := by kernel_rfl
theorem undS89 : (Program.underlying Try.prog 89).isSome = true := by kernel_rfl
theorem elT89 : elT Try.prog 89 = none := by kernel_rfl
theorem azT89 : azT Try.prog 89 = some (0, 1, []) := by kernel_rfl
theorem zeroT89 : zeroT Try.prog 89 = some [] := by kernel_rfl
theorem bT89 : bT Try.prog 89 = true := by kernel_rfl
theorem zT90 : zT Try.prog 90 = true := by kernel_rfl
theorem szT90 : szT Try.prog 90 = some (0, true) := by kernel_rfl
theorem arT90 : arT Try.prog 90 = none := by kernel_rfl
theorem conc90 : Program.concrete Try.prog 90 = true := by kernel_rfl
theorem undS90 : (Program.underlying Try.prog 90).isSome = true := by kernel_rfl
theorem elT90 : elT Try.prog 90 = none := by kernel_rfl
theorem azT90 : azT Try.prog 90 = some (0, 1, []) := by kernel_rfl
theorem zeroT90 : zeroT Try.prog 90 = some [] := by kernel_rfl
theorem bT90 : bT Try.prog 90 = true := by kernel_rfl
theorem zT91 : zT Try.prog 91 = false := by kernel_rfl
theorem szT91 : szT Try.prog 91 = some (3, true) := by kernel_rfl
theorem arT91 : arT Try.prog 91 = none := by kernel_rfl
theorem conc91 : Program.concrete Try.prog 91 = true := by kernel_rfl
theorem undS91 : (Program.underlying Try.prog 91).isSome = true := by kernel_rfl
theorem elT91 : elT Try.prog 91 = none := by kernel_rfl
theorem azT91 : azT Try.prog 91 = some (3, 1, [.int .u64 0, .int .u64 0, .int .u64 0]) := by kernel_rfl
theorem zeroT91 : zeroT Try.prog 91 = some [.int .u64 0, .int .u64 0, .int .u64 0] := by kernel_rfl
theorem bT91 : bT Try.prog 91 = true := by kernel_rfl
theorem fldT91_0 : fldT Try.prog 91 0 = some (0, 3, true) := by kernel_rfl
theorem zT92 : zT Try.prog 92 = false := by kernel_rfl
theorem szT92 : szT Try.prog 92 = some (3, true) := by kernel_rfl
theorem arT92 : arT Try.prog 92 = none := by kernel_rfl
theorem conc92 : Program.concrete Try.prog 92 = true := by kernel_rfl
theorem undS92 : (Program.underlying Try.prog 92).isSome = true := by kernel_rfl
theorem elT92 : elT Try.prog 92 = none := by kernel_rfl
theorem azT92 : azT Try.prog 92 = some (3, 1, [.int .u64 0, .int .u64 0, .int .u64 0]) := by kernel_rfl
theorem zeroT92 : zeroT Try.prog 92 = some [.int .u64 0, .int .u64 0, .int .u64 0] := by kernel_rfl
theorem bT92 : bT Try.prog 92 = true := by kernel_rfl
theorem fldT92_0 : fldT Try.prog 92 0 = some (0, 3, true) := by kernel_rfl
theorem zT93 : zT Try.prog 93 = false := by kernel_rfl
theorem szT93 : szT Try.prog 93 = some (1, false) := by kernel_rfl
theorem arT93 : arT Try.prog 93 = none := by kernel_rfl
theorem conc93 : Program.concrete Try.prog 93 = true := by kernel_rfl
theorem zT94 : zT Try.prog 94 = false := by kernel_rfl
theorem szT94 : szT Try.prog 94 = some (1, false) := by kernel_rfl
theorem arT94 : arT Try.prog 94 = none := by kernel_rfl
theorem conc94 : Program.concrete Try.prog 94 = true := by kernel_rfl
theorem zT95 : zT Try.prog 95 = false := by kernel_rfl
theorem szT95 : szT Try.prog 95 = some (1, false) := by kernel_rfl
theorem arT95 : arT Try.prog 95 = none := by kernel_rfl
theorem conc95 : Program.concrete Try.prog 95 = true := by kernel_rfl
theorem zT96 : zT Try.prog 96 = false := by kernel_rfl
theorem szT96 : szT Try.prog 96 = some (1, false) := by kernel_rfl
theorem arT96 : arT Try.prog 96 = none := by kernel_rfl
theorem conc96 : Program.concrete Try.prog 96 = true := by kernel_rfl
theorem undS96 : (Program.underlying Try.prog 96).isSome = true := by kernel_rfl
theorem elT96 : elT Try.prog 96 = some (1, false) := by kernel_rfl
theorem elB96 : elB Try.prog 96 = some (1, 24) := by kernel_rfl
theorem bsT96 : bsT Try.prog 96 = some 1 := by kernel_rfl
theorem mkT96 : mkT Try.prog 96 = some (1, 24, [.slice none 0 0]) := by kernel_rfl
theorem azT96 : azT Try.prog 96 = some (1, 1, [.slice none 0 0]) := by kernel_rfl
theorem zeroT96 : zeroT Try.prog 96 = some [.slice none 0 0] := by kernel_rfl
theorem zT97 : zT Try.prog 97 = false := by kernel_rfl
theorem szT97 : szT Try.prog 97 = some (1, false) := by kernel_rfl
theorem arT97 : arT Try.prog 97 = none := by kernel_rfl
theorem conc97 : Program.concrete Try.prog 97 = true := by kernel_rfl
theorem zT98 : zT Try.prog 98 = false := by kernel_rfl
theorem szT98 : szT Try.prog 98 = some (1, false) := by kernel_rfl
theorem arT98 : arT Try.prog 98 = none := by kernel_rfl
theorem conc98 : Program.concrete Try.prog 98 = true := by kernel_rfl
theorem zT99 : zT Try.prog 99 = false := by kernel_rfl
theorem szT99 : szT Try.prog 99 = some (1, false) := by kernel_rfl
theorem arT99 : arT Try.prog 99 = none := by kernel_rfl
theorem conc99 : Program.concrete Try.prog 99 = true := by kernel_rfl
theorem zT100 : zT Try.prog 100 = false := by kernel_rfl
theorem szT100 : szT Try.prog 100 = some (1, false) := by kernel_rfl
theorem arT100 : arT Try.prog 100 = none := by kernel_rfl
theorem conc100 : Program.concrete Try.prog 100 = true := by kernel_rfl
theorem zT101 : zT Try.prog 101 = false := by kernel_rfl
theorem szT101 : szT Try.prog 101 = some (1, false) := by kernel_rfl
theorem arT101 : arT Try.prog 101 = none := by kernel_rfl
theorem conc101 : Program.concrete Try.prog 101 = true := by kernel_rfl
theorem zT102 : zT Try.prog 102 = false := by kernel_rfl
theorem szT102 : szT Try.prog 102 = some (3, true) := by kernel_rfl
theorem arT102 : arT Try.prog 102 = none := by kernel_rfl
theorem conc102 : Program.concrete Try.prog 102 = true := by kernel_rfl
theorem undS102 : (Program.underlying Try.prog 102).isSome = true := by kernel_rfl
theorem elT102 : elT Try.prog 102 = none := by kernel_rfl
theorem azT102 : azT Try.prog 102 = some (3, 1, [.int .i64 0, .nilFunc, .nilFunc]) := by kernel_rfl
theorem zeroT102 : zeroT Try.prog 102 = some [.int .i64 0, .nilFunc, .nilFunc] := by kernel_rfl
theorem bT102 : bT Try.prog 102 = true := by kernel_rfl
theorem fldT102_0 : fldT Try.prog 102 0 = some (0, 1, false) := by kernel_rfl
theorem fldT102_1 : fldT Try.prog 102 1 = some (1, 1, false) := by kernel_rfl
theorem fldT102_2 : fldT Try.prog 102 2 = some (2, 1, false) := by kernel_rfl
theorem zT103 : zT Try.prog 103 = false := by kernel_rfl
theorem szT103 : szT Try.prog 103 = some (3, true) := by kernel_rfl
theorem arT103 : arT Try.prog 103 = none := by kernel_rfl
theorem conc103 : Program.concrete Try.prog 103 = true := by kernel_rfl
theorem undS103 : (Program.underlying Try.prog 103).isSome = true := by kernel_rfl
theorem elT103 : elT Try.prog 103 = none := by kernel_rfl
theorem azT103 : azT Try.prog 103 = some (3, 1, [.int .i64 0, .nilFunc, .nilFunc]) := by kernel_rfl
theorem zeroT103 : zeroT Try.prog 103 = some [.int .i64 0, .nilFunc, .nilFunc] := by kernel_rfl
theorem bT103 : bT Try.prog 103 = true := by kernel_rfl
theorem fldT103_0 : fldT Try.prog 103 0 = some (0, 1, false) := by kernel_rfl
theorem fldT103_1 : fldT Try.prog 103 1 = some (1, 1, false) := by kernel_rfl
theorem fldT103_2 : fldT Try.prog 103 2 = some (2, 1, false) := by kernel_rfl
theorem zT105 : zT Try.prog 105 = false := by kernel_rfl
theorem szT105 : szT Try.prog 105 = some (4, true) := by kernel_rfl
theorem arT105 : arT Try.prog 105 = none := by kernel_rfl
theorem conc105 : Program.concrete Try.prog 105 = true := by kernel_rfl
theorem undS105 : (Program.underlying Try.prog 105).isSome = true := by kernel_rfl
theorem elT105 : elT Try.prog 105 = none := by kernel_rfl
theorem azT105 : azT Try.prog 105 = some (4, 1, [.int .i64 0, .int .u64 0, .int .u64 0, .int .u64 0]) := by kernel_rfl
theorem zeroT105 : zeroT Try.prog 105 = some [.int .i64 0, .int .u64 0, .int .u64 0, .int .u64 0] := by kernel_rfl
theorem bT105 : bT Try.prog 105 = true := by kernel_rfl
theorem fldT105_0 : fldT Try.prog 105 0 = some (0, 1, false) := by kernel_rfl
theorem fldT105_1 : fldT Try.prog 105 1 = some (1, 3, true) := by kernel_rfl
theorem zT106 : zT Try.prog 106 = false := by kernel_rfl
theorem szT106 : szT Try.prog 106 = some (4, true) := by kernel_rfl
theorem arT106 : arT Try.prog 106 = none := by kernel_rfl
theorem conc106 : Program.concrete Try.prog 106 = true := by kernel_rfl
theorem undS106 : (Program.underlying Try.prog 106).isSome = true := by kernel_rfl
theorem elT106 : elT Try.prog 106 = none := by kernel_rfl
theorem azT106 : azT Try.prog 106 = some (4, 1, [.int .i64 0, .int .u64 0, .int .u64 0, .int .u64 0]) := by kernel_rfl
theorem zeroT106 : zeroT Try.prog 106 = some [.int .i64 0, .int .u64 0, .int .u64 0, .int .u64 0] := by kernel_rfl
theorem bT106 : bT Try.prog 106 = true := by kernel_rfl
theorem fldT106_0 : fldT Try.prog 106 0 = some (0, 1, false) := by kernel_rfl
theorem fldT106_1 : fldT Try.prog 106 1 = some (1, 3, true) := by kernel_rfl
theorem zT107 : zT Try.prog 107 = false := by kernel_rfl
theorem szT107 : szT Try.prog 107 = some (8, true) := by kernel_rfl
theorem conc107 : Program.concrete Try.prog 107 = true := by kernel_rfl
theorem undS107 : (Program.underlying Try.prog 107).isSome = true := by kernel_rfl
theorem elT107 : elT Try.prog 107 = none := by kernel_rfl
theorem arT107 : arT Try.prog 107 = some (4, 2, true) := by kernel_rfl
theorem azT107 : azT Try.prog 107 = some (2, 4, [.int .i64 0, .int .i64 0]) := by kernel_rfl
theorem zeroT107 : zeroT Try.prog 107 = some [.int .i64 0, .int .i64 0, .int .i64 0, .int .i64 0, .int .i64 0, .int .i64 0, .int .i64 0, .int .i64 0] := by kernel_rfl
theorem zT108 : zT Try.prog 108 = false := by kernel_rfl
theorem szT108 : szT Try.prog 108 = some (1, false) := by kernel_rfl
theorem arT108 : arT Try.prog 108 = none := by kernel_rfl
theorem conc108 : Program.concrete Try.prog 108 = true := by kernel_rfl
theorem zT109 : zT Try.prog 109 = false := by kernel_rfl
theorem szT109 : szT Try.prog 109 = some (1, false) := by kernel_rfl
theorem arT109 : arT Try.prog 109 = none := by kernel_rfl
theorem conc109 : Program.concrete Try.prog 109 = true := by kernel_rfl
theorem zT110 : zT Try.prog 110 = false := by kernel_rfl
theorem szT110 : szT Try.prog 110 = some (1, false) := by kernel_rfl
theorem arT110 : arT Try.prog 110 = none := by kernel_rfl
theorem conc110 : Program.concrete Try.prog 110 = true := by kernel_rfl
theorem zT112 : zT Try.prog 112 = false := by kernel_rfl
theorem szT112 : szT Try.prog 112 = some (1, false) := by kernel_rfl
theorem arT112 : arT Try.prog 112 = none := by kernel_rfl
theorem conc112 : Program.concrete Try.prog 112 = true := by kernel_rfl
theorem zT114 : zT Try.prog 114 = false := by kernel_rfl
theorem szT114 : szT Try.prog 114 = some (1, false) := by kernel_rfl
theorem arT114 : arT Try.prog 114 = none := by kernel_rfl
theorem conc114 : Program.concrete Try.prog 114 = true := by kernel_rfl
theorem zT116 : zT Try.prog 116 = false := by kernel_rfl
theorem szT116 : szT Try.prog 116 = some (1, false) := by kernel_rfl
theorem arT116 : arT Try.prog 116 = none := by kernel_rfl
theorem conc116 : Program.concrete Try.prog 116 = true := by kernel_rfl
theorem zT117 : zT Try.prog 117 = false := by kernel_rfl
theorem szT117 : szT Try.prog 117 = some (1, false) := by kernel_rfl
theorem arT117 : arT Try.prog 117 = none := by kernel_rfl
theorem conc117 : Program.concrete Try.prog 117 = true := by kernel_rfl
theorem zT118 : zT Try.prog 118 = false := by kernel_rfl
theorem szT118 : szT Try.prog 118 = some (1, false) := by kernel_rfl
theorem arT118 : arT Try.prog 118 = none := by kernel_rfl
theorem conc118 : Program.concrete Try.prog 118 = true := by kernel_rfl
theorem zT119 : zT Try.prog 119 = false := by kernel_rfl
theorem szT119 : szT Try.prog 119 = some (1, false) := by kernel_rfl
theorem arT119 : arT Try.prog 119 = none := by kernel_rfl
theorem conc119 : Program.concrete Try.prog 119 = true := by kernel_rfl
theorem zT120 : zT Try.prog 120 = false := by kernel_rfl
theorem szT120 : szT Try.prog 120 = some (1, false) := by kernel_rfl
theorem arT120 : arT Try.prog 120 = none := by kernel_rfl
theorem conc120 : Program.concrete Try.prog 120 = true := by kernel_rfl
theorem zT121 : zT Try.prog 121 = false := by kernel_rfl
theorem szT121 : szT Try.prog 121 = some (1, false) := by kernel_rfl
theorem arT121 : arT Try.prog 121 = none := by kernel_rfl
theorem conc121 : Program.concrete Try.prog 121 = true := by kernel_rfl
theorem undS121 : (Program.underlying Try.prog 121).isSome = true := by kernel_rfl
theorem intT121 : intT Try.prog 121 = some .i64 := by kernel_rfl
theorem elT121 : elT Try.prog 121 = none := by kernel_rfl
theorem azT121 : azT Try.prog 121 = some (1, 1, [.int .i64 0]) := by kernel_rfl
theorem zeroT121 : zeroT Try.prog 121 = some [.int .i64 0] := by kernel_rfl
theorem zT123 : zT Try.prog 123 = false := by kernel_rfl
theorem szT123 : szT Try.prog 123 = some (1, false) := by kernel_rfl
theorem arT123 : arT Try.prog 123 = none := by kernel_rfl
theorem conc123 : Program.concrete Try.prog 123 = true := by kernel_rfl
theorem zT124 : zT Try.prog 124 = false := by kernel_rfl
theorem szT124 : szT Try.prog 124 = some (1, false) := by kernel_rfl
theorem arT124 : arT Try.prog 124 = none := by kernel_rfl
theorem conc124 : Program.concrete Try.prog 124 = true := by kernel_rfl
theorem zT125 : zT Try.prog 125 = false := by kernel_rfl
theorem szT125 : szT Try.prog 125 = some (1, false) := by kernel_rfl
theorem arT125 : arT Try.prog 125 = none := by kernel_rfl
theorem conc125 : Program.concrete Try.prog 125 = true := by kernel_rfl
theorem undS125 : (Program.underlying Try.prog 125).isSome = true := by kernel_rfl
theorem elT125 : elT Try.prog 125 = some (1, false) := by kernel_rfl
theorem elB125 : elB Try.prog 125 = some (1, 8) := by kernel_rfl
theorem bsT125 : bsT Try.prog 125 = some 1 := by kernel_rfl
theorem mkT125 : mkT Try.prog 125 = some (1, 8, [.int .u64 0]) := by kernel_rfl
theorem azT125 : azT Try.prog 125 = some (1, 1, [.slice none 0 0]) := by kernel_rfl
theorem zeroT125 : zeroT Try.prog 125 = some [.slice none 0 0] := by kernel_rfl
theorem zT126 : zT Try.prog 126 = false := by kernel_rfl
theorem szT126 : szT Try.prog 126 = some (1, false) := by kernel_rfl
theorem arT126 : arT Try.prog 126 = none := by kernel_rfl
theorem conc126 : Program.concrete Try.prog 126 = true := by kernel_rfl
theorem zT127 : zT Try.prog 127 = false := by kernel_rfl
theorem szT127 : szT Try.prog 127 = some (1, false) := by kernel_rfl
theorem arT127 : arT Try.prog 127 = none := by kernel_rfl
theorem conc127 : Program.concrete Try.prog 127 = true := by kernel_rfl
theorem zT128 : zT Try.prog 128 = false := by kernel_rfl
theorem szT128 : szT Try.prog 128 = some (1, false) := by kernel_rfl
theorem arT128 : arT Try.prog 128 = none := by kernel_rfl
theorem conc128 : Program.concrete Try.prog 128 = true := by kernel_rfl
theorem undS128 : (Program.underlying Try.prog 128).isSome = true := by kernel_rfl
theorem elT128 : elT Try.prog 128 = some (1, false) := by kernel_rfl
theorem elB128 : elB Try.prog 128 = some (1, 16) := by kernel_rfl
theorem bsT128 : bsT Try.prog 128 = some 1 := by kernel_rfl
theorem mkT128 : mkT Try.prog 128 = some (1, 16, [.nilIface]) := by kernel_rfl
theorem azT128 : azT Try.prog 128 = some (1, 1, [.slice none 0 0]) := by kernel_rfl
theorem zeroT128 : zeroT Try.prog 128 = some [.slice none 0 0] := by kernel_rfl
theorem zT129 : zT Try.prog 129 = false := by kernel_rfl
theorem szT129 : szT Try.prog 129 = some (1, false) := by kernel_rfl
theorem arT129 : arT Try.prog 129 = none := by kernel_rfl
theorem zT130 : zT Try.prog 130 = false := by kernel_rfl
theorem szT130 : szT Try.prog 130 = some (1, false) := by kernel_rfl
theorem arT130 : arT Try.prog 130 = none := by kernel_rfl
theorem zT131 : zT Try.prog 131 = false := by kernel_rfl
theorem szT131 : szT Try.prog 131 = some (1, false) := by kernel_rfl
theorem arT131 : arT Try.prog 131 = none := by kernel_rfl
theorem conc131 : Program.concrete Try.prog 131 = true := by kernel_rfl
theorem zT132 : zT Try.prog 132 = false := by kernel_rfl
theorem szT132 : szT Try.prog 132 = some (1, false) := by kernel_rfl
theorem arT132 : arT Try.prog 132 = none := by kernel_rfl
theorem conc132 : Program.concrete Try.prog 132 = true := by kernel_rfl
theorem zT133 : zT Try.prog 133 = false := by kernel_rfl
theorem szT133 : szT Try.prog 133 = some (1, false) := by kernel_rfl
theorem arT133 : arT Try.prog 133 = none := by kernel_rfl
theorem conc133 : Program.concrete Try.prog 133 = true := by kernel_rfl
theorem zT134 : zT Try.prog 134 = false := by kernel_rfl
theorem szT134 : szT Try.prog 134 = some (1, false) := by kernel_rfl
theorem arT134 : arT Try.prog 134 = none := by kernel_rfl
theorem conc134 : Program.concrete Try.prog 134 = true := by kernel_rfl
theorem zT135 : zT Try.prog 135 = false := by kernel_rfl
theorem szT135 : szT Try.prog 135 = some (2, true) := by kernel_rfl
theorem arT135 : arT Try.prog 135 = none := by kernel_rfl
theorem conc135 : Program.concrete Try.prog 135 = true := by kernel_rfl
theorem undS135 : (Program.underlying Try.prog 135).isSome = true := by kernel_rfl
theorem elT135 : elT Try.prog 135 = none := by kernel_rfl
theorem azT135 : azT Try.prog 135 = some (2, 1, [.int .i64 0, .bool false]) := by kernel_rfl
theorem zeroT135 : zeroT Try.prog 135 = some [.int .i64 0, .bool false] := by kernel_rfl
theorem bT135 : bT Try.prog 135 = true := by kernel_rfl
theorem fldT135_0 : fldT Try.prog 135 0 = some (0, 1, false) := by kernel_rfl
theorem fldT135_1 : fldT Try.prog 135 1 = some (1, 1, false) := by kernel_rfl
theorem zT136 : zT Try.prog 136 = false := by kernel_rfl
theorem szT136 : szT Try.prog 136 = some (2, true) := by kernel_rfl
theorem arT136 : arT Try.prog 136 = none := by kernel_rfl
theorem conc136 : Program.concrete Try.prog 136 = true := by kernel_rfl
theorem undS136 : (Program.underlying Try.prog 136).isSome = true := by kernel_rfl
theorem elT136 : elT Try.prog 136 = none := by kernel_rfl
theorem azT136 : azT Try.prog 136 = some (2, 1, [.int .i64 0, .bool false]) := by kernel_rfl
theorem zeroT136 : zeroT Try.prog 136 = some [.int .i64 0, .bool false] := by kernel_rfl
theorem bT136 : bT Try.prog 136 = true := by kernel_rfl
theorem fldT136_0 : fldT Try.prog 136 0 = some (0, 1, false) := by kernel_rfl
theorem fldT136_1 : fldT Try.prog 136 1 = some (1, 1, false) := by kernel_rfl
theorem zT138 : zT Try.prog 138 = false := by kernel_rfl
theorem szT138 : szT Try.prog 138 = some (1, false) := by kernel_rfl
theorem arT138 : arT Try.prog 138 = none := by kernel_rfl
theorem conc138 : Program.concrete Try.prog 138 = true := by kernel_rfl
theorem zT139 : zT Try.prog 139 = false := by kernel_rfl
theorem szT139 : szT Try.prog 139 = some (1, false) := by kernel_rfl
theorem arT139 : arT Try.prog 139 = none := by kernel_rfl
theorem conc139 : Program.concrete Try.prog 139 = true := by kernel_rfl
theorem zT140 : zT Try.prog 140 = false := by kernel_rfl
theorem szT140 : szT Try.prog 140 = some (1, false) := by kernel_rfl
theorem arT140 : arT Try.prog 140 = none := by kernel_rfl
theorem conc140 : Program.concrete Try.prog 140 = true := by kernel_rfl
theorem zT141 : zT Try.prog 141 = false := by kernel_rfl
theorem szT141 : szT Try.prog 141 = some (1, false) := by kernel_rfl
theorem arT141 : arT Try.prog 141 = none := by kernel_rfl
theorem conc141 : Program.concrete Try.prog 141 = true := by kernel_rfl
theorem zT142 : zT Try.prog 142 = false := by kernel_rfl
theorem szT142 : szT Try.prog 142 = some (1, false) := by kernel_rfl
theorem arT142 : arT Try.prog 142 = none := by kernel_rfl
theorem conc142 : Program.concrete Try.prog 142 = true := by kernel_rfl
theorem zT143 : zT Try.prog 143 = false := by kernel_rfl
theorem szT143 : szT Try.prog 143 = some (1, false) := by kernel_rfl
theorem arT143 : arT Try.prog 143 = none := by kernel_rfl
theorem conc143 : Program.concrete Try.prog 143 = true := by kernel_rfl
theorem undS143 : (Program.underlying Try.prog 143).isSome = true := by kernel_rfl
theorem intT143 : intT Try.prog 143 = some .u32 := by kernel_rfl
theorem elT143 : elT Try.prog 143 = none := by kernel_rfl
theorem azT143 : azT Try.prog 143 = some (1, 1, [.int .u32 0]) := by kernel_rfl
theorem zeroT143 : zeroT Try.prog 143 = some [.int .u32 0] := by kernel_rfl
theorem zT144 : zT Try.prog 144 = false := by kernel_rfl
theorem szT144 : szT Try.prog 144 = some (1, false) := by kernel_rfl
theorem arT144 : arT Try.prog 144 = none := by kernel_rfl
theorem conc144 : Program.concrete Try.prog 144 = true := by kernel_rfl
theorem zT145 : zT Try.prog 145 = false := by kernel_rfl
theorem szT145 : szT Try.prog 145 = some (1, false) := by kernel_rfl
theorem arT145 : arT Try.prog 145 = none := by kernel_rfl
theorem conc145 : Program.concrete Try.prog 145 = true := by kernel_rfl
theorem undS145 : (Program.underlying Try.prog 145).isSome = true := by kernel_rfl
theorem intT145 : intT Try.prog 145 = some .u64 := by kernel_rfl
theorem elT145 : elT Try.prog 145 = none := by kernel_rfl
theorem azT145 : azT Try.prog 145 = some (1, 1, [.int .u64 0]) := by kernel_rfl
theorem zeroT145 : zeroT Try.prog 145 = some [.int .u64 0] := by kernel_rfl
theorem zT146 : zT Try.prog 146 = false := by kernel_rfl
theorem szT146 : szT Try.prog 146 = some (1, false) := by kernel_rfl
theorem arT146 : arT Try.prog 146 = none := by kernel_rfl
theorem conc146 : Program.concrete Try.prog 146 = true := by kernel_rfl
theorem zT154 : zT Try.prog 154 = false := by kernel_rfl
theorem szT154 : szT Try.prog 154 = some (1, false) := by kernel_rfl
theorem arT154 : arT Try.prog 154 = none := by kernel_rfl
theorem conc154 : Program.concrete Try.prog 154 = true := by kernel_rfl
theorem zT155 : zT Try.prog 155 = false := by kernel_rfl
theorem szT155 : szT Try.prog 155 = some (1, false) := by kernel_rfl
theorem zeroT155 : azT Try.prog 155 = some (1, 1, [.pointer none]) := by kernel_rfl
theorem arT155 : arT Try.prog 155 = none := by kernel_rfl
theorem conc155 : Program.concrete Try.prog 155 = true := by kernel_rfl
theorem zT160 : zT Try.prog 160 = false := by kernel_rfl
theorem szT160 : szT Try.prog 160 = some (1, false) := by kernel_rfl
theorem arT160 : arT Try.prog 160 = none := by kernel_rfl
theorem conc160 : Program.concrete Try.prog 160 = true := by kernel_rfl
theorem undS160 : (Program.underlying Try.prog 160).isSome = true := by kernel_rfl
theorem elT160 : elT Try.prog 160 = none := by kernel_rfl
theorem azT160 : azT Try.prog 160 = some (1, 1, [.pointer none]) := by kernel_rfl
theorem zeroT160 : zeroT Try.prog 160 = some [.pointer none] := by kernel_rfl
theorem wtAll : type_of% (And.intro (And.intro (And.intro (And.intro (And.intro (And.intro (And.intro (And.intro (And.intro (@boolT4) (And.intro (@ifcT20) (@ifcT129))) (And.intro (@ifcT130) (And.intro (@zT1) (@szT1)))) (And.intro (And.intro (@arT1) (And.intro (@conc1) (@zT2))) (And.intro (@szT2) (And.intro (@arT2) (@conc2))))) (And.intro (And.intro (And.intro (@undS2) (And.intro (@intT2) (@elT2))) (And.intro (@azT2) (And.intro (@zeroT2) (@zT3)))) (And.intro (And.intro (@szT3) (And.intro (@arT3) (@conc3))) (And.intro (And.intro (@undS3) (@intT3)) (And.intro (@elT3) (@azT3)))))) (And.intro (And.intro (And.intro (And.intro (@zeroT3) (And.intro (@zT4) (@szT4))) (And.intro (@arT4) (And.intro (@conc4) (@undS4)))) (And.intro (And.intro (@elT4) (And.intro (@azT4) (@zeroT4))) (And.intro (@zT5) (And.intro (@szT5) (@arT5))))) (And.intro (And.intro (And.intro (@conc5) (And.intro (@undS5) (@intT5))) (And.intro (@elT5) (And.intro (@azT5) (@zeroT5)))) (And.intro (And.intro (@zT12) (And.intro (@szT12) (@arT12))) (And.intro (And.intro (@conc12) (@undS12)) (And.intro (@intT12) (@elT12))))))) (And.intro (And.intro (And.intro (And.intro (And.intro (@azT12) (And.intro (@zeroT12) (@zT13))) (And.intro (@szT13) (And.intro (@arT13) (@conc13)))) (And.intro (And.intro (@undS13) (And.intro (@elT13) (@azT13))) (And.intro (@zeroT13) (And.intro (@bT13) (@fldT13_0))))) (And.intro (And.intro (And.intro (@fldT13_1) (And.intro (@zT20) (@szT20))) (And.intro (@arT20) (And.intro (@zT21) (@szT21)))) (And.intro (And.intro (@arT21) (And.intro (@conc21) (@undS21))) (And.intro (And.intro (@intT21) (@elT21)) (And.intro (@azT21) (@zeroT21)))))) (And.intro (And.intro (And.intro (And.intro (@zT22) (And.intro (@szT22) (@arT22))) (And.intro (@conc22) (And.intro (@undS22) (@elT22)))) (And.intro (And.intro (@elB22) (And.intro (@bsT22) (@mkT22))) (And.intro (@azT22) (And.intro (@zeroT22) (@zT23))))) (And.intro (And.intro (And.intro (@szT23) (And.intro (@arT23) (@conc23))) (And.intro (@undS23) (And.intro (@elT23) (@elB23)))) (And.intro (And.intro (@bsT23) (And.intro (@mkT23) (@azT23))) (And.intro (And.intro (@zeroT23) (@zT24)) (And.intro (@szT24) (@arT24)))))))) (And.intro (And.intro (And.intro (And.intro (And.intro (And.intro (@conc24) (And.intro (@undS24) (@elT24))) (And.intro (@azT24) (And.intro (@zeroT24) (@bT24)))) (And.intro (And.intro (@fldT24_0) (And.intro (@fldT24_1) (@fldT24_2))) (And.intro (@fldT24_3) (And.intro (@fldT24_4) (@zT25))))) (And.intro (And.intro (And.intro (@szT25) (And.intro (@arT25) (@conc25))) (And.intro (@undS25) (And.intro (@elT25) (@azT25)))) (And.intro (And.intro (@zeroT25) (And.intro (@bT25) (@fldT25_0))) (And.intro (And.intro (@fldT25_1) (@fldT25_2)) (And.intro (@fldT25_3) (@fldT25_4)))))) (And.intro (And.intro (And.intro (And.intro (@zT26) (And.intro (@szT26) (@arT26))) (And.intro (@conc26) (And.intro (@undS26) (@elT26)))) (And.intro (And.intro (@elB26) (And.intro (@bsT26) (@mkT26))) (And.intro (@azT26) (And.intro (@zeroT26) (@zT27))))) (And.intro (And.intro (And.intro (@szT27) (And.intro (@arT27) (@conc27))) (And.intro (@zT28) (And.intro (@szT28) (@arT28)))) (And.intro (And.intro (@conc28) (And.intro (@zT29) (@szT29))) (And.intro (And.intro (@arT29) (@conc29)) (And.intro (@undS29) (@elT29))))))) (And.intro (And.intro (And.intro (And.intro (And.intro (@azT29) (And.intro (@zeroT29) (@bT29))) (And.intro (@fldT29_0) (And.intro (@fldT29_1) (@zT30)))) (And.intro (And.intro (@szT30) (And.intro (@arT30) (@conc30))) (And.intro (@undS30) (And.intro (@elT30) (@azT30))))) (And.intro (And.intro (And.intro (@zeroT30) (And.intro (@bT30) (@fldT30_0))) (And.intro (@fldT30_1) (And.intro (@zT31) (@szT31)))) (And.intro (And.intro (@arT31) (And.intro (@conc31) (@undS31))) (And.intro (And.intro (@intT31) (@elT31)) (And.intro (@azT31) (@zeroT31)))))) (And.intro (And.intro (And.intro (And.intro (@zT33) (And.intro (@szT33) (@arT33))) (And.intro (@conc33) (And.intro (@zT35) (@szT35)))) (And.intro (And.intro (@arT35) (And.intro (@conc35) (@zT37))) (And.intro (And.intro (@szT37) (@arT37)) (And.intro (@conc37) (@zT38))))) (And.intro (And.intro (And.intro (@szT38) (And.intro (@arT38) (@conc38))) (And.intro (@zT39) (And.intro (@szT39) (@arT39)))) (And.intro (And.intro (@conc39) (And.intro (@zT40) (@szT40))) (And.intro (And.intro (@arT40) (@conc40)) (And.intro (@zT42) (@szT42))))))))) (And.intro (And.intro (And.intro (And.intro (And.intro (And.intro (And.intro (@arT42) (And.intro (@conc42) (@zT43))) (And.intro (@szT43) (And.intro (@arT43) (@conc43)))) (And.intro (And.intro (@zT44) (And.intro (@szT44) (@arT44))) (And.intro (@conc44) (And.intro (@zT45) (@szT45))))) (And.intro (And.intro (And.intro (@arT45) (And.intro (@conc45) (@zT46))) (And.intro (@szT46) (And.intro (@arT46) (@conc46)))) (And.intro (And.intro (@undS46) (And.intro (@elT46) (@elB46))) (And.intro (And.intro (@bsT46) (@mkT46)) (And.intro (@azT46) (@zeroT46)))))) (And.intro (And.intro (And.intro (And.intro (@zT47) (And.intro (@szT47) (@arT47))) (And.intro (@conc47) (And.intro (@undS47) (@intT47)))) (And.intro (And.intro (@elT47) (And.intro (@azT47) (@zeroT47))) (And.intro (@zT48) (And.intro (@szT48) (@arT48))))) (And.intro (And.intro (And.intro (@conc48) (And.intro (@zT49) (@szT49))) (And.intro (@arT49) (And.intro (@conc49) (@zT50)))) (And.intro (And.intro (@szT50) (And.intro (@arT50) (@conc50))) (And.intro (And.intro (@undS50) (@elT50)) (And.intro (@azT50) (@zeroT50))))))) (And.intro (And.intro (And.intro (And.intro (And.intro (@bT50) (And.intro (@fldT50_0) (@fldT50_1))) (And.intro (@zT51) (And.intro (@szT51) (@arT51)))) (And.intro (And.intro (@conc51) (And.intro (@undS51) (@elT51))) (And.intro (@azT51) (And.intro (@zeroT51) (@bT51))))) (And.intro (And.intro (And.intro (@fldT51_0) (And.intro (@fldT51_1) (@zT52))) (And.intro (@szT52) (And.intro (@arT52) (@conc52)))) (And.intro (And.intro (@zT53) (And.intro (@szT53) (@arT53))) (And.intro (And.intro (@conc53) (@undS53)) (And.intro (@elT53) (@azT53)))))) (And.intro (And.intro (And.intro (And.intro (@zeroT53) (And.intro (@bT53) (@fldT53_0))) (And.intro (@fldT53_1) (And.intro (@fldT53_2) (@zT54)))) (And.intro (And.intro (@szT54) (And.intro (@arT54) (@conc54))) (And.intro (@undS54) (And.intro (@elT54) (@azT54))))) (And.intro (And.intro (And.intro (@zeroT54) (And.intro (@bT54) (@fldT54_0))) (And.intro (@fldT54_1) (And.intro (@fldT54_2) (@zT55)))) (And.intro (And.intro (@szT55) (And.intro (@arT55) (@conc55))) (And.intro (And.intro (@zT56) (@szT56)) (And.intro (@arT56) (@conc56)))))))) (And.intro (And.intro (And.intro (And.intro (And.intro (And.intro (@zT57) (And.intro (@szT57) (@arT57))) (And.intro (@conc57) (And.intro (@zT58) (@szT58)))) (And.intro (And.intro (@arT58) (And.intro (@conc58) (@zT59))) (And.intro (@szT59) (And.intro (@arT59) (@conc59))))) (And.intro (And.intro (And.intro (@zT60) (And.intro (@szT60) (@arT60))) (And.intro (@conc60) (And.intro (@zT61) (@szT61)))) (And.intro (And.intro (@arT61) (And.intro (@conc61) (@zT62))) (And.intro (And.intro (@szT62) (@zeroT62)) (And.intro (@arT62) (@conc62)))))) (And.intro (And.intro (And.intro (And.intro (@zT63) (And.intro (@szT63) (@arT63))) (And.intro (@conc63) (And.intro (@zT64) (@szT64)))) (And.intro (And.intro (@arT64) (And.intro (@conc64) (@zT65))) (And.intro (@szT65) (And.intro (@arT65) (@conc65))))) (And.intro (And.intro (And.intro (@zT66) (And.intro (@szT66) (@arT66))) (And.intro (@conc66) (And.intro (@zT67) (@szT67)))) (And.intro (And.intro (@zeroT67) (And.intro (@arT67) (@conc67))) (And.intro (And.intro (@zT68) (@szT68)) (And.intro (@zeroT68) (@arT68))))))) (And.intro (And.intro (And.intro (And.intro (And.intro (@conc68) (And.intro (@zT69) (@szT69))) (And.intro (@arT69) (And.intro (@conc69) (@zT70)))) (And.intro (And.intro (@szT70) (And.intro (@arT70) (@conc70))) (And.intro (@zT71) (And.intro (@szT71) (@arT71))))) (And.intro (And.intro (And.intro (@conc71) (And.intro (@zT72) (@szT72))) (And.intro (@arT72) (And.intro (@conc72) (@undS72)))) (And.intro (And.intro (@intT72) (And.intro (@elT72) (@azT72))) (And.intro (And.intro (@zeroT72) (@zT73)) (And.intro (@szT73) (@arT73)))))) (And.intro (And.intro (And.intro (And.intro (@conc73) (And.intro (@undS73) (@intT73))) (And.intro (@elT73) (And.intro (@azT73) (@zeroT73)))) (And.intro (And.intro (@zT74) (And.intro (@szT74) (@arT74))) (And.intro (And.intro (@conc74) (@undS74)) (And.intro (@elT74) (@azT74))))) (And.intro (And.intro (And.intro (@zeroT74) (And.intro (@bT74) (@fldT74_0))) (And.intro (@fldT74_1) (And.intro (@fldT74_2) (@zT75)))) (And.intro (And.intro (@szT75) (And.intro (@arT75) (@conc75))) (And.intro (And.intro (@undS75) (@elT75)) (And.intro (@azT75) (@zeroT75)))))))))) (And.intro (And.intro (And.intro (And.intro (And.intro (And.intro (And.intro (And.intro (@bT75) (And.intro (@fldT75_0) (@fldT75_1))) (And.intro (@fldT75_2) (And.intro (@zT76) (@szT76)))) (And.intro (And.intro (@arT76) (And.intro (@conc76) (@zT77))) (And.intro (@szT77) (And.intro (@arT77) (@conc77))))) (And.intro (And.intro (And.intro (@zT78) (And.intro (@szT78) (@arT78))) (And.intro (@conc78) (And.intro (@zT79) (@szT79)))) (And.intro (And.intro (@arT79) (And.intro (@conc79) (@zT80))) (And.intro (And.intro (@szT80) (@arT80)) (And.intro (@conc80) (@zT81)))))) (And.intro (And.intro (And.intro (And.intro (@szT81) (And.intro (@arT81) (@conc81))) (And.intro (@zT82) (And.intro (@szT82) (@arT82)))) (And.intro (And.intro (@conc82) (And.intro (@zT83) (@szT83))) (And.intro (@arT83) (And.intro (@conc83) (@zT84))))) (And.intro (And.intro (And.intro (@szT84) (And.intro (@conc84) (@undS84))) (And.intro (@elT84) (And.intro (@arT84) (@azT84)))) (And.intro (And.intro (@zeroT84) (And.intro (@zT85) (@szT85))) (And.intro (And.intro (@conc85) (@undS85)) (And.intro (@elT85) (@arT85))))))) (And.intro (And.intro (And.intro (And.intro (And.intro (@azT85) (And.intro (@zeroT85) (@zT86))) (And.intro (@szT86) (And.intro (@arT86) (@conc86)))) (And.intro (And.intro (@zT87) (And.intro (@szT87) (@arT87))) (And.intro (@conc87) (And.intro (@undS87) (@elT87))))) (And.intro (And.intro (And.intro (@azT87) (And.intro (@zeroT87) (@bT87))) (And.intro (@zT88) (And.intro (@szT88) (@arT88)))) (And.intro (And.intro (@conc88) (And.intro (@undS88) (@elT88))) (And.intro (And.intro (@azT88) (@zeroT88)) (And.intro (@bT88) (@zT89)))))) (And.intro (And.intro (And.intro (And.intro (@szT89) (And.intro (@arT89) (@conc89))) (And.intro (@undS89) (And.intro (@elT89) (@azT89)))) (And.intro (And.intro (@zeroT89) (And.intro (@bT89) (@zT90))) (And.intro (@szT90) (And.intro (@arT90) (@conc90))))) (And.intro (And.intro (And.intro (@undS90) (And.intro (@elT90) (@azT90))) (And.intro (@zeroT90) (And.intro (@bT90) (@zT91)))) (And.intro (And.intro (@szT91) (And.intro (@arT91) (@conc91))) (And.intro (And.intro (@undS91) (@elT91)) (And.intro (@azT91) (@zeroT91)))))))) (And.intro (And.intro (And.intro (And.intro (And.intro (And.intro (@bT91) (And.intro (@fldT91_0) (@zT92))) (And.intro (@szT92) (And.intro (@arT92) (@conc92)))) (And.intro (And.intro (@undS92) (And.intro (@elT92) (@azT92))) (And.intro (@zeroT92) (And.intro (@bT92) (@fldT92_0))))) (And.intro (And.intro (And.intro (@zT93) (And.intro (@szT93) (@arT93))) (And.intro (@conc93) (And.intro (@zT94) (@szT94)))) (And.intro (And.intro (@arT94) (And.intro (@conc94) (@zT95))) (And.intro (And.intro (@szT95) (@arT95)) (And.intro (@conc95) (@zT96)))))) (And.intro (And.intro (And.intro (And.intro (@szT96) (And.intro (@arT96) (@conc96))) (And.intro (@undS96) (And.intro (@elT96) (@elB96)))) (And.intro (And.intro (@bsT96) (And.intro (@mkT96) (@azT96))) (And.intro (@zeroT96) (And.intro (@zT97) (@szT97))))) (And.intro (And.intro (And.intro (@arT97) (And.intro (@conc97) (@zT98))) (And.intro (@szT98) (And.intro (@arT98) (@conc98)))) (And.intro (And.intro (@zT99) (And.intro (@szT99) (@arT99))) (And.intro (And.intro (@conc99) (@zT100)) (And.intro (@szT100) (@arT100))))))) (And.intro (And.intro (And.intro (And.intro (And.intro (@conc100) (And.intro (@zT101) (@szT101))) (And.intro (@arT101) (And.intro (@conc101) (@zT102)))) (And.intro (And.intro (@szT102) (And.intro (@arT102) (@conc102))) (And.intro (@undS102) (And.intro (@elT102) (@azT102))))) (And.intro (And.intro (And.intro (@zeroT102) (And.intro (@bT102) (@fldT102_0))) (And.intro (@fldT102_1) (And.intro (@fldT102_2) (@zT103)))) (And.intro (And.intro (@szT103) (And.intro (@arT103) (@conc103))) (And.intro (And.intro (@undS103) (@elT103)) (And.intro (@azT103) (@zeroT103)))))) (And.intro (And.intro (And.intro (And.intro (@bT103) (And.intro (@fldT103_0) (@fldT103_1))) (And.intro (@fldT103_2) (And.intro (@zT105) (@szT105)))) (And.intro (And.intro (@arT105) (And.intro (@conc105) (@undS105))) (And.intro (And.intro (@elT105) (@azT105)) (And.intro (@zeroT105) (@bT105))))) (And.intro (And.intro (And.intro (@fldT105_0) (And.intro (@fldT105_1) (@zT106))) (And.intro (@szT106) (And.intro (@arT106) (@conc106)))) (And.intro (And.intro (@undS106) (And.intro (@elT106) (@azT106))) (And.intro (And.intro (@zeroT106) (@bT106)) (And.intro (@fldT106_0) (@fldT106_1))))))))) (And.intro (And.intro (And.intro (And.intro (And.intro (And.intro (And.intro (@zT107) (And.intro (@szT107) (@conc107))) (And.intro (@undS107) (And.intro (@elT107) (@arT107)))) (And.intro (And.intro (@azT107) (And.intro (@zeroT107) (@zT108))) (And.intro (@szT108) (And.intro (@arT108) (@conc108))))) (And.intro (And.intro (And.intro (@zT109) (And.intro (@szT109) (@arT109))) (And.intro (@conc109) (And.intro (@zT110) (@szT110)))) (And.intro (And.intro (@arT110) (And.intro (@conc110) (@zT112))) (And.intro (And.intro (@szT112) (@arT112)) (And.intro (@conc112) (@zT114)))))) (And.intro (And.intro (And.intro (And.intro (@szT114) (And.intro (@arT114) (@conc114))) (And.intro (@zT116) (And.intro (@szT116) (@arT116)))) (And.intro (And.intro (@conc116) (And.intro (@zT117) (@szT117))) (And.intro (@arT117) (And.intro (@conc117) (@zT118))))) (And.intro (And.intro (And.intro (@szT118) (And.intro (@arT118) (@conc118))) (And.intro (@zT119) (And.intro (@szT119) (@arT119)))) (And.intro (And.intro (@conc119) (And.intro (@zT120) (@szT120))) (And.intro (And.intro (@arT120) (@conc120)) (And.intro (@zT121) (@szT121))))))) (And.intro (And.intro (And.intro (And.intro (And.intro (@arT121) (And.intro (@conc121) (@undS121))) (And.intro (@intT121) (And.intro (@elT121) (@azT121)))) (And.intro (And.intro (@zeroT121) (And.intro (@zT123) (@szT123))) (And.intro (@arT123) (And.intro (@conc123) (@zT124))))) (And.intro (And.intro (And.intro (@szT124) (And.intro (@arT124) (@conc124))) (And.intro (@zT125) (And.intro (@szT125) (@arT125)))) (And.intro (And.intro (@conc125) (And.intro (@undS125) (@elT125))) (And.intro (And.intro (@elB125) (@bsT125)) (And.intro (@mkT125) (@azT125)))))) (And.intro (And.intro (And.intro (And.intro (@zeroT125) (And.intro (@zT126) (@szT126))) (And.intro (@arT126) (And.intro (@conc126) (@zT127)))) (And.intro (And.intro (@szT127) (And.intro (@arT127) (@conc127))) (And.intro (And.intro (@zT128) (@szT128)) (And.intro (@arT128) (@conc128))))) (And.intro (And.intro (And.intro (@undS128) (And.intro (@elT128) (@elB128))) (And.intro (@bsT128) (And.intro (@mkT128) (@azT128)))) (And.intro (And.intro (@zeroT128) (And.intro (@zT129) (@szT129))) (And.intro (And.intro (@arT129) (@zT130)) (And.intro (@szT130) (@arT130)))))))) (And.intro (And.intro (And.intro (And.intro (And.intro (And.intro (@zT131) (And.intro (@szT131) (@arT131))) (And.intro (@conc131) (And.intro (@zT132) (@szT132)))) (And.intro (And.intro (@arT132) (And.intro (@conc132) (@zT133))) (And.intro (@szT133) (And.intro (@arT133) (@conc133))))) (And.intro (And.intro (And.intro (@zT134) (And.intro (@szT134) (@arT134))) (And.intro (@conc134) (And.intro (@zT135) (@szT135)))) (And.intro (And.intro (@arT135) (And.intro (@conc135) (@undS135))) (And.intro (And.intro (@elT135) (@azT135)) (And.intro (@zeroT135) (@bT135)))))) (And.intro (And.intro (And.intro (And.intro (@fldT135_0) (And.intro (@fldT135_1) (@zT136))) (And.intro (@szT136) (And.intro (@arT136) (@conc136)))) (And.intro (And.intro (@undS136) (And.intro (@elT136) (@azT136))) (And.intro (@zeroT136) (And.intro (@bT136) (@fldT136_0))))) (And.intro (And.intro (And.intro (@fldT136_1) (And.intro (@zT138) (@szT138))) (And.intro (@arT138) (And.intro (@conc138) (@zT139)))) (And.intro (And.intro (@szT139) (And.intro (@arT139) (@conc139))) (And.intro (And.intro (@zT140) (@szT140)) (And.intro (@arT140) (@conc140))))))) (And.intro (And.intro (And.intro (And.intro (And.intro (@zT141) (And.intro (@szT141) (@arT141))) (And.intro (@conc141) (And.intro (@zT142) (@szT142)))) (And.intro (And.intro (@arT142) (And.intro (@conc142) (@zT143))) (And.intro (@szT143) (And.intro (@arT143) (@conc143))))) (And.intro (And.intro (And.intro (@undS143) (And.intro (@intT143) (@elT143))) (And.intro (@azT143) (And.intro (@zeroT143) (@zT144)))) (And.intro (And.intro (@szT144) (And.intro (@arT144) (@conc144))) (And.intro (And.intro (@zT145) (@szT145)) (And.intro (@arT145) (@conc145)))))) (And.intro (And.intro (And.intro (And.intro (@undS145) (And.intro (@intT145) (@elT145))) (And.intro (@azT145) (And.intro (@zeroT145) (@zT146)))) (And.intro (And.intro (@szT146) (And.intro (@arT146) (@conc146))) (And.intro (And.intro (@zT154) (@szT154)) (And.intro (@arT154) (@conc154))))) (And.intro (And.intro (And.intro (@zT155) (And.intro (@szT155) (@zeroT155))) (And.intro (@arT155) (And.intro (@conc155) (@zT160)))) (And.intro (And.intro (@szT160) (And.intro (@arT160) (@conc160))) (And.intro (And.intro (@undS160) (@elT160)) (And.intro (@azT160) (@zeroT160))))))))))) := And.intro (And.intro (And.intro (And.intro (And.intro (And.intro (And.intro (And.intro (And.intro (@boolT4) (And.intro (@ifcT20) (@ifcT129))) (And.intro (@ifcT130) (And.intro (@zT1) (@szT1)))) (And.intro (And.intro (@arT1) (And.intro (@conc1) (@zT2))) (And.intro (@szT2) (And.intro (@arT2) (@conc2))))) (And.intro (And.intro (And.intro (@undS2) (And.intro (@intT2) (@elT2))) (And.intro (@azT2) (And.intro (@zeroT2) (@zT3)))) (And.intro (And.intro (@szT3) (And.intro (@arT3) (@conc3))) (And.intro (And.intro (@undS3) (@intT3)) (And.intro (@elT3) (@azT3)))))) (And.intro (And.intro (And.intro (And.intro (@zeroT3) (And.intro (@zT4) (@szT4))) (And.intro (@arT4) (And.intro (@conc4) (@undS4)))) (And.intro (And.intro (@elT4) (And.intro (@azT4) (@zeroT4))) (And.intro (@zT5) (And.intro (@szT5) (@arT5))))) (And.intro (And.intro (And.intro (@conc5) (And.intro (@undS5) (@intT5))) (And.intro (@elT5) (And.intro (@azT5) (@zeroT5)))) (And.intro (And.intro (@zT12) (And.intro (@szT12) (@arT12))) (And.intro (And.intro (@conc12) (@undS12)) (And.intro (@intT12) (@elT12))))))) (And.intro (And.intro (And.intro (And.intro (And.intro (@azT12) (And.intro (@zeroT12) (@zT13))) (And.intro (@szT13) (And.intro (@arT13) (@conc13)))) (And.intro (And.intro (@undS13) (And.intro (@elT13) (@azT13))) (And.intro (@zeroT13) (And.intro (@bT13) (@fldT13_0))))) (And.intro (And.intro (And.intro (@fldT13_1) (And.intro (@zT20) (@szT20))) (And.intro (@arT20) (And.intro (@zT21) (@szT21)))) (And.intro (And.intro (@arT21) (And.intro (@conc21) (@undS21))) (And.intro (And.intro (@intT21) (@elT21)) (And.intro (@azT21) (@zeroT21)))))) (And.intro (And.intro (And.intro (And.intro (@zT22) (And.intro (@szT22) (@arT22))) (And.intro (@conc22) (And.intro (@undS22) (@elT22)))) (And.intro (And.intro (@elB22) (And.intro (@bsT22) (@mkT22))) (And.intro (@azT22) (And.intro (@zeroT22) (@zT23))))) (And.intro (And.intro (And.intro (@szT23) (And.intro (@arT23) (@conc23))) (And.intro (@undS23) (And.intro (@elT23) (@elB23)))) (And.intro (And.intro (@bsT23) (And.intro (@mkT23) (@azT23))) (And.intro (And.intro (@zeroT23) (@zT24)) (And.intro (@szT24) (@arT24)))))))) (And.intro (And.intro (And.intro (And.intro (And.intro (And.intro (@conc24) (And.intro (@undS24) (@elT24))) (And.intro (@azT24) (And.intro (@zeroT24) (@bT24)))) (And.intro (And.intro (@fldT24_0) (And.intro (@fldT24_1) (@fldT24_2))) (And.intro (@fldT24_3) (And.intro (@fldT24_4) (@zT25))))) (And.intro (And.intro (And.intro (@szT25) (And.intro (@arT25) (@conc25))) (And.intro (@undS25) (And.intro (@elT25) (@azT25)))) (And.intro (And.intro (@zeroT25) (And.intro (@bT25) (@fldT25_0))) (And.intro (And.intro (@fldT25_1) (@fldT25_2)) (And.intro (@fldT25_3) (@fldT25_4)))))) (And.intro (And.intro (And.intro (And.intro (@zT26) (And.intro (@szT26) (@arT26))) (And.intro (@conc26) (And.intro (@undS26) (@elT26)))) (And.intro (And.intro (@elB26) (And.intro (@bsT26) (@mkT26))) (And.intro (@azT26) (And.intro (@zeroT26) (@zT27))))) (And.intro (And.intro (And.intro (@szT27) (And.intro (@arT27) (@conc27))) (And.intro (@zT28) (And.intro (@szT28) (@arT28)))) (And.intro (And.intro (@conc28) (And.intro (@zT29) (@szT29))) (And.intro (And.intro (@arT29) (@conc29)) (And.intro (@undS29) (@elT29))))))) (And.intro (And.intro (And.intro (And.intro (And.intro (@azT29) (And.intro (@zeroT29) (@bT29))) (And.intro (@fldT29_0) (And.intro (@fldT29_1) (@zT30)))) (And.intro (And.intro (@szT30) (And.intro (@arT30) (@conc30))) (And.intro (@undS30) (And.intro (@elT30) (@azT30))))) (And.intro (And.intro (And.intro (@zeroT30) (And.intro (@bT30) (@fldT30_0))) (And.intro (@fldT30_1) (And.intro (@zT31) (@szT31)))) (And.intro (And.intro (@arT31) (And.intro (@conc31) (@undS31))) (And.intro (And.intro (@intT31) (@elT31)) (And.intro (@azT31) (@zeroT31)))))) (And.intro (And.intro (And.intro (And.intro (@zT33) (And.intro (@szT33) (@arT33))) (And.intro (@conc33) (And.intro (@zT35) (@szT35)))) (And.intro (And.intro (@arT35) (And.intro (@conc35) (@zT37))) (And.intro (And.intro (@szT37) (@arT37)) (And.intro (@conc37) (@zT38))))) (And.intro (And.intro (And.intro (@szT38) (And.intro (@arT38) (@conc38))) (And.intro (@zT39) (And.intro (@szT39) (@arT39)))) (And.intro (And.intro (@conc39) (And.intro (@zT40) (@szT40))) (And.intro (And.intro (@arT40) (@conc40)) (And.intro (@zT42) (@szT42))))))))) (And.intro (And.intro (And.intro (And.intro (And.intro (And.intro (And.intro (@arT42) (And.intro (@conc42) (@zT43))) (And.intro (@szT43) (And.intro (@arT43) (@conc43)))) (And.intro (And.intro (@zT44) (And.intro (@szT44) (@arT44))) (And.intro (@conc44) (And.intro (@zT45) (@szT45))))) (And.intro (And.intro (And.intro (@arT45) (And.intro (@conc45) (@zT46))) (And.intro (@szT46) (And.intro (@arT46) (@conc46)))) (And.intro (And.intro (@undS46) (And.intro (@elT46) (@elB46))) (And.intro (And.intro (@bsT46) (@mkT46)) (And.intro (@azT46) (@zeroT46)))))) (And.intro (And.intro (And.intro (And.intro (@zT47) (And.intro (@szT47) (@arT47))) (And.intro (@conc47) (And.intro (@undS47) (@intT47)))) (And.intro (And.intro (@elT47) (And.intro (@azT47) (@zeroT47))) (And.intro (@zT48) (And.intro (@szT48) (@arT48))))) (And.intro (And.intro (And.intro (@conc48) (And.intro (@zT49) (@szT49))) (And.intro (@arT49) (And.intro (@conc49) (@zT50)))) (And.intro (And.intro (@szT50) (And.intro (@arT50) (@conc50))) (And.intro (And.intro (@undS50) (@elT50)) (And.intro (@azT50) (@zeroT50))))))) (And.intro (And.intro (And.intro (And.intro (And.intro (@bT50) (And.intro (@fldT50_0) (@fldT50_1))) (And.intro (@zT51) (And.intro (@szT51) (@arT51)))) (And.intro (And.intro (@conc51) (And.intro (@undS51) (@elT51))) (And.intro (@azT51) (And.intro (@zeroT51) (@bT51))))) (And.intro (And.intro (And.intro (@fldT51_0) (And.intro (@fldT51_1) (@zT52))) (And.intro (@szT52) (And.intro (@arT52) (@conc52)))) (And.intro (And.intro (@zT53) (And.intro (@szT53) (@arT53))) (And.intro (And.intro (@conc53) (@undS53)) (And.intro (@elT53) (@azT53)))))) (And.intro (And.intro (And.intro (And.intro (@zeroT53) (And.intro (@bT53) (@fldT53_0))) (And.intro (@fldT53_1) (And.intro (@fldT53_2) (@zT54)))) (And.intro (And.intro (@szT54) (And.intro (@arT54) (@conc54))) (And.intro (@undS54) (And.intro (@elT54) (@azT54))))) (And.intro (And.intro (And.intro (@zeroT54) (And.intro (@bT54) (@fldT54_0))) (And.intro (@fldT54_1) (And.intro (@fldT54_2) (@zT55)))) (And.intro (And.intro (@szT55) (And.intro (@arT55) (@conc55))) (And.intro (And.intro (@zT56) (@szT56)) (And.intro (@arT56) (@conc56)))))))) (And.intro (And.intro (And.intro (And.intro (And.intro (And.intro (@zT57) (And.intro (@szT57) (@arT57))) (And.intro (@conc57) (And.intro (@zT58) (@szT58)))) (And.intro (And.intro (@arT58) (And.intro (@conc58) (@zT59))) (And.intro (@szT59) (And.intro (@arT59) (@conc59))))) (And.intro (And.intro (And.intro (@zT60) (And.intro (@szT60) (@arT60))) (And.intro (@conc60) (And.intro (@zT61) (@szT61)))) (And.intro (And.intro (@arT61) (And.intro (@conc61) (@zT62))) (And.intro (And.intro (@szT62) (@zeroT62)) (And.intro (@arT62) (@conc62)))))) (And.intro (And.intro (And.intro (And.intro (@zT63) (And.intro (@szT63) (@arT63))) (And.intro (@conc63) (And.intro (@zT64) (@szT64)))) (And.intro (And.intro (@arT64) (And.intro (@conc64) (@zT65))) (And.intro (@szT65) (And.intro (@arT65) (@conc65))))) (And.intro (And.intro (And.intro (@zT66) (And.intro (@szT66) (@arT66))) (And.intro (@conc66) (And.intro (@zT67) (@szT67)))) (And.intro (And.intro (@zeroT67) (And.intro (@arT67) (@conc67))) (And.intro (And.intro (@zT68) (@szT68)) (And.intro (@zeroT68) (@arT68))))))) (And.intro (And.intro (And.intro (And.intro (And.intro (@conc68) (And.intro (@zT69) (@szT69))) (And.intro (@arT69) (And.intro (@conc69) (@zT70)))) (And.intro (And.intro (@szT70) (And.intro (@arT70) (@conc70))) (And.intro (@zT71) (And.intro (@szT71) (@arT71))))) (And.intro (And.intro (And.intro (@conc71) (And.intro (@zT72) (@szT72))) (And.intro (@arT72) (And.intro (@conc72) (@undS72)))) (And.intro (And.intro (@intT72) (And.intro (@elT72) (@azT72))) (And.intro (And.intro (@zeroT72) (@zT73)) (And.intro (@szT73) (@arT73)))))) (And.intro (And.intro (And.intro (And.intro (@conc73) (And.intro (@undS73) (@intT73))) (And.intro (@elT73) (And.intro (@azT73) (@zeroT73)))) (And.intro (And.intro (@zT74) (And.intro (@szT74) (@arT74))) (And.intro (And.intro (@conc74) (@undS74)) (And.intro (@elT74) (@azT74))))) (And.intro (And.intro (And.intro (@zeroT74) (And.intro (@bT74) (@fldT74_0))) (And.intro (@fldT74_1) (And.intro (@fldT74_2) (@zT75)))) (And.intro (And.intro (@szT75) (And.intro (@arT75) (@conc75))) (And.intro (And.intro (@undS75) (@elT75)) (And.intro (@azT75) (@zeroT75)))))))))) (And.intro (And.intro (And.intro (And.intro (And.intro (And.intro (And.intro (And.intro (@bT75) (And.intro (@fldT75_0) (@fldT75_1))) (And.intro (@fldT75_2) (And.intro (@zT76) (@szT76)))) (And.intro (And.intro (@arT76) (And.intro (@conc76) (@zT77))) (And.intro (@szT77) (And.intro (@arT77) (@conc77))))) (And.intro (And.intro (And.intro (@zT78) (And.intro (@szT78) (@arT78))) (And.intro (@conc78) (And.intro (@zT79) (@szT79)))) (And.intro (And.intro (@arT79) (And.intro (@conc79) (@zT80))) (And.intro (And.intro (@szT80) (@arT80)) (And.intro (@conc80) (@zT81)))))) (And.intro (And.intro (And.intro (And.intro (@szT81) (And.intro (@arT81) (@conc81))) (And.intro (@zT82) (And.intro (@szT82) (@arT82)))) (And.intro (And.intro (@conc82) (And.intro (@zT83) (@szT83))) (And.intro (@arT83) (And.intro (@conc83) (@zT84))))) (And.intro (And.intro (And.intro (@szT84) (And.intro (@conc84) (@undS84))) (And.intro (@elT84) (And.intro (@arT84) (@azT84)))) (And.intro (And.intro (@zeroT84) (And.intro (@zT85) (@szT85))) (And.intro (And.intro (@conc85) (@undS85)) (And.intro (@elT85) (@arT85))))))) (And.intro (And.intro (And.intro (And.intro (And.intro (@azT85) (And.intro (@zeroT85) (@zT86))) (And.intro (@szT86) (And.intro (@arT86) (@conc86)))) (And.intro (And.intro (@zT87) (And.intro (@szT87) (@arT87))) (And.intro (@conc87) (And.intro (@undS87) (@elT87))))) (And.intro (And.intro (And.intro (@azT87) (And.intro (@zeroT87) (@bT87))) (And.intro (@zT88) (And.intro (@szT88) (@arT88)))) (And.intro (And.intro (@conc88) (And.intro (@undS88) (@elT88))) (And.intro (And.intro (@azT88) (@zeroT88)) (And.intro (@bT88) (@zT89)))))) (And.intro (And.intro (And.intro (And.intro (@szT89) (And.intro (@arT89) (@conc89))) (And.intro (@undS89) (And.intro (@elT89) (@azT89)))) (And.intro (And.intro (@zeroT89) (And.intro (@bT89) (@zT90))) (And.intro (@szT90) (And.intro (@arT90) (@conc90))))) (And.intro (And.intro (And.intro (@undS90) (And.intro (@elT90) (@azT90))) (And.intro (@zeroT90) (And.intro (@bT90) (@zT91)))) (And.intro (And.intro (@szT91) (And.intro (@arT91) (@conc91))) (And.intro (And.intro (@undS91) (@elT91)) (And.intro (@azT91) (@zeroT91)))))))) (And.intro (And.intro (And.intro (And.intro (And.intro (And.intro (@bT91) (And.intro (@fldT91_0) (@zT92))) (And.intro (@szT92) (And.intro (@arT92) (@conc92)))) (And.intro (And.intro (@undS92) (And.intro (@elT92) (@azT92))) (And.intro (@zeroT92) (And.intro (@bT92) (@fldT92_0))))) (And.intro (And.intro (And.intro (@zT93) (And.intro (@szT93) (@arT93))) (And.intro (@conc93) (And.intro (@zT94) (@szT94)))) (And.intro (And.intro (@arT94) (And.intro (@conc94) (@zT95))) (And.intro (And.intro (@szT95) (@arT95)) (And.intro (@conc95) (@zT96)))))) (And.intro (And.intro (And.intro (And.intro (@szT96) (And.intro (@arT96) (@conc96))) (And.intro (@undS96) (And.intro (@elT96) (@elB96)))) (And.intro (And.intro (@bsT96) (And.intro (@mkT96) (@azT96))) (And.intro (@zeroT96) (And.intro (@zT97) (@szT97))))) (And.intro (And.intro (And.intro (@arT97) (And.intro (@conc97) (@zT98))) (And.intro (@szT98) (And.intro (@arT98) (@conc98)))) (And.intro (And.intro (@zT99) (And.intro (@szT99) (@arT99))) (And.intro (And.intro (@conc99) (@zT100)) (And.intro (@szT100) (@arT100))))))) (And.intro (And.intro (And.intro (And.intro (And.intro (@conc100) (And.intro (@zT101) (@szT101))) (And.intro (@arT101) (And.intro (@conc101) (@zT102)))) (And.intro (And.intro (@szT102) (And.intro (@arT102) (@conc102))) (And.intro (@undS102) (And.intro (@elT102) (@azT102))))) (And.intro (And.intro (And.intro (@zeroT102) (And.intro (@bT102) (@fldT102_0))) (And.intro (@fldT102_1) (And.intro (@fldT102_2) (@zT103)))) (And.intro (And.intro (@szT103) (And.intro (@arT103) (@conc103))) (And.intro (And.intro (@undS103) (@elT103)) (And.intro (@azT103) (@zeroT103)))))) (And.intro (And.intro (And.intro (And.intro (@bT103) (And.intro (@fldT103_0) (@fldT103_1))) (And.intro (@fldT103_2) (And.intro (@zT105) (@szT105)))) (And.intro (And.intro (@arT105) (And.intro (@conc105) (@undS105))) (And.intro (And.intro (@elT105) (@azT105)) (And.intro (@zeroT105) (@bT105))))) (And.intro (And.intro (And.intro (@fldT105_0) (And.intro (@fldT105_1) (@zT106))) (And.intro (@szT106) (And.intro (@arT106) (@conc106)))) (And.intro (And.intro (@undS106) (And.intro (@elT106) (@azT106))) (And.intro (And.intro (@zeroT106) (@bT106)) (And.intro (@fldT106_0) (@fldT106_1))))))))) (And.intro (And.intro (And.intro (And.intro (And.intro (And.intro (And.intro (@zT107) (And.intro (@szT107) (@conc107))) (And.intro (@undS107) (And.intro (@elT107) (@arT107)))) (And.intro (And.intro (@azT107) (And.intro (@zeroT107) (@zT108))) (And.intro (@szT108) (And.intro (@arT108) (@conc108))))) (And.intro (And.intro (And.intro (@zT109) (And.intro (@szT109) (@arT109))) (And.intro (@conc109) (And.intro (@zT110) (@szT110)))) (And.intro (And.intro (@arT110) (And.intro (@conc110) (@zT112))) (And.intro (And.intro (@szT112) (@arT112)) (And.intro (@conc112) (@zT114)))))) (And.intro (And.intro (And.intro (And.intro (@szT114) (And.intro (@arT114) (@conc114))) (And.intro (@zT116) (And.intro (@szT116) (@arT116)))) (And.intro (And.intro (@conc116) (And.intro (@zT117) (@szT117))) (And.intro (@arT117) (And.intro (@conc117) (@zT118))))) (And.intro (And.intro (And.intro (@szT118) (And.intro (@arT118) (@conc118))) (And.intro (@zT119) (And.intro (@szT119) (@arT119)))) (And.intro (And.intro (@conc119) (And.intro (@zT120) (@szT120))) (And.intro (And.intro (@arT120) (@conc120)) (And.intro (@zT121) (@szT121))))))) (And.intro (And.intro (And.intro (And.intro (And.intro (@arT121) (And.intro (@conc121) (@undS121))) (And.intro (@intT121) (And.intro (@elT121) (@azT121)))) (And.intro (And.intro (@zeroT121) (And.intro (@zT123) (@szT123))) (And.intro (@arT123) (And.intro (@conc123) (@zT124))))) (And.intro (And.intro (And.intro (@szT124) (And.intro (@arT124) (@conc124))) (And.intro (@zT125) (And.intro (@szT125) (@arT125)))) (And.intro (And.intro (@conc125) (And.intro (@undS125) (@elT125))) (And.intro (And.intro (@elB125) (@bsT125)) (And.intro (@mkT125) (@azT125)))))) (And.intro (And.intro (And.intro (And.intro (@zeroT125) (And.intro (@zT126) (@szT126))) (And.intro (@arT126) (And.intro (@conc126) (@zT127)))) (And.intro (And.intro (@szT127) (And.intro (@arT127) (@conc127))) (And.intro (And.intro (@zT128) (@szT128)) (And.intro (@arT128) (@conc128))))) (And.intro (And.intro (And.intro (@undS128) (And.intro (@elT128) (@elB128))) (And.intro (@bsT128) (And.intro (@mkT128) (@azT128)))) (And.intro (And.intro (@zeroT128) (And.intro (@zT129) (@szT129))) (And.intro (And.intro (@arT129) (@zT130)) (And.intro (@szT130) (@arT130)))))))) (And.intro (And.intro (And.intro (And.intro (And.intro (And.intro (@zT131) (And.intro (@szT131) (@arT131))) (And.intro (@conc131) (And.intro (@zT132) (@szT132)))) (And.intro (And.intro (@arT132) (And.intro (@conc132) (@zT133))) (And.intro (@szT133) (And.intro (@arT133) (@conc133))))) (And.intro (And.intro (And.intro (@zT134) (And.intro (@szT134) (@arT134))) (And.intro (@conc134) (And.intro (@zT135) (@szT135)))) (And.intro (And.intro (@arT135) (And.intro (@conc135) (@undS135))) (And.intro (And.intro (@elT135) (@azT135)) (And.intro (@zeroT135) (@bT135)))))) (And.intro (And.intro (And.intro (And.intro (@fldT135_0) (And.intro (@fldT135_1) (@zT136))) (And.intro (@szT136) (And.intro (@arT136) (@conc136)))) (And.intro (And.intro (@undS136) (And.intro (@elT136) (@azT136))) (And.intro (@zeroT136) (And.intro (@bT136) (@fldT136_0))))) (And.intro (And.intro (And.intro (@fldT136_1) (And.intro (@zT138) (@szT138))) (And.intro (@arT138) (And.intro (@conc138) (@zT139)))) (And.intro (And.intro (@szT139) (And.intro (@arT139) (@conc139))) (And.intro (And.intro (@zT140) (@szT140)) (And.intro (@arT140) (@conc140))))))) (And.intro (And.intro (And.intro (And.intro (And.intro (@zT141) (And.intro (@szT141) (@arT141))) (And.intro (@conc141) (And.intro (@zT142) (@szT142)))) (And.intro (And.intro (@arT142) (And.intro (@conc142) (@zT143))) (And.intro (@szT143) (And.intro (@arT143) (@conc143))))) (And.intro (And.intro (And.intro (@undS143) (And.intro (@intT143) (@elT143))) (And.intro (@azT143) (And.intro (@zeroT143) (@zT144)))) (And.intro (And.intro (@szT144) (And.intro (@arT144) (@conc144))) (And.intro (And.intro (@zT145) (@szT145)) (And.intro (@arT145) (@conc145)))))) (And.intro (And.intro (And.intro (And.intro (@undS145) (And.intro (@intT145) (@elT145))) (And.intro (@azT145) (And.intro (@zeroT145) (@zT146)))) (And.intro (And.intro (@szT146) (And.intro (@arT146) (@conc146))) (And.intro (And.intro (@zT154) (@szT154)) (And.intro (@arT154) (@conc154))))) (And.intro (And.intro (And.intro (@zT155) (And.intro (@szT155) (@zeroT155))) (And.intro (@arT155) (And.intro (@conc155) (@zT160)))) (And.intro (And.intro (@szT160) (And.intro (@arT160) (@conc160))) (And.intro (And.intro (@undS160) (@elT160)) (And.intro (@azT160) (@zeroT160))))))))))

end Go.Proofs.Ytliomkpmadpibaa
end
section
set_option linter.unusedVariables false
set_option linter.unusedSimpArgs false
namespace Go.V
set_option linter.unusedSectionVars false
variable [Inhabited GivT]
theorem mapM_move {α β : Type} {f g : α → Option β} {Q : β → Prop} : ∀ (l : List α) (ys : List β), (∀ x ∈ l, ∀ y, f x = some y → Q y → g x = some y) → l.mapM f = some ys → (∀ y ∈ ys, Q y) → l.mapM g = some ys
  | [], ys, _, h, _ => by simpa using h
  | x :: l, ys, hfg, h, hq => by
    rw [List.mapM_cons] at h ⊢
    simp only [Option.bind_eq_bind, Option.bind_eq_some_iff, Option.pure_def, Option.some.injEq] at h ⊢
    obtain ⟨y, hy, zs, hz, rfl⟩ := h
    exact ⟨y, hfg x (by simp) y hy (hq y (by simp)), zs, mapM_move l zs (fun a ha => hfg a (by simp [ha])) hz (fun a ha => hq a (by simp [ha])), rfl⟩

theorem mapM_get {α β : Type} {f : α → Option β} : ∀ (l : List α) (ys : List β), l.mapM f = some ys → ys.length = l.length ∧ ∀ (i : Nat) (x : α), l[i]? = some x → ∃ y, ys[i]? = some y ∧ f x = some y
  | [], ys, h => by
    simp at h; subst h; simp
  | x :: l, ys, h => by
    rw [List.mapM_cons] at h
    simp only [Option.bind_eq_bind, Option.bind_eq_some_iff, Option.pure_def, Option.some.injEq] at h
    obtain ⟨y, hy, zs, hz, rfl⟩ := h
    obtain ⟨h1, h2⟩ := mapM_get l zs hz
    refine ⟨by simp [h1], fun i a ha => ?_⟩
    cases i with
    | zero => simp at ha; subst ha; exact ⟨y, by simp, hy⟩
    | succ i => simpa using h2 i a (by simpa using ha)

/-- Types of numbers, truths, structs and slices of such. -/
def goodT (P : Program) : Nat → TypeId → Bool
  | 0, _ => false
  | d + 1, t => match P.underlying t with
    | some .bool => true
    | some (.int _) => true
    | some (.struct fs) => fs.toList.all fun f => goodT P d f.type
    | some (.slice e) => decide (0 < P.cellsOf e) && goodT P d e
    | _ => false

theorem cell_move {W W' : World} (hh : ∀ b, b < W.heap.size → W'.heap[b]? = W.heap[b]?) {a : Addr} {v : Value} (h : W.cell? a = some v) : W'.cell? a = some v := by
  unfold World.cell? at h ⊢
  split at h
  · rename_i c e fz hb
    rw [hh _ (Array.getElem?_eq_some_iff.1 hb).1, hb]
    exact h
  · cases h

theorem cells_move {W W' : World} (hh : ∀ b, b < W.heap.size → W'.heap[b]? = W.heap[b]?) {base : Nat} {a : Addr} {n : Nat} {vs : List Value} (h : W.cells? base a n = some vs) : W'.cells? base a n = some vs := by
  unfold World.cells? at h ⊢
  split at h
  · rename_i hb
    rw [if_pos hb]
    exact mapM_move (Q := fun _ => True) _ _ (fun i _ y hy _ => cell_move hh hy) h (fun _ _ => trivial)
  · cases h

theorem trod_move {H : Type} {enc : TypeId × Value → H} {P : Program} {W W' : World} {held : Bool} (hh : ∀ b, b < W.heap.size → W'.heap[b]? = W.heap[b]?) {sp : Nat → Bool} :
    ∀ (d fuel : Nat) (t : TypeId) (cs : List Value) (x : DataW H × List MemPlace), goodT P d t = true → DataW.trod enc P W 0 (fun _ => true) held fuel t cs = some x → (∀ p ∈ x.2, sp p.block = true) →
      DataW.trod enc P W' 0 sp held fuel t cs = some x := by
  intro d
  induction d with
  | zero => intro fuel t cs x hg; cases hg
  | succ d ih =>
    intro fuel t cs x hg h hs
    cases fuel with
    | zero => cases h
    | succ fuel =>
      unfold goodT at hg
      unfold DataW.trod at h ⊢
      cases hu : P.underlying t with
      | none => rw [hu] at hg; cases hg
      | some td =>
        rw [hu] at hg h
        cases td <;> simp only at hg <;> try (exact absurd hg Bool.false_ne_true)
        case bool =>
          split at h <;> simp_all
        case int k =>
          split at h <;> simp_all
        case struct fs =>
          split at h <;> try (simp_all; done)
          case _ fs' heq =>
            simp only [Option.some.injEq, TypeDesc.struct.injEq] at heq
            subst heq
            split at h
            case isTrue hl =>
              rw [if_pos hl]
              rw [Option.map_eq_some_iff] at h ⊢
              obtain ⟨ys, hy, rfl⟩ := h
              refine ⟨ys, ?_, rfl⟩
              refine mapM_move (Q := fun y => ∀ p ∈ y.2, sp p.block = true) _ _ (fun f hf y hy hq => ?_) hy (fun y hy p hp => hs p (List.mem_flatMap.2 ⟨y, hy, hp⟩))
              exact ih fuel f.type _ y (List.all_eq_true.1 hg f hf) hy hq
            case isFalse hl => cases h
        case slice e =>
          simp only [Bool.and_eq_true, decide_eq_true_eq] at hg
          obtain ⟨hpos, hg⟩ := hg
          split at h <;> try (simp_all; done)
          case _ e' a len cap heq =>
            simp only [Option.some.injEq, TypeDesc.slice.injEq] at heq
            subst heq
            have hel : ∀ i y, (W.cells? 0 (a.add (i * P.cellsOf e)) (P.cellsOf e)).bind (DataW.trod enc P W 0 (fun _ => true) held fuel e) = some y → (∀ p ∈ y.2, sp p.block = true) →
                (W'.cells? 0 (a.add (i * P.cellsOf e)) (P.cellsOf e)).bind (DataW.trod enc P W' 0 sp held fuel e) = some y := by
              intro i y hy hq
              rw [Option.bind_eq_some_iff] at hy ⊢
              obtain ⟨c, h1, h2⟩ := hy
              exact ⟨c, cells_move hh h1, ih fuel e c y hg h2 hq⟩
            simp only at h ⊢
            split at h
            case isFalse hl => cases h
            case isTrue hl =>
              rw [if_pos hl]
              rw [Option.bind_eq_some_iff] at h ⊢
              obtain ⟨es, he, h⟩ := h
              rw [if_pos trivial, Option.map_eq_some_iff] at h
              obtain ⟨rs, hr, rfl⟩ := h
              have hs2 : ∀ y ∈ es ++ rs, ∀ p ∈ y.2, sp p.block = true := fun y hy p hp => hs p (List.mem_append.2 (.inr (List.mem_flatMap.2 ⟨y, hy, hp⟩)))
              refine ⟨es, mapM_move (Q := fun y => ∀ p ∈ y.2, sp p.block = true) _ _ (fun i _ y hy hq => hel i y hy hq) he (fun y hy => hs2 y (by simp [hy])), ?_⟩
              rw [Option.map_eq_some_iff]
              refine ⟨rs, ?_, rfl⟩
              have hrl := (mapM_get _ _ hr).1
              by_cases hz : es.length + rs.length = 0
              · have : rs = [] := List.eq_nil_of_length_eq_zero (by omega)
                subst this
                have hc : cap - len = 0 := by simpa using hrl.symm
                split
                · rw [hc]; rfl
                · rfl
              · have hsp : sp a.block = true := by
                  refine hs (.cell a.block (a.off + 0)) (List.mem_append.2 (.inl ?_))
                  unfold MemPlace.row
                  refine List.mem_map.2 ⟨0, List.mem_range.2 ?_, rfl⟩
                  exact Nat.mul_pos (by omega) hpos
                rw [if_pos hsp]
                exact mapM_move (Q := fun y => ∀ p ∈ y.2, sp p.block = true) _ _ (fun j _ y hy hq => hel _ y hy hq) hr (fun y hy => hs2 y (by simp [hy]))

theorem trodAll_move {H : Type} {enc : TypeId × Value → H} {P : Program} {W W' : World} {held : Bool} (hh : ∀ b, b < W.heap.size → W'.heap[b]? = W.heap[b]?) {sp : Nat → Bool} (d : Nat) :
    ∀ (ts : List TypeId) (vs : List Value) (ds : List (DataW H)) (ps : List MemPlace), (∀ t ∈ ts, goodT P d t = true) → DataW.TrodAll enc P W 0 (fun _ => true) held ts vs ds ps → (∀ p ∈ ps, sp p.block = true) →
      DataW.TrodAll enc P W' 0 sp held ts vs ds ps
  | [], [], [], ps, _, h, _ => h
  | t :: ts, v :: vs, x :: ds, ps, hg, h, hs => by
    obtain ⟨p, q, ⟨fuel, h1⟩, h2, rfl⟩ := h
    exact ⟨p, q, ⟨fuel, trod_move hh d fuel t _ (x, p) (hg t (by simp)) h1 (fun z hz => hs z (by simp [hz]))⟩, trodAll_move hh d ts vs ds q (fun u hu => hg u (by simp [hu])) h2 (fun z hz => hs z (by simp [hz])), rfl⟩
  | [], _ :: _, _, _, _, h, _ => h.elim
  | [], [], _ :: _, _, _, h, _ => h.elim
  | _ :: _, [], _, _, _, h, _ => h.elim
  | _ :: _, _ :: _, [], _, _, h, _ => h.elim

/-- The state in which a call begins: all memory that is there is never written. -/
def st0 (W : World) : St := { w := W, imm := fun b => b < W.heap.size, loc := fun _ _ => .unk, next := 0 }
def H0 : Hp := fun _ => none
theorem st0_rel (W : World) (hg : ∀ p ∈ (default : GivT).l, VRel (st0 W) p.1 p.2) : HRel (st0 W) H0 := ⟨fun i _ => ⟨rfl, fun _ => rfl⟩, fun b h => h, fun i o h => (by cases h), fun i j o o' b h => (by cases h), hg⟩

inductive LitK where
  | int (k : IntKind)
  | bool
  deriving DecidableEq

def LitK.ok : LitK → Value → Prop
  | .int k, v => ∃ n, v = .int k n ∧ (Lit.int k n).wf = true
  | .bool, v => ∃ b, v = .bool b

/-- A type whose values are so many numbers and truths. -/
def litsT (P : Program) : Nat → TypeId → Option (List LitK)
  | 0, _ => none
  | d + 1, t => match P.underlying t with
    | some .bool => some [.bool]
    | some (.int k) => some [.int k]
    | some (.struct fs) => match fs.toList.foldl (fun acc f => match acc with
        | some ks => match litsT P d f.type with
          | some l => if f.offset = ks.length ∧ P.cellsOf f.type = l.length then some (ks ++ l) else none
          | none => none
        | none => none) (some []) with
      | some ks => if P.cellsOf t = ks.length then some ks else none
      | none => none
    | _ => none

def LitsOk (ks : List LitK) (cs : List Value) : Prop := cs.length = ks.length ∧ ∀ (i : Nat) (k : LitK) (v : Value), ks[i]? = some k → cs[i]? = some v → k.ok v

theorem LitsOk.append {ks ls : List LitK} {cs ds : List Value} (h : LitsOk ks cs) (h' : LitsOk ls ds) : LitsOk (ks ++ ls) (cs ++ ds) := by
  refine ⟨by simp [h.1, h'.1], fun i k v hk hv => ?_⟩
  by_cases hi : i < ks.length
  · rw [List.getElem?_append_left hi] at hk
    rw [List.getElem?_append_left (by rw [h.1]; exact hi)] at hv
    exact h.2 i k v hk hv
  · rw [List.getElem?_append_right (by omega)] at hk
    rw [List.getElem?_append_right (by rw [h.1]; omega), h.1] at hv
    exact h'.2 _ k v hk hv

theorem trod_lits {H : Type} {enc : TypeId × Value → H} {P : Program} {W : World} {held : Bool} {sp : Nat → Bool} :
    ∀ (d fuel : Nat) (t : TypeId) (cs : List Value) (x : DataW H × List MemPlace) (ks : List LitK), litsT P d t = some ks → DataW.trod enc P W 0 sp held fuel t cs = some x → LitsOk ks cs := by
  intro d
  induction d with
  | zero => intro fuel t cs x ks hg; cases hg
  | succ d ih =>
    intro fuel t cs x ks hg h
    cases fuel with
    | zero => cases h
    | succ fuel =>
      unfold litsT at hg
      unfold DataW.trod at h
      cases hu : P.underlying t with
      | none => rw [hu] at hg; cases hg
      | some td =>
        rw [hu] at hg h
        cases td <;> simp only at hg <;> try (cases hg; done)
        case bool =>
          cases hg
          split at h <;> simp_all
          rename_i b
          exact ⟨rfl, fun i k v hk hv => by cases i <;> simp at hk hv; subst hk hv; exact ⟨_, rfl⟩⟩
        case int k =>
          cases hg
          split at h <;> simp_all
          rename_i n hh
          exact ⟨rfl, fun i k v hk hv => by cases i <;> simp at hk hv; subst hk hv; exact ⟨_, rfl, h.1.2⟩⟩
        case struct fs =>
          split at h <;> try (simp_all; done)
          case _ fs' heq =>
            simp only [Option.some.injEq, TypeDesc.struct.injEq] at heq
            subst heq
            split at h
            case isFalse hl => cases h
            case isTrue hl =>
              rw [Option.map_eq_some_iff] at h
              obtain ⟨ys, hy, rfl⟩ := h
              have key : ∀ (c : List Value) (l : List Field) (acc ks : List LitK), (∀ f ∈ l, ∃ y, DataW.trod enc P W 0 sp held fuel f.type ((c.drop f.offset).take (P.cellsOf f.type)) = some y) → LitsOk acc (c.take acc.length) →
                  l.foldl (fun acc f => match acc with
                    | some ks => match litsT P d f.type with
                      | some l => if f.offset = ks.length ∧ P.cellsOf f.type = l.length then some (ks ++ l) else none
                      | none => none
                    | none => none) (some acc) = some ks → LitsOk ks (c.take ks.length) := by
                intro c l
                induction l with
                | nil => intro acc ks _ ha he; simp at he; subst he; exact ha
                | cons f l ih2 =>
                  intro acc ks hf ha he
                  simp only [List.foldl_cons] at he
                  have hnone : ∀ l : List Field, l.foldl (fun acc f => match acc with
                    | some ks => match litsT P d f.type with
                      | some l => if f.offset = ks.length ∧ P.cellsOf f.type = l.length then some (ks ++ l) else none
                      | none => none
                    | none => none) none = (none : Option (List LitK)) := by
                    intro l; induction l with
                    | nil => rfl
                    | cons a l ih => simpa using ih
                  cases hl2 : litsT P d f.type with
                  | none => rw [hl2] at he; simp only at he; rw [hnone] at he; cases he
                  | some lk =>
                    rw [hl2] at he
                    simp only at he
                    by_cases hc : f.offset = acc.length ∧ P.cellsOf f.type = lk.length
                    · rw [if_pos hc] at he
                      obtain ⟨y, hy⟩ := hf f (by simp)
                      have := ih fuel f.type _ y lk hl2 hy
                      rw [hc.1, hc.2] at this
                      have hap := ha.append this
                      refine ih2 (acc ++ lk) ks (fun g hg => hf g (by simp [hg])) ?_ he
                      rw [List.length_append, List.take_add]
                      exact hap
                    · rw [if_neg hc, hnone] at he; cases he
              split at hg
              case h_2 => cases hg
              case h_1 ks' he =>
                split at hg
                case isFalse => cases hg
                case isTrue hc =>
                  cases hg
                  have := key _ fs.toList [] ks (fun f hf => by
                    obtain ⟨i, hi⟩ := List.getElem?_of_mem hf
                    obtain ⟨y, _, h2⟩ := (mapM_get _ _ hy).2 i f hi
                    exact ⟨y, h2⟩) ⟨by simp, fun i k v hk => by simp at hk⟩ he
                  rw [List.take_of_length_le (by rw [hl, hc]; exact Nat.le_refl _)] at this
                  exact this

end Go.V
end
section
set_option linter.unusedVariables false
set_option linter.unusedSimpArgs false
namespace Go.V
set_option linter.unusedSectionVars false
variable [Inhabited GivT]
theorem trod_slice_rel {H : Type} {enc : TypeId × Value → H} {P : Program} {W : World} {held : Bool} {sp : Nat → Bool} {d fuel : Nat} {t e : TypeId} {v : Value} {x : DataW H × List MemPlace} {ks : List LitK}
    (ht : P.underlying t = some (.slice e)) (hk : litsT P d e = some ks) (hsz : P.cellsOf e = ks.length) (hpos : 0 < ks.length) (h : DataW.trod enc P W 0 sp held fuel t [v] = some x) :
    ∃ (n : Nat) (g : Nat → List Value), n ≤ maxLen ∧ (∀ i, i < n → LitsOk ks (g i)) ∧ VRel (st0 W) (.rsl n ks.length (fun i => (g i).map AV.lit)) v := by
  cases fuel with
  | zero => cases h
  | succ fuel =>
    unfold DataW.trod at h
    rw [ht] at h
    split at h <;> try (simp_all; done)
    · rename_i heq heq2
      simp only [List.cons.injEq, and_true] at heq2
      subst heq2
      exact ⟨0, fun _ => [], Nat.zero_le _, fun i hi => by omega, .rsl0⟩
    · rename_i e' a len cap heq heq2
      simp only [Option.some.injEq, TypeDesc.slice.injEq] at heq
      simp only [List.cons.injEq, and_true] at heq2
      subst heq heq2
      simp only at h
      split at h
      case isFalse hl => cases h
      case isTrue hl =>
        rw [Option.bind_eq_some_iff] at h
        obtain ⟨es, he, -⟩ := h
        let g : Nat → List Value := fun i => match W.cells? 0 (a.add (i * P.cellsOf e)) (P.cellsOf e) with
          | some c => c
          | none => []
        have hel : ∀ i, i < len → W.cells? 0 (a.add (i * P.cellsOf e)) (P.cellsOf e) = some (g i) ∧ LitsOk ks (g i) := by
          intro i hi
          obtain ⟨y, _, hy⟩ := (mapM_get _ _ he).2 i i (by simp [hi])
          rw [Option.bind_eq_some_iff] at hy
          obtain ⟨c, h1, h2⟩ := hy
          have : g i = c := by simp only [g, h1]
          rw [this]
          exact ⟨h1, trod_lits d fuel _ c y ks hk h2⟩
        refine ⟨len, g, Nat.le_trans hl.2.1 hl.2.2, fun i hi => (hel i hi).2, ?_⟩
        by_cases h0 : len = 0
        · subst h0; exact .rsl0
        have hcell : ∀ i j, i < len → j < ks.length → ∃ u, (g i)[j]? = some u ∧ W.cell? ((a.add (i * P.cellsOf e)).add j) = some u := by
          intro i j hi hj
          have h1 := (hel i hi).1
          unfold World.cells? at h1
          rw [if_pos (Nat.zero_le _)] at h1
          exact (mapM_get _ _ h1).2 j j (by simp [hsz, hj])
        obtain ⟨b, off, spot⟩ := a
        obtain ⟨u0, _, hc0⟩ := hcell 0 0 (by omega) hpos
        rw [show ((⟨b, off, spot⟩ : Addr).add (0 * P.cellsOf e)).add 0 = ⟨b, off, spot⟩ from by simp [Addr.add]] at hc0
        unfold World.cell? at hc0
        split at hc0
        case h_2 => cases hc0
        case h_1 c ct fz hb =>
          have hspot : spot = none := by
            cases spot with
            | none => rfl
            | some s => simp at hc0
          subst hspot
          have hadd : ∀ i j, (((⟨b, off, none⟩ : Addr).add (i * P.cellsOf e)).add j) = ⟨b, off + i * P.cellsOf e + j, none⟩ := fun i j => by rw [addr_add, addr_add]
          have hall : ∀ i j, i < len → j < ks.length → ∃ u, (g i)[j]? = some u ∧ c[off + i * ks.length + j]? = some u := by
            intro i j hi hj
            obtain ⟨u, h1, h2⟩ := hcell i j hi hj
            rw [hadd] at h2
            unfold World.cell? at h2
            simp only at hb
            rw [show W.heap[(⟨b, off + i * P.cellsOf e + j, none⟩ : Addr).block]? = some (.cells c ct fz) from hb] at h2
            simp only [Option.isSome_none, Bool.false_eq_true, if_false, hsz] at h2
            exact ⟨u, h1, h2⟩
          refine .rsl (c := c) (e := ct) (fz := fz) ?_ hb ?_ (fun i hi => by simpa using (hel i hi).2.1) (fun i j hi hj => ?_) hl.2.1
          · exact (Array.getElem?_eq_some_iff.1 hb).1
          · obtain ⟨u, _, h2⟩ := hall (len - 1) (ks.length - 1) (by omega) (by omega)
            have := (Array.getElem?_eq_some_iff.1 h2).1
            have e1 : len * ks.length = (len - 1) * ks.length + ks.length := by
              obtain ⟨q, rfl⟩ : ∃ q, len = q + 1 := ⟨len - 1, by omega⟩
              rw [Nat.add_sub_cancel, Nat.succ_mul]
            omega
          · obtain ⟨u, h1, h2⟩ := hall i j hi hj
            rw [List.getD_eq_getElem?_getD, List.getElem?_map, h1, Array.getD_eq_getD_getElem?, h2]
            exact .lit _

end Go.V
end
section
set_option linter.unusedVariables false
set_option linter.unusedSimpArgs false
namespace Go.V
set_option linter.unusedSectionVars false
variable [Inhabited GivT]
open Go.ChangeShapes Go.WideShapes
theorem law_post {H : Type} {enc : TypeId × Value → H} {P : Program} {f : Func} {s : ChangeSpec} {apart fresh handsOn again : Bool} {W W' : World} {args : Array Value} {ds gs : List (DataW H)} {before : List MemPlace} {tb : TypeId} {d : Nat}
    (hv0 : s.vars = []) (hrt : f.resultTypes = #[tb]) (hb : P.underlying tb = some .bool) (hgood : ∀ t ∈ f.params.toList, goodT P d t = true)
    (hW : DataW.Whole enc P f.params.toList s.vars apart W args.toList ds gs before)
    (hfn : s.fn H (ds ++ gs) = { results := [.lit (.bool true)], args := ds })
    (hh : ∀ b, b < W.heap.size → W'.heap[b]? = W.heap[b]?) (hos : W'.os = W.os) (hout : W'.output = W.output) : s.post enc P f apart fresh handsOn again W args (.bool true) W' := by
  have hW' := hW
  obtain ⟨p, q, hA, hV, rfl, hz, hn⟩ := hW
  rw [hv0] at hV
  have hgq : gs = [] ∧ q = [] := by
    cases gs with
    | nil => exact ⟨rfl, hV⟩
    | cons _ _ => exact hV.elim
  obtain ⟨rfl, rfl⟩ := hgq
  have hlt : ∀ z ∈ p ++ [], z.block < W.heap.size := fun z hz => hW'.lt z hz
  have hold : ∀ z ∈ p, (fun b => decide (b < W.heap.size)) z.block = true := fun z hz => by simpa using hlt z (by simpa using hz)
  have hres : ∀ (b : Nat) (sp : Nat → Bool) (hd : Bool), DataW.TrodAll enc P W' b sp hd f.resultTypes.toList ((Value.bool true).resultList f.resultTypes.size) (s.fn H (ds ++ [])).results [] := by
    intro b sp hd
    rw [hfn, hrt]
    exact ⟨[], [], ⟨1, by simp [DataW.trod, hb, Value.cells]⟩, rfl, rfl⟩
  have hargs : ∀ sp : Nat → Bool, (∀ z ∈ p, sp z.block = true) → DataW.TrodAll enc P W' 0 sp true f.params.toList args.toList (s.fn H (ds ++ [])).args p := by
    intro sp hs
    rw [hfn]
    exact trodAll_move hh d _ _ _ _ hgood hA hs
  refine ⟨ds, [], p ++ [], [], p, [], hW', hres _ _ _, hargs _ hold, ?_, ⟨hos, hout, fun i hi => ?_⟩, fun _ => ?_⟩
  · rw [hv0, hfn]; exact rfl
  · rw [hh i hi]
    cases W.heap[i]? with
    | none => rfl
    | some o => cases o <;> first | exact ⟨rfl, rfl, rfl, fun _ _ => rfl⟩ | exact .inr ⟨rfl, rfl⟩ | rfl
  · refine ⟨fun j t r h1 h2 => ?_, _, [], ([] ++ p) ++ [], ⟨[] ++ p, [], trodAll_append (hargs _ (fun _ _ => rfl)) (hres _ _ _), ?_, rfl, ?_, ?_⟩, ?_⟩
    · rw [hrt] at h1 h2
      have hj : j = 0 := by
        have := (Array.getElem?_eq_some_iff.1 h1).1
        simp at this; omega
      subst hj
      simp [Value.resultList] at h1 h2
      subst h1 h2
      simp [Value.okWide, hb, Cell.okWide, Cell.ok]
    · rw [hv0]; exact rfl
    · intro b off hm
      have hm' : MemPlace.cell b off ∈ p ++ [] := by simpa using hm
      have := hz b off hm'
      have hb' : b < W.heap.size := hlt _ hm'
      unfold World.frozen? at this ⊢
      simp only [hh b hb']
      exact this
    · intro ha
      have := hn ha
      simpa using this
    · intro z hz _
      simpa using hz

end Go.V
end
section
set_option linter.unusedVariables false
set_option linter.unusedSimpArgs false
namespace Go.V
set_option linter.unusedSectionVars false
variable [Inhabited GivT]
theorem law_calls {P : Program} {f : FuncId} {fn : Func} {c : Code} {W : World} {args : Array Value} {avs : List AV} (hf : P.funcs[f]? = some fn) (hname : (fn.name == "runtime.NumGoroutine") = false) (hb : fn.body = some c)
    (hT : Tri P (.func (.func f) [] []) avs H0 fun r _ => r = .ret (.lit (.bool true))) (hg : ∀ p ∈ (default : GivT).l, VRel (st0 W) p.1 p.2) (ha : VRels (st0 W) avs args.toList) :
    Calls P f args W fun e W' => e = .returned (.bool true) ∧ (∀ b, b < W.heap.size → W'.heap[b]? = W.heap[b]?) ∧ W'.os = W.os ∧ W'.output = W.output := by
  obtain ⟨nx, h1, h2⟩ := hT (st0 W) (.func (.func f) #[] #[]) args.toList (st0_rel W hg) (.func rfl rfl (fun k hk => absurd hk (by simp)) (fun k hk => absurd hk (by simp))) ha
  have hcf : (callFunc f args).run P W = .ok (.enter f args) W := by
    simp only [callFunc, Sem.run_bind, run_program, Result.andThen_ok, hf, hname, hb]
    simp
  simp only [Deferred.ofValue, Sem.run_bind, Sem.run_pure, Result.andThen_ok, invoke] at h1
  have e : (#[] : Array Value) ++ args.toList.toArray ++ #[] = args := by simp
  rw [e] at h1
  have h1' : (callFunc f args).run P W = .ok nx W := h1
  rw [hcf] at h1'
  injection h1' with h1' _
  subst h1'
  refine Calls.mono h2 ?_
  rintro e w ⟨S', r, H', rfl, hle, hH', hrr, hr⟩
  subst hr
  refine ⟨?_, fun b hb => hle.keep b hb, hle.os, hle.output⟩
  cases e with
  | returned v => rw [VRel.lit_inv hrr]
  | panicked ch => exact hrr.elim
  | outgrown => exact hrr.elim

end Go.V
end
section
set_option linter.unusedVariables false
set_option linter.unusedSimpArgs false
namespace Go.V
set_option linter.unusedSectionVars false
variable [Inhabited GivT]
open Go.ChangeShapes
def st2 (P : Program) (t a oa b ob : Nat) : Bool := match P.underlying t with
  | some (.struct fs) => (match fs.toList with
    | [f0, f1] => f0.type == a && f0.offset == oa && f1.type == b && f1.offset == ob
    | _ => false)
  | _ => false
end Go.V
end
section
set_option linter.unusedVariables false
namespace Go.V
set_option linter.unusedSectionVars false
variable [Inhabited GivT]
theorem frz_step {S : St} {H : Hp} {id st n : Nat} {f : Nat → List AV} (hH : HRel S H) (ho : H id = some (.row st n f)) :
    ∃ S2, S2.w = S.w ∧ Le S S2 ∧ HRel S2 (H.del id) ∧ ∀ v, VRel S (.sl id st n) v → VRel S2 (.rsl n st f) v := by
  obtain ⟨hg, hcase⟩ := hH.obj id _ ho
  rcases hcase with ⟨rfl, hnil⟩ | ⟨b, c, e, hl, hb, hni, hc⟩
  · refine ⟨S, rfl, Le.refl S, hH.sub ?_, ?_⟩
    · intro j o' hj
      by_cases ej : j = id
      · simp [Hp.del, ej] at hj
      · exact ⟨o', by rw [Hp.del_ne _ ej] at hj; exact hj, .refl _⟩
    · intro v this
      cases this with
      | sl hl => rw [hnil] at hl; cases hl
      | slnil _ => exact .rsl0
  · have hle := S.frz_le b
    refine ⟨S.frz b, rfl, hle, ?_, ?_⟩
    · refine ⟨fun i hi => ⟨?_, (hH.fresh i hi).2⟩, ?_, ?_, ?_, fun p hp => (hH.giv p hp).mono hle⟩
      · simp only [Hp.del]; split
        · rfl
        · exact (hH.fresh i hi).1
      · rintro x (hx | rfl)
        · exact hH.immlt x hx
        · exact (Array.getElem?_eq_some_iff.1 hb).1
      · intro i o hi
        have ne : i ≠ id := by intro e; simp [Hp.del, e] at hi
        rw [Hp.del_ne _ ne] at hi
        have old := hH.obj i o hi
        have hne : ∀ x, S.loc i o.gen = .blk x → x ≠ b := fun x hx e => ne (hH.inj i id o _ x hi ho hx (by subst e; exact hl))
        cases o with
        | box st' n' f' =>
          obtain ⟨b', c', e', h1, h2, h3, h4⟩ := old
          exact ⟨b', c', e', h1, h2, fun hx => hx.elim h3 (hne b' h1), h4.1, h4.2.1, fun i j hi hj => (h4.2.2 i j hi hj).mono hle⟩
        | row st' n' f' =>
          obtain ⟨g1, old⟩ := old
          refine ⟨g1, old.imp (fun x => x) ?_⟩
          rintro ⟨b', c', e', h1, h2, h3, h4⟩
          exact ⟨b', c', e', h1, h2, fun hx => hx.elim h3 (hne b' h1), h4.1, h4.2.1, fun i j hi hj => (h4.2.2 i j hi hj).mono hle⟩
        | memo F =>
          obtain ⟨b', es, k, h1, h2, h3, h4⟩ := old
          exact ⟨b', es, k, h1, h2, fun hx => hx.elim h3 (hne b' h1), h4⟩
        | raw o =>
          obtain ⟨b', h1, h2, h3, h4⟩ := old
          exact ⟨b', h1, h2, h3, fun hx => hx.elim h4 (hne b' h1)⟩
        | loop l n s ps assign body st pend did =>
          obtain ⟨h1, h2, fn, tmps, D, h3, h4, h5, h6⟩ := old
          exact ⟨h1, fun hx => hx.elim h2 (hne l h1), fn, tmps, D, h3, h4, h5.mono hle, h6⟩
      · intro i j o o' x hi hj
        have ne : i ≠ id := by intro e; simp [Hp.del, e] at hi
        have ne' : j ≠ id := by intro e; simp [Hp.del, e] at hj
        rw [Hp.del_ne _ ne] at hi
        rw [Hp.del_ne _ ne'] at hj
        exact hH.inj i j o o' x hi hj
    · intro v this
      cases this with
      | sl hl' hb' _ hlen' =>
        rw [hl] at hl'; cases hl'
        exact .rsl (off := 0) (.inr rfl) hb (by rw [Nat.zero_add]; exact hc.1) hc.2.1 (fun i j hi hj => by rw [Nat.zero_add]; exact (hc.2.2 i j hi hj).mono hle) hlen'
      | slnil hl' => rw [hl] at hl'; cases hl'

/-- What is frozen: the row's slices become its data. -/
def Frz (id st n : Nat) (f : Nat → List AV) (x y : AV) : Prop := y = x ∨ (x = .sl id st n ∧ y = .rsl n st f)
theorem Frz.rfl {id st n : Nat} {f : Nat → List AV} {x : AV} : Frz id st n f x x := .inl (Eq.refl x)
theorem Frz.hit {id st n : Nat} {f : Nat → List AV} : Frz id st n f (.sl id st n) (.rsl n st f) := .inr ⟨Eq.refl _, Eq.refl _⟩

/-- A row that is written no more, of which a box tells. -/
theorem Ent.freezeBox {s s' : Fr} {ds : List AD} {H : Hp} {K : Fr → List AD → Hp → Prop} {id st n j st' n' : Nat} {f g g' : Nat → List AV} (ho : H id = some (.row st n f)) (hj : H j = some (.box st' n' g))
    (hs : ∀ t, Frz id st n f (s t) (s' t)) (hl : ∀ k, k < n' → (g' k).length = st') (hg : ∀ k c, k < n' → c < st' → Frz id st n f ((g k).getD c .any) ((g' k).getD c .any))
    (h : K s' ds ((H.del id).set j (.box st' n' g'))) : Ent s ds H K := by
  intro S a hH hF hD
  obtain ⟨S2, hw, hle, h2, hc⟩ := frz_step hH ho
  have hne : j ≠ id := fun e => by rw [e, ho] at hj; cases hj
  have conv : ∀ x y v, Frz id st n f x y → VRel S x v → VRel S2 y v := fun x y v hxy hv => by
    rcases hxy with rfl | ⟨rfl, rfl⟩
    · exact hv.mono hle
    · exact hc v hv
  have hj2 : (H.del id) j = some (.box st' n' g) := by rw [Hp.del_ne _ hne]; exact hj
  refine ⟨S2, s', ds, _, hw, hle, ?_, fun t => conv _ _ _ (hs t) (hF t), hD.mono hle, h⟩
  obtain ⟨b, c, e, a1, a2, a3, a4⟩ := hH.obj j _ hj
  obtain ⟨b2, c2, e2, q1, q2, q3, q4⟩ := h2.obj j _ hj2
  have eb : b2 = b := by
    have := hle.locBlk a1
    rw [this] at q1
    cases q1; rfl
  subst eb
  rw [hw, a2] at q2
  cases q2
  refine ⟨fun i hi => ⟨?_, (h2.fresh i hi).2⟩, h2.immlt, ?_, ?_, h2.giv⟩
  · have hi' := (h2.fresh i hi).1
    by_cases ei : i = j
    · subst ei; rw [hj2] at hi'; cases hi'
    · rw [Hp.set_ne _ _ ei]; exact hi'
  · intro i o hi
    by_cases ei : i = j
    · subst ei
      rw [Hp.set_same] at hi
      cases hi
      exact ⟨b2, c, e, q1, by rw [hw]; exact a2, q3, a4.1, hl, fun k d hk hd => conv _ _ _ (hg k d hk hd) (a4.2.2 k d hk hd)⟩
    · rw [Hp.set_ne _ _ ei] at hi
      exact h2.obj i o hi
  · intro i i' o o' x hi hi' hx hx'
    have back : ∀ k o, ((H.del id).set j (.box st' n' g')) k = some o → ∃ p, (H.del id) k = some p ∧ p.gen = o.gen := fun k o hk => by
      by_cases ek : k = j
      · subst ek
        rw [Hp.set_same] at hk
        cases hk
        exact ⟨_, hj2, Eq.refl _⟩
      · rw [Hp.set_ne _ _ ek] at hk
        exact ⟨o, hk, Eq.refl _⟩
    obtain ⟨p, p1, p2⟩ := back i o hi
    obtain ⟨p', p1', p2'⟩ := back i' o' hi'
    exact h2.inj i i' p p' x p1 p1' (by rw [p2]; exact hx) (by rw [p2']; exact hx')

end Go.V
end
section
set_option linter.unusedVariables false
namespace Go.V
set_option linter.unusedSectionVars false
variable [Inhabited GivT]
theorem HRel.boxUpd {S : St} {H : Hp} {j st n : Nat} {g g' : Nat → List AV} (hH : HRel S H) (hj : H j = some (.box st n g)) (hl : ∀ k, k < n → (g' k).length = st)
    (hg : ∀ k d v, k < n → d < st → VRel S ((g k).getD d .any) v → VRel S ((g' k).getD d .any) v) : HRel S (H.set j (.box st n g')) := by
  obtain ⟨b, c, e, q1, q2, q3, q4⟩ := hH.obj j _ hj
  refine ⟨fun i hi => ⟨?_, (hH.fresh i hi).2⟩, hH.immlt, ?_, ?_, hH.giv⟩
  · have hi' := (hH.fresh i hi).1
    by_cases ei : i = j
    · subst ei; rw [hj] at hi'; cases hi'
    · rw [Hp.set_ne _ _ ei]; exact hi'
  · intro i o hi
    by_cases ei : i = j
    · subst ei
      rw [Hp.set_same] at hi
      cases hi
      exact ⟨b, c, e, q1, q2, q3, q4.1, hl, fun k d hk hd => hg k d _ hk hd (q4.2.2 k d hk hd)⟩
    · rw [Hp.set_ne _ _ ei] at hi
      exact hH.obj i o hi
  · intro i i' o o' x hi hi' hx hx'
    have back : ∀ k o, (H.set j (.box st n g')) k = some o → ∃ p, H k = some p ∧ p.gen = o.gen := fun k o hk => by
      by_cases ek : k = j
      · subst ek
        rw [Hp.set_same] at hk
        cases hk
        exact ⟨_, hj, Eq.refl _⟩
      · rw [Hp.set_ne _ _ ek] at hk
        exact ⟨o, hk, Eq.refl _⟩
    obtain ⟨p, p1, p2⟩ := back i o hi
    obtain ⟨p', p1', p2'⟩ := back i' o' hi'
    exact hH.inj i i' p p' x p1 p1' (by rw [p2]; exact hx) (by rw [p2']; exact hx')

/-- Nil becomes a row of none. -/
def Nld (id st : Nat) (x y : AV) : Prop := y = x ∨ (x = .lit (.slice none 0 0) ∧ y = .sl id st 0)
theorem Nld.rfl {id st : Nat} {x : AV} : Nld id st x x := .inl (Eq.refl x)
theorem Nld.hit {id st : Nat} : Nld id st (.lit (.slice none 0 0)) (.sl id st 0) := .inr ⟨Eq.refl _, Eq.refl _⟩

theorem Ent.nilBox {s : Fr} {ds : List AD} {H : Hp} {K : Fr → List AD → Hp → Prop} {j st' n' : Nat} {g : Nat → List AV} (st : Nat) (f : Nat → List AV) (g' : Nat → Nat → List AV) (hj : H j = some (.box st' n' g))
    (hl : ∀ id k, k < n' → (g' id k).length = st') (hg : ∀ id k c, k < n' → c < st' → Nld id st ((g k).getD c .any) ((g' id k).getD c .any))
    (h : ∀ id, H id = none → K s ds ((H.set id (.row st 0 f)).set j (.box st' n' (g' id)))) : Ent s ds H K := by
  intro S a hH hF hD
  have hnone := St.next_none hH
  have hle := S.layNil_le hH
  have hne : j ≠ S.next := fun e => by rw [← e, hj] at hnone; cases hnone
  have h2 := hH.layNil st f
  have hj2 : (H.set S.next (.row st 0 f)) j = some (.box st' n' g) := by rw [Hp.set_ne _ _ hne]; exact hj
  refine ⟨S.layNil, s, ds, _, rfl, hle, h2.boxUpd hj2 (hl S.next) (fun k d v hk hd hv => ?_), fun t => (hF t).mono hle, hD.mono hle, h S.next hnone⟩
  rcases hg S.next k d hk hd with e | ⟨e1, e2⟩
  · rw [e]; exact hv
  · rw [e2]
    rw [e1] at hv
    have := hv.lit_inv
    subst this
    exact .slnil (by simp [St.layNil])

end Go.V
end
section
set_option linter.unusedVariables false
namespace Go.V
set_option linter.unusedSectionVars false
variable [Inhabited GivT]
/-- A value in which a row is now data. -/
inductive FrzD (id st n : Nat) (f : Nat → List AV) : AV → AV → Prop
  | same (x : AV) : FrzD id st n f x x
  | hit {g : Nat → List AV} (h : ∀ i, i < n → f i = g i) : FrzD id st n f (.sl id st n) (.rsl n st g)
  | agg {cs cs' : List AV} (hl : cs'.length = cs.length) (h : ∀ k, k < cs.length → FrzD id st n f (cs.getD k .any) (cs'.getD k .any)) : FrzD id st n f (.agg cs) (.agg cs')
  | tuple {cs cs' : List AV} (hl : cs'.length = cs.length) (h : ∀ k, k < cs.length → FrzD id st n f (cs.getD k .any) (cs'.getD k .any)) : FrzD id st n f (.tuple cs) (.tuple cs')

theorem FrzD.conv {S S2 : St} {id st n : Nat} {f : Nat → List AV} (hle : Le S S2) (hc : ∀ v, VRel S (.sl id st n) v → VRel S2 (.rsl n st f) v) {x y : AV} (hxy : FrzD id st n f x y) : ∀ v, VRel S x v → VRel S2 y v := by
  induction hxy with
  | same x => intro v hv; exact hv.mono hle
  | hit h => intro v hv; exact AV.Le.rsl h _ _ (hc v hv)
  | agg hl h ih =>
    intro v hv
    cases hv with
    | agg hn hv => exact .agg (hn.trans hl.symm) fun k hk => ih k (by omega) _ (hv k (by omega))
  | tuple hl h ih =>
    intro v hv
    cases hv with
    | tuple hn hv => exact .tuple (hn.trans hl.symm) fun k hk => ih k (by omega) _ (hv k (by omega))

/-- A row that is handed back inside a value, to be written no more. -/
theorem Tri.thawD {P : Program} {fv : AV} {args : List AV} {H : Hp} {R1 R : Res → Hp → Prop} (h : Tri P fv args H R1)
    (hR : ∀ r H', R1 r H' → R r H' ∨ ∃ v v' id st n f, r = .ret v ∧ H' id = some (.row st n f) ∧ FrzD id st n f v v' ∧ R (.ret v') (H'.del id)) : Tri P fv args H R := by
  intro S vf vs hH hvf ha
  obtain ⟨nx, h1, h2⟩ := h S vf vs hH hvf ha
  have ho : ∀ e w, Out S R1 e w → Out S R e w := by
    rintro e w ⟨S', r, H', hw, hle, hH', hres, hr⟩
    rcases hR r H' hr with hr | ⟨v, v', id, st, n, f, rfl, hob, hf, hr⟩
    · exact ⟨S', r, H', hw, hle, hH', hres, hr⟩
    · cases e with
      | returned cv =>
        obtain ⟨S2, hw2, hle2, hH2, hc⟩ := frz_step hH' hob
        exact ⟨S2, .ret v', _, hw2.trans hw, hle.trans hle2, hH2, hf.conv hle2 hc cv hres, hr⟩
      | _ => exact hres.elim
  refine ⟨nx, h1, ?_⟩
  cases nx <;> simp only [NextOk] at h2 ⊢
  · exact Calls.mono h2 ho
  · exact h2.mono ho

end Go.V
end
section
set_option linter.unusedVariables false
namespace Go.V
set_option linter.unusedSectionVars false
variable [Inhabited GivT]
section
variable {r : Option Nat} {P : Program} {m : Option Tmp → Bool} {n : Nat} {k : List It} {s : Fr} {ds : List AD} {H : Hp} {Q : Post}
theorem vs_entL {c : Code} (h : Ent s ds H fun s ds H => VS r P m n (.code (.loop c) :: k) s ds H Q) : VS r P m n (.code (.loop c) :: k) s ds H Q :=
  (wps_ent h : WPS r P n (.loop c) s ds H (TK r P m n k Q))
theorem vs_entR {id : Nat} {l : Array Oper} (h : Ent s ds H fun s ds H => VS r P m n (.code (.region id l true) :: k) s ds H Q) : VS r P m n (.code (.region id l true) :: k) s ds H Q :=
  (wps_ent h : WPS r P n (.region id l true) s ds H (TK r P m n k Q))
end
theorem Hp.del_get (H : Hp) (i j : Nat) : (H.del i) j = if j = i then none else H j := rfl
end Go.V
end
section
set_option linter.unusedVariables false
set_option linter.unusedSimpArgs false
namespace Go.V
set_option linter.unusedSectionVars false
variable [Inhabited GivT]
abbrev i64 (n : Int) : AV := .lit (.int .i64 n)
abbrev u64 (n : Int) : AV := .lit (.int .u64 n)
abbrev u8 (n : Int) : AV := .lit (.int .u8 n)
abbrev u16 (n : Int) : AV := .lit (.int .u16 n)
abbrev boo (b : Bool) : AV := .lit (.bool b)
abbrev bx (n : Int) : AV := .rptr 1 1 (fun _ => [i64 n]) 0 0

theorem getD_snoc {α : Type} (l : List α) (x d : α) (k : Nat) : (l ++ [x]).getD k d = if k = l.length then x else l.getD k d := by
  by_cases h : k = l.length
  · subst h; simp
  · rw [if_neg h]
    by_cases h2 : k < l.length
    · rw [List.getD_eq_getElem?_getD, List.getD_eq_getElem?_getD, List.getElem?_append_left h2]
    · rw [List.getD_eq_getElem?_getD, List.getD_eq_getElem?_getD, List.getElem?_eq_none (by simp; omega), List.getElem?_eq_none (by omega)]
theorem take_snoc {α : Type} (l : List α) (i : Nat) (d : α) (h : i < l.length) : l.take (i + 1) = l.take i ++ [l.getD i d] := by
  rw [List.take_add_one, List.getD_eq_getElem?_getD, List.getElem?_eq_getElem h]; rfl
theorem mem_getD {α : Type} (l : List α) (i : Nat) (d : α) (h : i < l.length) : l.getD i d ∈ l := by
  rw [List.getD_eq_getElem?_getD, List.getElem?_eq_getElem h]; exact List.getElem_mem h
theorem getD_mem {α : Type} {l : List α} {x : α} (d : α) (h : x ∈ l) : ∃ i, i < l.length ∧ l.getD i d = x := by
  obtain ⟨i, hi, e⟩ := List.getElem_of_mem h
  exact ⟨i, hi, by rw [List.getD_eq_getElem?_getD, List.getElem?_eq_getElem hi]; exact e⟩
/-- A list, each thing of which is so many cells. -/
def lF {α : Type} (en : α → List AV) (d : α) (l : List α) : Nat → List AV := fun i => en (l.getD i d)
theorem app_lF {α : Type} (en : α → List AV) (d : α) (l : List α) (x : α) (g : Nat → List AV) (hg : g 0 = en x) : appF l.length 1 (lF en d l) g = lF en d (l ++ [x]) := by
  funext k
  simp only [appF, lF, hg, getD_snoc]
  split <;> rfl
abbrev enI (z : Int) : List AV := [i64 z]
abbrev enN (z : Nat) : List AV := [i64 (z : Int)]
abbrev enU (z : Nat) : List AV := [u64 (z : Int)]
def intF (l : List Int) : Nat → List AV := fun i => [i64 (l.getD i 0)]
abbrev intsAV (l : List Int) : AV := .rsl l.length 1 (intF l)
theorem intF_at (l : List Int) (i : Nat) : intF l i = [i64 (l.getD i 0)] := rfl
theorem app_ints (l : List Int) (w : Int) (g : Nat → List AV) (hg : g 0 = [i64 w]) : appF l.length 1 (intF l) g = intF (l ++ [w]) := app_lF enI 0 l w g hg
def llF (l : List (List Int)) : Nat → List AV := fun i => [intsAV (l.getD i [])]
abbrev llAV (l : List (List Int)) : AV := .rsl l.length 1 (llF l)
theorem full_bit (m j : Nat) (hj : j < m) : (2 ^ m - 1).testBit j = true := by
  rw [Nat.testBit_two_pow_sub_one]; simpa using hj
/-- How many bits there are. -/
def popN : Nat → Nat → Nat
  | 0, _ => 0
  | f + 1, s => s % 2 + popN f (s / 2)
def pop (s : Nat) : Nat := popN 64 s
theorem popN_zero (f : Nat) : popN f 0 = 0 := by
  induction f with
  | zero => rfl
  | succ f ih => simp [popN, ih]
theorem popN_fuel (f g s : Nat) (hf : s < 2 ^ f) (hg : s < 2 ^ g) : popN f s = popN g s := by
  induction f generalizing g s with
  | zero => have : s = 0 := by simpa using hf
            subst this; rw [popN_zero, popN_zero]
  | succ f ih =>
    cases g with
    | zero => have : s = 0 := by simpa using hg
              subst this; rw [popN_zero, popN_zero]
    | succ g =>
      rw [Nat.pow_succ] at hf hg
      simp only [popN, ih g (s / 2) (by omega) (by omega)]
theorem pop_step (s : Nat) (hs : s < 2 ^ 60) : pop s = s % 2 + pop (s / 2) := by
  show s % 2 + popN 63 (s / 2) = _
  rw [pop, popN_fuel 63 64 (s / 2) (by omega) (by omega)]
theorem pop_le (s : Nat) : pop s ≤ 64 := by
  have : ∀ f s, popN f s ≤ f := fun f => by
    induction f with
    | zero => intro s; simp [popN]
    | succ f ih => intro s; have := ih (s / 2); simp only [popN]; omega
  exact this 64 s
theorem thn_normal {K : Fr → List AD → Hp → Prop} {Q : Post} {s : Fr} {ds : List AD} {H : Hp} : Post.thn K Q .normal s ds H = K s ds H := rfl

end Go.V
end
section
set_option linter.unusedVariables false
namespace Go.V
set_option linter.unusedSectionVars false
variable [Inhabited GivT]
theorem AV.Le.nil (st : Nat) (f : Nat → List AV) : AV.Le (.lit (.slice none 0 0)) (.rsl 0 st f) := by
  intro S v hv
  have := hv.lit_inv
  subst this
  exact .rsl0
end Go.V
end
section
set_option linter.unusedVariables false
set_option linter.unusedSimpArgs false
namespace Go.V
set_option linter.unusedSectionVars false
variable [Inhabited GivT]
theorem tri_inv {P : Program} {T : TypeId} {nm : String} {f : FuncId} {recv : AV} {args : List AV} {H : Hp} {R : Res → Hp → Prop} (hm : methT P T nm f) (h : Tri P (fnA f) (recv :: args) H R) :
    Tri P (.func (.method nm) [] []) (.iface T recv :: args) H R := by
  intro S vf vs hH hvf ha
  cases hvf with
  | @func _ _ _ ws us hn hu h1 h2 =>
    have hws : ws = #[] := by simpa using hn
    subst hws
    have hus : us = #[] := by simpa using hu
    subst hus
    obtain ⟨hlen, hall⟩ := ha
    cases vs with
    | nil => simp at hlen
    | cons x vs =>
      have hx := hall 0 (by simp)
      simp only [List.getD_cons_zero] at hx
      cases hx with
      | @iface _ _ cv hcv =>
        obtain ⟨nx, e1, e2⟩ := h S (.func (.func f) #[] #[]) (cv :: vs) hH (.func rfl rfl (fun k hk => absurd hk (by simp)) (fun k hk => absurd hk (by simp)))
          ⟨by simpa using hlen, fun k hk => by
            cases k with
            | zero => exact hcv
            | succ k => simpa using hall (k+1) (by simpa using hk)⟩
        refine ⟨nx, ?_, e2⟩
        rw [← e1]
        simp only [Deferred.ofValue, Sem.run_bind, Sem.run_pure, Result.andThen_ok, invoke]
        have a1 : (#[] ++ (Value.iface T cv :: vs).toArray : Array Value)[0]? = some (.iface T cv) := by simp
        have a2 : (#[] ++ (Value.iface T cv :: vs).toArray : Array Value).extract 1 (#[] ++ (Value.iface T cv :: vs).toArray : Array Value).size = vs.toArray := by
          apply Array.toList_inj.1; simp
        simp only [a1, a2, hm cv vs.toArray S.w]
        congr 2
        simp
end Go.V
end
section
set_option linter.unusedVariables false
namespace Go.V
set_option linter.unusedSectionVars false
variable [Inhabited GivT]
theorem frz_stepB {S : St} {H : Hp} {id st n : Nat} {f : Nat → List AV} (hH : HRel S H) (ho : H id = some (.box st n f)) :
    ∃ S2, S2.w = S.w ∧ Le S S2 ∧ HRel S2 (H.del id) ∧ ∀ i j v, VRel S (.ref id 0 st i j) v → VRel S2 (.rptr n st f i j) v := by
  obtain ⟨b, c, e, hl, hb, hni, hc⟩ := hH.obj id _ ho
  have hle := S.frz_le b
  refine ⟨S.frz b, rfl, hle, ?_, ?_⟩
  · refine ⟨fun i hi => ⟨?_, (hH.fresh i hi).2⟩, ?_, ?_, ?_, fun p hp => (hH.giv p hp).mono hle⟩
    · simp only [Hp.del]; split
      · rfl
      · exact (hH.fresh i hi).1
    · rintro x (hx | rfl)
      · exact hH.immlt x hx
      · exact (Array.getElem?_eq_some_iff.1 hb).1
    · intro i o hi
      have ne : i ≠ id := by intro e; simp [Hp.del, e] at hi
      rw [Hp.del_ne _ ne] at hi
      have old := hH.obj i o hi
      have hne : ∀ x, S.loc i o.gen = .blk x → x ≠ b := fun x hx e => ne (hH.inj i id o _ x hi ho hx (by subst e; exact hl))
      cases o with
      | box st' n' f' =>
        obtain ⟨b', c', e', h1, h2, h3, h4⟩ := old
        exact ⟨b', c', e', h1, h2, fun hx => hx.elim h3 (hne b' h1), h4.1, h4.2.1, fun i j hi hj => (h4.2.2 i j hi hj).mono hle⟩
      | row st' n' f' =>
        obtain ⟨g1, old⟩ := old
        refine ⟨g1, old.imp (fun x => x) ?_⟩
        rintro ⟨b', c', e', h1, h2, h3, h4⟩
        exact ⟨b', c', e', h1, h2, fun hx => hx.elim h3 (hne b' h1), h4.1, h4.2.1, fun i j hi hj => (h4.2.2 i j hi hj).mono hle⟩
      | memo F =>
        obtain ⟨b', es, k, h1, h2, h3, h4⟩ := old
        exact ⟨b', es, k, h1, h2, fun hx => hx.elim h3 (hne b' h1), h4⟩
      | raw o =>
        obtain ⟨b', h1, h2, h3, h4⟩ := old
        exact ⟨b', h1, h2, h3, fun hx => hx.elim h4 (hne b' h1)⟩
      | loop l n s ps assign body st pend did =>
        obtain ⟨h1, h2, fn, tmps, D, h3, h4, h5, h6⟩ := old
        exact ⟨h1, fun hx => hx.elim h2 (hne l h1), fn, tmps, D, h3, h4, h5.mono hle, h6⟩
    · intro i j o o' x hi hj
      have ne : i ≠ id := by intro e; simp [Hp.del, e] at hi
      have ne' : j ≠ id := by intro e; simp [Hp.del, e] at hj
      rw [Hp.del_ne _ ne] at hi
      rw [Hp.del_ne _ ne'] at hj
      exact hH.inj i j o o' x hi hj
  · intro i j v this
    cases this with
    | ref hl' =>
      rw [hl] at hl'; cases hl'
      have := VRel.rptr (S := S.frz b) (i := i) (j := j) (off := 0) (.inr rfl) hb (by rw [Nat.zero_add]; exact hc.1) hc.2.1 (fun i j hi hj => by rw [Nat.zero_add]; exact (hc.2.2 i j hi hj).mono hle)
      rw [Nat.zero_add] at this
      exact this

/-- The box becomes its data in every slot that points to it. -/
theorem Ent.freezeB {s s' : Fr} {ds : List AD} {H : Hp} {K : Fr → List AD → Hp → Prop} {id st n : Nat} {f : Nat → List AV} (ho : H id = some (.box st n f))
    (hs : ∀ t, s' t = s t ∨ ∃ i j, s t = .ref id 0 st i j ∧ s' t = .rptr n st f i j) (h : K s' ds (H.del id)) : Ent s ds H K := by
  intro S a hH hF hD
  obtain ⟨S2, hw, hle, h2, hc⟩ := frz_stepB hH ho
  refine ⟨S2, s', ds, H.del id, hw, hle, h2, fun t => ?_, hD.mono hle, h⟩
  rcases hs t with e | ⟨i, j, e1, e2⟩
  · rw [e]; exact (hF t).mono hle
  · rw [e2]
    have := hF t
    rw [e1] at this
    exact hc _ _ _ this

/-- A rule for a smaller heap holds for the larger one. -/
theorem Tri.less {P : Program} {fv : AV} {args : List AV} {H H' : Hp} {R : Res → Hp → Prop} (hs : HSub H H') (h : Tri P fv args H' R) : Tri P fv args H R :=
  fun S vf vs hH => h S vf vs (hH.sub hs)
end Go.V
end
section
namespace Go.V
set_option linter.unusedSectionVars false
variable [Inhabited GivT]
variable {α : Type}
/-- What is told of two, where either may be missing. -/
def comb (join : α → α → α) : Option α → Option α → Option α
  | none, y => y
  | some a, none => some a
  | some a, some b => some (join a b)
theorem comb_none (join : α → α → α) (x : Option α) : comb join x none = x := by cases x <;> rfl
theorem none_comb (join : α → α → α) (x : Option α) : comb join none x = x := rfl
theorem comb_assoc {join : α → α → α} (hj : ∀ a b c, join (join a b) c = join a (join b c)) (x y z : Option α) : comb join (comb join x y) z = comb join x (comb join y z) := by
  cases x <;> cases y <;> cases z <;> simp [comb, hj]
/-- Of all of a list. -/
def foldJ (join : α → α → α) : List α → Option α
  | [] => none
  | a :: l => comb join (some a) (foldJ join l)
theorem foldJ_append {join : α → α → α} (hj : ∀ a b c, join (join a b) c = join a (join b c)) (l l' : List α) : foldJ join (l ++ l') = comb join (foldJ join l) (foldJ join l') := by
  induction l with
  | nil => rfl
  | cons a l ih => simp only [List.cons_append, foldJ, ih, comb_assoc hj]
theorem foldJ_map {join : α → α → α} {f : α → α} (hf : ∀ a b, f (join a b) = join (f a) (f b)) (l : List α) : foldJ join (l.map f) = (foldJ join l).map f := by
  induction l with
  | nil => rfl
  | cons a l ih =>
    simp only [List.map_cons, foldJ, ih]
    cases foldJ join l with
    | none => rfl
    | some b => simp only [comb, Option.map_some, hf]
theorem foldJ_none {join : α → α → α} (l : List α) : foldJ join l = none ↔ l = [] := by
  cases l with
  | nil => simp [foldJ]
  | cons a l => simp only [foldJ]; cases foldJ join l <;> simp [comb]
theorem foldJ_flat {β : Type} {join : α → α → α} (hj : ∀ a b c, join (join a b) c = join a (join b c)) (f : β → List α) (l : List β) (acc : Option α) :
    l.foldl (fun z p => comb join z (foldJ join (f p))) acc = comb join acc (foldJ join (l.flatMap f)) := by
  induction l generalizing acc with
  | nil => simp [foldJ, comb_none]
  | cons p l ih =>
    simp only [List.foldl_cons, ih, List.flatMap_cons, foldJ_append hj, comb_assoc hj]
end Go.V
end
section
set_option linter.unusedVariables false
set_option linter.unusedSimpArgs false
namespace Go.V
set_option linter.unusedSectionVars false
/-- The first set of a size, from one on, that suits. -/
def inn (f : Nat → Bool) (z : Nat) : Nat → Nat → Option Nat
  | 0, _ => none
  | n + 1, j => if (decide (pop j = z) && f j) = true then some j else inn f z n (j + 1)
def outF (f : Nat → Bool) (m : Nat) : Nat → Nat → Option Nat
  | 0, _ => none
  | n + 1, z => match inn f z (2 ^ m) 0 with
    | some j => some j
    | none => outF f m n (z + 1)
def fewV (f : Nat → Bool) (m : Nat) : Option Nat := outF f m (m + 1) 0
/-- The last of all sets that are smaller than those before. -/
def bsN (f : Nat → Bool) (b : Nat) : Nat → Nat
  | 0 => b
  | j + 1 => if (decide (pop j < pop (bsN f b j)) && f j) = true then j else bsN f b j
theorem bsN_lt (f : Nat → Bool) (b B : Nat) (hb : b < B) : ∀ j, j ≤ B → bsN f b j < B := by
  intro j
  induction j with
  | zero => intro _; exact hb
  | succ j ih => intro hj; simp only [bsN]; split; (· omega); (· exact ih (by omega))
def rset (f : Nat → Bool) (m : Nat) : Option Nat := if f (2 ^ m - 1) = true then some (bsN f (2 ^ m - 1) (2 ^ m)) else none
def setE (e : Int) (r : Option Nat) : Int := if e = 0 then (if r.isSome = true then 0 else 4) else e
def setV (e : Int) (r : Option Nat) : Nat := if setE e r = 0 then r.getD 0 else 0
theorem inn_lt (f : Nat → Bool) (z n : Nat) : ∀ j r, inn f z n j = some r → j ≤ r ∧ r < j + n ∧ pop r = z ∧ f r = true := by
  induction n with
  | zero => intro j r h; cases h
  | succ n ih =>
    intro j r h
    simp only [inn] at h
    split at h
    · rename_i hc
      cases h
      simp only [Bool.and_eq_true, decide_eq_true_eq] at hc
      exact ⟨Nat.le_refl _, by omega, hc.1, hc.2⟩
    · obtain ⟨h1, h2, h3⟩ := ih _ _ h
      exact ⟨by omega, by omega, h3⟩
theorem outF_lt (f : Nat → Bool) (m n : Nat) : ∀ z r, outF f m n z = some r → r < 2 ^ m ∧ f r = true := by
  induction n with
  | zero => intro z r h; cases h
  | succ n ih =>
    intro z r h
    simp only [outF] at h
    split at h
    · rename_i j hj
      cases h
      have := inn_lt _ _ _ _ _ hj
      exact ⟨by omega, this.2.2.2⟩
    · exact ih _ _ h
theorem inn_none (f : Nat → Bool) (z n : Nat) : ∀ j, inn f z n j = none → ∀ i, j ≤ i → i < j + n → f i = true → pop i ≠ z := by
  induction n with
  | zero => intro j _ i h1 h2; omega
  | succ n ih =>
    intro j h i h1 h2 hf he
    simp only [inn] at h
    split at h
    · cases h
    · rename_i hc
      by_cases e : i = j
      · subst e; apply hc; rw [hf, decide_eq_true he]; rfl
      · exact ih (j + 1) h i (by omega) (by omega) hf he
theorem inn_first (f : Nat → Bool) (z n : Nat) : ∀ j r, inn f z n j = some r → ∀ i, j ≤ i → i < j + n → f i = true → pop i = z → r ≤ i := by
  induction n with
  | zero => intro j r h; cases h
  | succ n ih =>
    intro j r h i h1 h2 hf he
    simp only [inn] at h
    split at h
    · cases h; exact h1
    · rename_i hc
      by_cases e : i = j
      · subst e; exfalso; apply hc; rw [hf, decide_eq_true he]; rfl
      · exact ih (j + 1) r h i (by omega) (by omega) hf he
/-- The least set that suits. -/
structure LeastSet (f : Nat → Bool) (m r : Nat) : Prop where
  lt : r < 2 ^ m
  is : f r = true
  le : ∀ i, i < 2 ^ m → f i = true → pop r < pop i ∨ pop r = pop i ∧ r ≤ i
theorem LeastSet.uniq {f : Nat → Bool} {m r r' : Nat} (h : LeastSet f m r) (h' : LeastSet f m r') : r = r' := by
  have h1 := h.le r' h'.lt h'.is
  have h2 := h'.le r h.lt h.is
  omega
theorem outF_some (f : Nat → Bool) (m n : Nat) : ∀ z r, outF f m n z = some r → z ≤ pop r ∧ (∀ i, i < 2 ^ m → f i = true → z ≤ pop i → pop r < pop i ∨ pop r = pop i ∧ r ≤ i) := by
  induction n with
  | zero => intro z r h; cases h
  | succ n ih =>
    intro z r h
    simp only [outF] at h
    split at h
    · rename_i j hj
      cases h
      obtain ⟨_, _, h3, _⟩ := inn_lt _ _ _ _ _ hj
      refine ⟨by omega, fun i hi hf hz => ?_⟩
      by_cases e : pop i = z
      · exact .inr ⟨by omega, inn_first f z _ 0 _ hj i (Nat.zero_le _) (by omega) hf e⟩
      · exact .inl (by omega)
    · rename_i hj
      obtain ⟨h1, h2⟩ := ih (z + 1) r h
      refine ⟨by omega, fun i hi hf hz => ?_⟩
      have := inn_none f z _ 0 hj i (Nat.zero_le _) (by omega) hf
      exact h2 i hi hf (by omega)
theorem outF_none (f : Nat → Bool) (m n : Nat) : ∀ z, outF f m n z = none → ∀ i, i < 2 ^ m → f i = true → z ≤ pop i → z + n ≤ pop i := by
  induction n with
  | zero => intro z _ i _ _ h; exact h
  | succ n ih =>
    intro z h i hi hf hz
    simp only [outF] at h
    split at h
    · cases h
    · rename_i hj
      have := inn_none f z _ 0 hj i (Nat.zero_le _) (by omega) hf
      have := ih (z + 1) h i hi hf (by omega)
      omega
theorem pop_all : ∀ m, m < 9 → ∀ i, i < 256 → i < 2 ^ m → pop i ≤ m ∧ (pop i = m → i = 2 ^ m - 1) := by decide +kernel
theorem pop_full : ∀ m, m < 9 → pop (2 ^ m - 1) = m := by decide +kernel
theorem fewV_some {f : Nat → Bool} {m r : Nat} (h : fewV f m = some r) : LeastSet f m r := by
  obtain ⟨h1, h2⟩ := outF_lt f m (m + 1) 0 r h
  exact ⟨h1, h2, fun i hi hf => (outF_some f m (m + 1) 0 r h).2 i hi hf (Nat.zero_le _)⟩
theorem fewV_none {f : Nat → Bool} {m : Nat} (hm : m ≤ 8) (h : fewV f m = none) : ∀ i, i < 2 ^ m → f i = false := by
  intro i hi
  rw [← Bool.not_eq_true]
  intro hf
  have h1 := outF_none f m (m + 1) 0 h i hi hf (Nat.zero_le _)
  have hp : 2 ^ m ≤ 2 ^ 8 := Nat.pow_le_pow_right (by decide) hm
  have h2 := (pop_all m (by omega) i (by omega) hi).1
  omega
theorem bsN_spec (f : Nat → Bool) (b : Nat) : ∀ j, (bsN f b j = b ∨ (bsN f b j < j ∧ f (bsN f b j) = true)) ∧ pop (bsN f b j) ≤ pop b ∧ ∀ i, i < j → f i = true → pop (bsN f b j) < pop i ∨ pop (bsN f b j) = pop i ∧ (bsN f b j ≤ i ∨ bsN f b j = b) := by
  intro j
  induction j with
  | zero => exact ⟨.inl rfl, Nat.le_refl _, fun i hi => by omega⟩
  | succ j ih =>
    obtain ⟨h1, h2, h3⟩ := ih
    simp only [bsN]
    by_cases hc : (decide (pop j < pop (bsN f b j)) && f j) = true
    · rw [if_pos hc]
      simp only [Bool.and_eq_true, decide_eq_true_eq] at hc
      refine ⟨.inr ⟨by omega, hc.2⟩, by omega, fun i hi hf => ?_⟩
      by_cases e : i = j
      · subst e; exact .inr ⟨rfl, .inl (Nat.le_refl _)⟩
      · have := h3 i (by omega) hf
        exact .inl (by omega)
    · rw [if_neg hc]
      simp only [Bool.and_eq_true, decide_eq_true_eq] at hc
      refine ⟨h1.imp id fun h => ⟨by omega, h.2⟩, h2, fun i hi hf => ?_⟩
      by_cases e : i = j
      · subst e
        have : ¬ pop i < pop (bsN f b i) := fun q => hc ⟨q, hf⟩
        rcases h1 with h | h
        · by_cases q : pop (bsN f b i) = pop i
          · exact .inr ⟨q, .inr h⟩
          · exact .inl (by omega)
        · by_cases q : pop (bsN f b i) = pop i
          · exact .inr ⟨q, .inl (by omega)⟩
          · exact .inl (by omega)
      · exact h3 i (by omega) hf
theorem rset_least {f : Nat → Bool} {m r : Nat} (hm : m ≤ 8) (h : rset f m = some r) : LeastSet f m r := by
  unfold rset at h
  split at h
  · rename_i hf
    cases h
    have hp0 : 0 < 2 ^ m := Nat.pow_pos (by decide)
    have hp : 2 ^ m ≤ 2 ^ 8 := Nat.pow_le_pow_right (by decide) hm
    have hlt := bsN_lt f (2 ^ m - 1) (2 ^ m) (by omega) (2 ^ m) (Nat.le_refl _)
    obtain ⟨h1, h2, h3⟩ := bsN_spec f (2 ^ m - 1) (2 ^ m)
    refine ⟨hlt, ?_, fun i hi hfi => ?_⟩
    · rcases h1 with h | h
      · rw [h]; exact hf
      · exact h.2
    · rcases h3 i hi hfi with q | ⟨q, q2 | q2⟩
      · exact .inl q
      · exact .inr ⟨q, q2⟩
      · refine .inr ⟨q, ?_⟩
        rw [q2] at q
        rw [pop_full m (by omega)] at q
        have := (pop_all m (by omega) i (by omega) hi).2 q.symm
        rw [q2, this]
        exact Nat.le_refl _
  · cases h
/-- The two ways agree, if a set suits whenever a part of it does. -/
theorem few_rset {f : Nat → Bool} {m : Nat} (hm : m ≤ 8) (hmon : ∀ i, i < 2 ^ m → f i = true → f (2 ^ m - 1) = true) : fewV f m = rset f m := by
  cases hr : rset f m with
  | some r =>
    have hl := rset_least hm hr
    cases hw : fewV f m with
    | some w => rw [(fewV_some hw).uniq hl]
    | none => have := fewV_none hm hw r hl.lt; rw [hl.is] at this; cases this
  | none =>
    cases hw : fewV f m with
    | none => rfl
    | some w =>
      have hl := fewV_some hw
      unfold rset at hr
      rw [if_pos (hmon w hl.lt hl.is)] at hr
      cases hr


section
variable [Inhabited GivT]
noncomputable def cdec (p : Prop) : Bool := @decide p (Classical.propDecidable p)
noncomputable def filP {α : Type} (p : α → Prop) (l : List α) : List α := l.filter fun a => cdec (p a)
/-- The least number with a property, if there is one. -/
structure MinS (o : Option Int) (S : Int → Prop) : Prop where
  le : ∀ x, S x → ∃ m, o = some m ∧ m ≤ x
  is : ∀ m, o = some m → S m
theorem MinS.uniq {o o' : Option Int} {S : Int → Prop} (h : MinS o S) (h' : MinS o' S) : o = o' := by
  cases ho : o with
  | none =>
    cases ho' : o' with
    | none => rfl
    | some m =>
      obtain ⟨q, hq, _⟩ := h.le m (h'.is m ho')
      rw [ho] at hq; cases hq
  | some m =>
    obtain ⟨q, hq, h1⟩ := h'.le m (h.is m ho)
    obtain ⟨q2, hq2, h2⟩ := h.le q (h'.is q hq)
    rw [ho] at hq2
    cases hq2
    rw [hq]
    congr 1
    omega
theorem MinS.congr {o : Option Int} {S S' : Int → Prop} (h : MinS o S) (e : ∀ x, S x ↔ S' x) : MinS o S' :=
  ⟨fun x hx => h.le x ((e x).2 hx), fun m hm => (e m).1 (h.is m hm)⟩
theorem minS_nil : MinS none fun _ => False := ⟨fun x h => h.elim, fun m h => by cases h⟩
theorem minS_comb {o o' : Option Int} {S S' : Int → Prop} (h : MinS o S) (h' : MinS o' S') : MinS (comb min o o') fun x => S x ∨ S' x := by
  constructor
  · rintro x (hx | hx)
    · obtain ⟨m, rfl, hm⟩ := h.le x hx
      cases o' with
      | none => exact ⟨m, rfl, hm⟩
      | some q => exact ⟨min m q, rfl, by omega⟩
    · obtain ⟨m, rfl, hm⟩ := h'.le x hx
      cases o with
      | none => exact ⟨m, rfl, hm⟩
      | some q => exact ⟨min q m, rfl, by omega⟩
  · intro m hm
    cases o with
    | none => exact .inr (h'.is m hm)
    | some q =>
      cases o' with
      | none => exact .inl (h.is m hm)
      | some r =>
        simp only [comb, Option.some.injEq] at hm
        subst hm
        by_cases e : q ≤ r
        · rw [Int.min_eq_left e]; exact .inl (h.is q rfl)
        · rw [Int.min_eq_right (by omega)]; exact .inr (h'.is r rfl)
theorem minS_fold (L : List Int) : MinS (foldJ min L) fun x => x ∈ L := by
  induction L with
  | nil => exact minS_nil.congr fun x => by simp
  | cons a L ih =>
    have h1 : MinS (some a) fun x => x = a := ⟨fun x hx => ⟨a, rfl, by omega⟩, fun m hm => by cases hm; rfl⟩
    exact (minS_comb h1 ih).congr fun x => by simp

def mnG {α : Type} (f : α → Int) (L : List α) (d : α) : Nat → α
  | 0 => L.getD 0 d
  | i + 1 => if f (L.getD i d) < f (mnG f L d i) then L.getD i d else mnG f L d i
theorem mnG_spec {α : Type} (f : α → Int) (L : List α) (d : α) (h : 0 < L.length) : ∀ i, i ≤ L.length → ∃ p, p < L.length ∧ mnG f L d i = L.getD p d ∧ (∀ q, q < i → f (L.getD p d) ≤ f (L.getD q d)) ∧ ∀ q, q < p → f (L.getD p d) < f (L.getD q d) := by
  intro i
  induction i with
  | zero => intro _; exact ⟨0, h, rfl, fun q hq => by omega, fun q hq => by omega⟩
  | succ i ih =>
    intro hi
    obtain ⟨p, hp, e, h1, h2⟩ := ih (by omega)
    simp only [mnG]
    split
    · rename_i hc
      rw [e] at hc
      refine ⟨i, by omega, rfl, fun q hq => ?_, fun q hq => ?_⟩
      · by_cases eq : q = i
        · subst eq; exact Int.le_refl _
        · have := h1 q (by omega); omega
      · have := h1 q (by omega); omega
    · rename_i hc
      rw [e] at hc
      refine ⟨p, hp, e, fun q hq => ?_, h2⟩
      by_cases eq : q = i
      · subst eq; omega
      · exact h1 q (by omega)
end
end Go.V
end
section
set_option linter.unusedVariables false
set_option linter.unusedSimpArgs false
namespace Go.Proofs.Ytliomkpmadpibaa
open Go.V
instance : Inhabited GivT := ⟨⟨[]⟩⟩

/-- A pot of pitch. -/
structure Po where
  ht : Int
  fr : Int
  bb : Int
/-- A pitch. -/
structure Pt where
  hr : Int
  fro : Int
  per : Int
  fs : List Int
  ps : List Po
def po0 : Po := ⟨0, 0, 0⟩
/-- No far too much of anything. -/
structure Near (p : Pt) : Prop where
  nF : p.fs.length ≤ 40
  nP : p.ps.length ≤ 40
def Pt.H (p : Pt) : Nat := p.hr.toNat
def okSet (p : Pt) (n : Int) : Prop := 0 ≤ n ∧ n ≤ ((2 ^ p.H : Nat) : Int) - 1
def okP (p : Pt) (t : Po) : Prop := (1 ≤ t.ht ∧ t.ht ≤ 12) ∧ (0 ≤ t.fr ∧ t.fr ≤ p.hr) ∧ 0 ≤ t.bb ∧ t.bb ≤ p.hr
/-- A valid pitch. -/
structure Ok (p : Pt) : Prop where
  hr : 0 ≤ p.hr ∧ p.hr ≤ 12
  nF : p.fs.length ≤ 3
  nP : p.ps.length ≤ 4
  fro : okSet p p.fro
  per : okSet p p.per
  f : ∀ i, i < p.fs.length → okSet p (p.fs.getD i 0)
  s : ∀ i, i < p.ps.length → okP p (p.ps.getD i po0)
instance (p : Pt) (n : Int) : Decidable (okSet p n) := by unfold okSet; infer_instance
instance (p : Pt) (t : Po) : Decidable (okP p t) := by unfold okP; infer_instance
theorem ok_iff (p : Pt) : Ok p ↔ ((0 ≤ p.hr ∧ p.hr ≤ 12) ∧ p.fs.length ≤ 3 ∧ p.ps.length ≤ 4) ∧ (okSet p p.fro ∧ okSet p p.per) ∧ (∀ i, i < p.fs.length → okSet p (p.fs.getD i 0)) ∧ ∀ i, i < p.ps.length → okP p (p.ps.getD i po0) :=
  ⟨fun k => ⟨⟨k.hr, k.nF, k.nP⟩, ⟨k.fro, k.per⟩, k.f, k.s⟩, fun ⟨⟨a, b, c⟩, ⟨d, e⟩, f, g⟩ => ⟨a, b, c, d, e, f, g⟩⟩
instance (p : Pt) : Decidable (Ok p) := decidable_of_iff _ (ok_iff p).symm
theorem Ok.near {p : Pt} (k : Ok p) : Near p := ⟨by have := k.nF; omega, by have := k.nP; omega⟩
theorem Ok.H_eq {p : Pt} (k : Ok p) : (p.H : Int) = p.hr ∧ p.H ≤ 12 := by
  have := k.hr
  unfold Pt.H
  omega
theorem pow12 {n : Nat} (h : n ≤ 12) : 2 ^ n ≤ 4096 := Nat.pow_le_pow_right (by decide) h
theorem okSet_nat {p : Pt} {n : Int} (h : okSet p n) : ∃ m : Nat, n = (m : Int) ∧ m < 2 ^ p.H := by
  have h0 : 0 < 2 ^ p.H := Nat.two_pow_pos _
  unfold okSet at h
  exact ⟨n.toNat, by omega, by omega⟩

/-- The heat of so many hours from one on, there being frost in some. -/
def hsum (F h : Nat) : Nat → Nat
  | 0 => 0
  | n + 1 => hsum F h n + if F.testBit (h + n) = true then 1 else 2
/-- The hour at which there was so much heat; one more than all: there is not. -/
def endN (F : Nat) (ht : Int) (H h : Nat) : Nat := match (List.range (H - h)).find? fun n => decide (ht ≤ (hsum F h (n + 1) : Nat)) with
  | some n => h + n + 1
  | none => H + 1
theorem hsum_le (F h : Nat) : ∀ n, n ≤ hsum F h n ∧ hsum F h n ≤ 2 * n
  | 0 => by simp [hsum]
  | n + 1 => by have := hsum_le F h n; simp only [hsum]; split <;> omega
theorem hsum_mono (F h : Nat) {a b : Nat} (hab : a ≤ b) : hsum F h a ≤ hsum F h b := by
  induction hab with
  | refl => exact Nat.le_refl _
  | @step b _ ih => simp only [hsum]; split <;> omega
theorem endN_found {F H h e : Nat} {ht : Int} (he : h < e) (heH : e ≤ H) (h1 : ht ≤ (hsum F h (e - h) : Nat)) (h2 : ∀ e', h < e' → e' < e → ¬ ht ≤ (hsum F h (e' - h) : Nat)) : endN F ht H h = e := by
  have : (List.range (H - h)).find? (fun n => decide (ht ≤ (hsum F h (n + 1) : Nat))) = some (e - h - 1) := by
    rw [List.find?_range_eq_some]
    refine ⟨?_, by simp; omega, fun j hj => ?_⟩
    · rw [decide_eq_true_eq, show e - h - 1 + 1 = e - h by omega]; exact h1
    · have := h2 (h + j + 1) (by omega) (by omega)
      rw [show h + j + 1 - h = j + 1 by omega] at this
      rw [decide_eq_false this]; rfl
  unfold endN
  rw [this]
  show h + (e - h - 1) + 1 = e
  omega
theorem endN_none {F H h : Nat} {ht : Int} (h2 : ∀ e', h < e' → e' ≤ H → ¬ ht ≤ (hsum F h (e' - h) : Nat)) : endN F ht H h = H + 1 := by
  have : (List.range (H - h)).find? (fun n => decide (ht ≤ (hsum F h (n + 1) : Nat))) = none := by
    rw [List.find?_eq_none]
    intro j hj
    rw [List.mem_range] at hj
    have := h2 (h + j + 1) (by omega) (by omega)
    rw [show h + j + 1 - h = j + 1 by omega] at this
    simpa using this
  unfold endN
  rw [this]
/-- There is an hour with enough heat, the first of all, or none. -/
theorem endN_cases (F : Nat) (ht : Int) (H h : Nat) :
    (h < endN F ht H h ∧ endN F ht H h ≤ H ∧ ht ≤ (hsum F h (endN F ht H h - h) : Nat) ∧ ∀ e', h < e' → e' < endN F ht H h → ¬ ht ≤ (hsum F h (e' - h) : Nat)) ∨
    (endN F ht H h = H + 1 ∧ ∀ e', h < e' → e' ≤ H → ¬ ht ≤ (hsum F h (e' - h) : Nat)) := by
  cases hf : (List.range (H - h)).find? (fun n => decide (ht ≤ (hsum F h (n + 1) : Nat))) with
  | none =>
    right
    have e : endN F ht H h = H + 1 := by unfold endN; rw [hf]
    refine ⟨e, fun e' h1 h2 => ?_⟩
    rw [List.find?_eq_none] at hf
    have := hf (e' - h - 1) (List.mem_range.2 (by omega))
    rw [decide_eq_true_eq, show e' - h - 1 + 1 = e' - h by omega] at this
    exact this
  | some n =>
    left
    have e : endN F ht H h = h + n + 1 := by unfold endN; rw [hf]
    rw [List.find?_range_eq_some] at hf
    obtain ⟨f1, f2, f3⟩ := hf
    rw [List.mem_range] at f2
    rw [e, show h + n + 1 - h = n + 1 by omega]
    refine ⟨by omega, by omega, by simpa using f1, fun e' h1 h2 => ?_⟩
    have := f3 (e' - h - 1) (by omega)
    rw [show e' - h - 1 + 1 = e' - h by omega] at this
    simpa using this
theorem endN_gt (F : Nat) (ht : Int) {H h : Nat} (hh : h ≤ H) : h < endN F ht H h ∧ endN F ht H h ≤ H + 1 := by
  rcases endN_cases F ht H h with ⟨a, b, _⟩ | ⟨a, _⟩ <;> omega
theorem endN_le {F H h e : Nat} {ht : Int} (he : e ≤ H) (hlt : h < e) : endN F ht H h ≤ e ↔ ht ≤ (hsum F h (e - h) : Nat) := by
  rcases endN_cases F ht H h with ⟨a, b, c, d⟩ | ⟨a, b⟩
  · constructor
    · intro hle
      have := hsum_mono F h (show endN F ht H h - h ≤ e - h by omega)
      omega
    · intro hs
      by_cases q : endN F ht H h ≤ e
      · exact q
      · exact absurd hs (d e hlt (by omega))
  · constructor
    · intro hle; omega
    · intro hs; exact absurd hs (b e hlt he)
/-- The hours in which there is frost, for sure or perhaps. -/
def Pt.F (p : Pt) (b : Bool) : Nat := if b = true then p.fro.toNat ||| p.per.toNat else p.fro.toNat
def Pt.pot (p : Pt) (i : Nat) : Po := p.ps.getD i po0
/-- When a pot is hot. -/
def hotV (p : Pt) (b : Bool) (i h : Nat) : Nat := endN (p.F b) (p.pot i).ht p.H h
/-- The hours that a pot takes. -/
def tkN (p : Pt) (i h : Nat) : Nat := 2 ^ (min p.H (hotV p true i h)) - 2 ^ h
def fireN (p : Pt) (f : Nat) : Nat := (p.fs.getD f 0).toNat
def meet (a b : Nat) : Bool := !decide (a &&& b = 0)
/-- The rule that a pot breaks by itself. -/
def alR (p : Pt) (i : Nat) (x : Int × Int) : Int :=
  if x.2 < (p.pot i).fr then 1 else if (p.pot i).bb < (hotV p true i x.2.toNat : Nat) then 2 else if meet (tkN p i x.2.toNat) (fireN p x.1.toNat) = true then 3 else 0
/-- Do two pots take one hour on one fire? -/
def shrB (p : Pt) (a : Nat) (x : Int × Int) (b : Nat) (y : Int × Int) : Bool := decide (x.1 = y.1) && meet (tkN p a x.2.toNat) (tkN p b y.2.toNat)
/-- The rule that a pot breaks, those before it being at their places. -/
def brR (p : Pt) (i : Nat) (x : Int × Int) (b : List (Int × Int)) : Int :=
  if alR p i x = 0 then if ((List.range i).any fun j => shrB p j (b.getD j (0, 0)) i x) = true then 4 else 0 else alR p i x
def isFire (p : Pt) (n : Int) : Bool := decide (0 ≤ n) && decide (n ≤ (p.fs.length : Int) - 1)
def isHour (p : Pt) (n : Int) : Bool := decide (0 ≤ n) && decide (n ≤ IntKind.i64.wrap (p.hr - 1))
def isPot (p : Pt) (n : Int) : Bool := decide (0 ≤ n) && decide (n ≤ (p.ps.length : Int) - 1)
def placeB (p : Pt) (x : Int × Int) : Bool := isFire p x.1 && isHour p x.2
def planB (p : Pt) (l : List (Int × Int)) : Bool := l.all (placeB p) && decide (l.length = p.ps.length)
def errE (p : Pt) (v : Bool) : Int := if Ok p then if v = true then 0 else 2 else 1
theorem errE_no {p : Pt} (h : ¬ Ok p) (v : Bool) : errE p v = 1 := if_neg h
theorem errE_bad {p : Pt} (k : Ok p) : errE p false = 2 := by rw [errE, if_pos k, if_neg (by decide)]
theorem errE_ok {p : Pt} (k : Ok p) : errE p true = 0 := by rw [errE, if_pos k, if_pos rfl]
theorem errE_zero {p : Pt} {v : Bool} (h : errE p v = 0) : Ok p ∧ v = true := by
  unfold errE at h
  split at h
  · rename_i k
    refine ⟨k, ?_⟩
    cases v
    · simp at h
    · rfl
  · omega
theorem isFire_iff (p : Pt) (n : Int) : isFire p n = true ↔ 0 ≤ n ∧ n < p.fs.length := by simp [isFire]; omega
theorem isPot_iff (p : Pt) (n : Int) : isPot p n = true ↔ 0 ≤ n ∧ n < p.ps.length := by simp [isPot]; omega
theorem isHour_iff {p : Pt} (k : Ok p) (n : Int) : isHour p n = true ↔ 0 ≤ n ∧ n < p.hr := by
  have h1 := k.hr
  have h2 : IntKind.i64.wrap (p.hr - 1) = p.hr - 1 := InR.wrap (k := .i64) (by rw [InR_i64]; omega)
  rw [isHour, h2, Bool.and_eq_true, decide_eq_true_eq, decide_eq_true_eq]; omega
theorem meet_iff {a b : Nat} : meet a b = true ↔ ∃ t, a.testBit t = true ∧ b.testBit t = true := by
  unfold meet
  rw [Bool.not_eq_true', decide_eq_false_iff_not]
  constructor
  · intro h
    obtain ⟨t, ht⟩ := Nat.exists_testBit_of_ne_zero h
    rw [Nat.testBit_and, Bool.and_eq_true] at ht
    exact ⟨t, ht⟩
  · rintro ⟨t, h1, h2⟩ h
    have : (a &&& b).testBit t = true := by rw [Nat.testBit_and, h1, h2]; rfl
    rw [h, Nat.zero_testBit] at this
    cases this
theorem seg_bit {a b : Nat} (hab : a ≤ b) (t : Nat) : (2 ^ b - 2 ^ a).testBit t = (decide (a ≤ t) && decide (t < b)) := by
  have e : 2 ^ b - 2 ^ a = 2 ^ a * (2 ^ (b - a) - 1) := by
    rw [Nat.mul_sub, ← Nat.pow_add, show a + (b - a) = b by omega, Nat.mul_one]
  rw [e, Nat.testBit_two_pow_mul, Nat.testBit_two_pow_sub_one]
  by_cases h1 : a ≤ t
  · simp only [h1, decide_true, Bool.true_and]
    by_cases h2 : t < b
    · rw [decide_eq_true h2, decide_eq_true (by omega)]
    · rw [decide_eq_false h2, decide_eq_false (by omega)]
  · simp [h1]
theorem tk_bit {p : Pt} {i h : Nat} (hh : h ≤ p.H) (t : Nat) : (tkN p i h).testBit t = (decide (h ≤ t) && decide (t < min p.H (hotV p true i h))) := by
  have := endN_gt (p.F true) (p.pot i).ht hh
  exact seg_bit (by unfold hotV; omega) t
theorem F_lt {p : Pt} (k : Ok p) (b : Bool) : p.F b < 2 ^ p.H := by
  obtain ⟨m, e1, h1⟩ := okSet_nat k.fro
  obtain ⟨n, e2, h2⟩ := okSet_nat k.per
  unfold Pt.F
  rw [e1, e2, Int.toNat_natCast, Int.toNat_natCast]
  split
  · exact Nat.or_lt_two_pow h1 h2
  · exact h1
theorem tk_lt (p : Pt) (i h : Nat) : tkN p i h < 2 ^ p.H := by
  have h1 : 2 ^ (min p.H (hotV p true i h)) ≤ 2 ^ p.H := Nat.pow_le_pow_right (by decide) (Nat.min_le_left _ _)
  have h2 : 0 < 2 ^ h := Nat.two_pow_pos _
  have h3 : 0 < 2 ^ p.H := Nat.two_pow_pos _
  unfold tkN
  omega
end Go.Proofs.Ytliomkpmadpibaa
end
section
set_option linter.unusedVariables false
set_option linter.unusedSimpArgs false
namespace Go.Proofs.Ytliomkpmadpibaa
open Go.V
/-- The places of a pot, in order. -/
def places (p : Pt) : List (Int × Int) := (List.range p.fs.length).flatMap fun f : Nat => (List.range p.H).map fun h : Nat => ((f : Int), (h : Int))
theorem mem_places {p : Pt} {x : Int × Int} : x ∈ places p ↔ (0 ≤ x.1 ∧ x.1 < p.fs.length) ∧ 0 ≤ x.2 ∧ x.2 < p.H := by
  obtain ⟨a, b⟩ := x
  simp only [places, List.mem_flatMap, List.mem_map, List.mem_range, Prod.mk.injEq]
  constructor
  · rintro ⟨f, hf, h, hh, rfl, rfl⟩; omega
  · rintro ⟨⟨h1, h2⟩, h3, h4⟩; exact ⟨a.toNat, by omega, b.toNat, by omega, by omega, by omega⟩
theorem placeB_iff {p : Pt} (k : Ok p) {x : Int × Int} : placeB p x = true ↔ x ∈ places p := by
  have := k.H_eq
  rw [mem_places, placeB, Bool.and_eq_true, isFire_iff, isHour_iff k]
  omega
/-- All right plans that go on from some places. -/
def pls (p : Pt) : Nat → List (Int × Int) → List (List (Int × Int))
  | 0, b => [b]
  | n + 1, b => (places p).flatMap fun x => if brR p b.length x b = 0 then pls p n (b ++ [x]) else []
def rpl (p : Pt) : List (List (Int × Int)) := pls p p.ps.length []
theorem brR_congr (p : Pt) (i : Nat) (x : Int × Int) {b c : List (Int × Int)} (h : ∀ j, j < i → b.getD j (0, 0) = c.getD j (0, 0)) : brR p i x b = brR p i x c := by
  have : ((List.range i).any fun j => shrB p j (b.getD j (0, 0)) i x) = (List.range i).any fun j => shrB p j (c.getD j (0, 0)) i x := by
    rw [Bool.eq_iff_iff, List.any_eq_true, List.any_eq_true]
    constructor
    · rintro ⟨j, hj, h2⟩; exact ⟨j, hj, by rw [← h j (List.mem_range.1 hj)]; exact h2⟩
    · rintro ⟨j, hj, h2⟩; exact ⟨j, hj, by rw [h j (List.mem_range.1 hj)]; exact h2⟩
  unfold brR
  rw [this]
theorem mem_pls {p : Pt} : ∀ (n : Nat) (b l : List (Int × Int)), l ∈ pls p n b ↔ l.length = b.length + n ∧ l.take b.length = b ∧ ∀ i, b.length ≤ i → i < l.length → l.getD i (0, 0) ∈ places p ∧ brR p i (l.getD i (0, 0)) l = 0 := by
  intro n
  induction n with
  | zero =>
    intro b l
    simp only [pls, List.mem_singleton, Nat.add_zero]
    constructor
    · rintro rfl; exact ⟨rfl, List.take_length, fun i h1 h2 => by omega⟩
    · rintro ⟨h1, h2, _⟩; rw [← h2, ← h1, List.take_length]
  | succ n ih =>
    intro b l
    simp only [pls, List.mem_flatMap]
    constructor
    · rintro ⟨x, hx, h⟩
      split at h
      · rename_i hb
        rw [ih] at h
        obtain ⟨h1, h2, h3⟩ := h
        rw [List.length_append, List.length_cons, List.length_nil] at h1 h2 h3
        have hg : l.getD b.length (0, 0) = x := by
          have e : l.getD b.length (0, 0) = (l.take (b.length + (0 + 1))).getD b.length (0, 0) := by
            rw [List.getD_eq_getElem?_getD, List.getD_eq_getElem?_getD, List.getElem?_take_of_lt (by omega)]
          rw [e, h2]
          simp [List.getD_eq_getElem?_getD]
        have ht : l.take b.length = b := by
          have := congrArg (List.take b.length) h2
          rw [List.take_take, show min b.length (b.length + (0 + 1)) = b.length by omega, List.take_left'  rfl] at this
          exact this
        refine ⟨by omega, ht, fun i h4 h5 => ?_⟩
        by_cases e : i = b.length
        · subst e
          rw [hg]
          refine ⟨hx, ?_⟩
          refine (brR_congr p _ x fun j hj => ?_).trans hb
          conv => rhs; rw [← ht]
          rw [List.getD_eq_getElem?_getD, List.getD_eq_getElem?_getD, List.getElem?_take_of_lt hj]
        · exact h3 i (by omega) h5
      · cases h
    · rintro ⟨h1, h2, h3⟩
      obtain ⟨h4, h5⟩ := h3 b.length (Nat.le_refl _) (by omega)
      refine ⟨l.getD b.length (0, 0), h4, ?_⟩
      have hj : ∀ j, j < b.length → l.getD j (0, 0) = b.getD j (0, 0) := fun j hj => by
        conv => rhs; rw [← h2]
        rw [List.getD_eq_getElem?_getD, List.getD_eq_getElem?_getD, List.getElem?_take_of_lt hj]
      rw [if_pos ((brR_congr p _ _ hj).symm.trans h5), ih]
      refine ⟨by simp; omega, ?_, fun i h6 h7 => h3 i (by simp at h6; omega) h7⟩
      rw [List.length_append, List.length_cons, List.length_nil, take_snoc l b.length (0, 0) (by omega), h2]
/-- A right plan. -/
structure RightP (p : Pt) (l : List (Int × Int)) : Prop where
  len : l.length = p.ps.length
  pl : ∀ i, i < l.length → l.getD i (0, 0) ∈ places p
  br : ∀ i, i < l.length → brR p i (l.getD i (0, 0)) l = 0
theorem mem_rpl {p : Pt} {l : List (Int × Int)} : l ∈ rpl p ↔ RightP p l := by
  rw [rpl, mem_pls]
  simp only [List.length_nil, Nat.zero_add, List.take_zero, true_and, Nat.zero_le, true_implies]
  exact ⟨fun ⟨a, b⟩ => ⟨a, fun i hi => (b i hi).1, fun i hi => (b i hi).2⟩, fun h => ⟨h.len, fun i hi => ⟨h.pl i hi, h.br i hi⟩⟩⟩

/-- A pot may have a place, if hours are taken. -/
def goB (p : Pt) (s : Nat) (u : List Nat) (x : Int × Int) : Bool := !meet (tkN p s x.2.toNat) (u.getD x.1.toNat 0) && decide (alR p s x = 0)
/-- The places that are next, and what is taken then. -/
def nxt (p : Pt) (s : Nat) (u : List Nat) : List ((Int × Int) × List Nat) :=
  ((places p).filter (goB p s u)).map fun x => (x, u.set x.1.toNat (u.getD x.1.toNat 0 ||| tkN p s x.2.toNat))
section
variable {α : Type} (p : Pt) (e : α) (more : Nat → Int × Int → α → α) (join : α → α → α)
/-- What is told of all plans that go on from something; none: there is none. -/
def tl : Nat → Nat → List Nat → Option α
  | 0, _, _ => some e
  | n + 1, s, u => (nxt p s u).foldl (fun z q => comb join z ((tl n (s + 1) q.2).map (more s q.1))) none
/-- The plans that go on from something, from this pot on. -/
def cont : Nat → Nat → List Nat → List (List (Int × Int))
  | 0, _, _ => [[]]
  | n + 1, s, u => (nxt p s u).flatMap fun q => (cont n (s + 1) q.2).map (q.1 :: ·)
def valT : Nat → List (Int × Int) → α
  | _, [] => e
  | s, o :: t => more s o (valT (s + 1) t)
theorem tl_eq (hj : ∀ a b c, join (join a b) c = join a (join b c)) (hm : ∀ s o a b, more s o (join a b) = join (more s o a) (more s o b)) :
    ∀ n s u, tl p e more join n s u = foldJ join ((cont p n s u).map (valT e more s)) := by
  intro n
  induction n with
  | zero => intro s u; rfl
  | succ n ih =>
    intro s u
    simp only [tl, cont]
    have h1 : (fun (z : Option α) (q : (Int × Int) × List Nat) => comb join z ((tl p e more join n (s + 1) q.2).map (more s q.1))) = fun z q => comb join z (foldJ join (((cont p n (s + 1) q.2).map (q.1 :: ·)).map (valT e more s))) := by
      funext z q
      rw [ih, ← foldJ_map (hm s q.1)]
      simp only [List.map_map]
      rfl
    rw [h1, foldJ_flat hj, none_comb, List.map_flatMap]
/-- What is told of the first ones of those that can be next. -/
def tlP (f : List Nat → Option α) (s : Nat) (l : List ((Int × Int) × List Nat)) : Option α := l.foldl (fun z q => comb join z ((f q.2).map (more s q.1))) none
theorem tl_succ (n s : Nat) (u : List Nat) : tl p e more join (n + 1) s u = tlP more join (tl p e more join n (s + 1)) s (nxt p s u) := rfl
theorem tlP_next (f : List Nat → Option α) (s : Nat) (l : List ((Int × Int) × List Nat)) (i : Nat) (hi : i < l.length) : tlP more join f s (l.take (i + 1)) = comb join (tlP more join f s (l.take i)) ((f (l.getD i ((0, 0), [])).2).map (more s (l.getD i ((0, 0), [])).1)) := by
  rw [take_snoc l i ((0, 0), []) hi]
  simp only [tlP, List.foldl_append, List.foldl_cons, List.foldl_nil]
/-- What may be told behind so many pots, of no more than so many plans. -/
structure Vd (V : Nat → Nat → α → Prop) : Prop where
  up : ∀ n j k a, j ≤ k → V n j a → V n k a
  hE : V 0 1 e
  hM : ∀ (n k s : Nat) (o : Int × Int) (r : α), o ∈ places p → V n k r → V (n + 1) k (more s o r)
  hJ : ∀ n j k a b, V n j a → V n k b → V n (j + k) (join a b)
end
section
variable {α : Type} {p : Pt} {e : α} {more : Nat → Int × Int → α → α} {join : α → α → α}
theorem tlP_V {V : Nat → Nat → α → Prop} (h : Vd p e more join V) {f : List Nat → Option α} {s n w : Nat} {l : List ((Int × Int) × List Nat)} (ho : ∀ q ∈ l, q.1 ∈ places p) (hf : ∀ q ∈ l, ∀ r, f q.2 = some r → V n w r) :
    ∀ i, i ≤ l.length → ∀ r, tlP more join f s (l.take i) = some r → V (n + 1) (i * w) r := by
  intro i
  induction i with
  | zero => intro _ r hr; cases hr
  | succ i ih =>
    intro hi r hr
    rw [tlP_next more join f s l i (by omega)] at hr
    have hm : l.getD i ((0, 0), []) ∈ l := mem_getD l i _ (by omega)
    cases hq : f (l.getD i ((0, 0), [])).2 with
    | none =>
      rw [hq] at hr
      simp only [Option.map_none, comb_none] at hr
      exact h.up _ _ _ _ (Nat.mul_le_mul_right _ (by omega)) (ih (by omega) r hr)
    | some q =>
      have hv := h.hM n w s (l.getD i ((0, 0), [])).1 q (ho _ hm) (hf _ hm _ hq)
      rw [hq] at hr
      simp only [Option.map_some] at hr
      cases hp : tlP more join f s (l.take i) with
      | none =>
        rw [hp] at hr
        simp only [comb, Option.some.injEq] at hr
        subst hr
        exact h.up _ _ _ _ (by rw [Nat.succ_mul]; omega) hv
      | some a =>
        rw [hp] at hr
        simp only [comb, Option.some.injEq] at hr
        subst hr
        rw [Nat.succ_mul]
        exact h.hJ _ _ _ _ _ (ih (by omega) a hp) hv
theorem nxt_len (s : Nat) (u : List Nat) : (nxt p s u).length ≤ p.fs.length * p.H := by
  have h : (places p).length = p.fs.length * p.H := by
    unfold places
    generalize p.fs.length = N
    induction N with
    | zero => simp
    | succ N ih => rw [List.range_succ, List.flatMap_append, List.length_append, ih]; simp [Nat.succ_mul]
  rw [nxt, List.length_map, ← h]
  exact List.length_filter_le _ _
theorem nxt_mem {s : Nat} {u : List Nat} {q : (Int × Int) × List Nat} (h : q ∈ nxt p s u) : q.1 ∈ places p ∧ goB p s u q.1 = true ∧ q.2 = u.set q.1.1.toNat (u.getD q.1.1.toNat 0 ||| tkN p s q.1.2.toNat) := by
  unfold nxt at h
  rw [List.mem_map] at h
  obtain ⟨x, hx, rfl⟩ := h
  rw [List.mem_filter] at hx
  exact ⟨hx.1, hx.2, rfl⟩
theorem tl_V {V : Nat → Nat → α → Prop} (h : Vd p e more join V) : ∀ n s u r, tl p e more join n s u = some r → V n ((p.fs.length * p.H) ^ n) r := by
  intro n
  induction n with
  | zero => intro s u r hr; simp only [tl, Option.some.injEq] at hr; subst hr; exact h.hE
  | succ n ih =>
    intro s u r hr
    rw [tl_succ] at hr
    have hl := nxt_len (p := p) s u
    have := tlP_V h (f := tl p e more join n (s + 1)) (s := s) (l := nxt p s u) (n := n) (w := (p.fs.length * p.H) ^ n) (fun q hq => (nxt_mem hq).1) (fun q _ r hr => ih (s + 1) q.2 r hr) (nxt p s u).length (Nat.le_refl _) r (by rw [List.take_length]; exact hr)
    refine h.up _ _ _ _ ?_ this
    rw [Nat.pow_succ, Nat.mul_comm]
    exact Nat.mul_le_mul_left _ hl
end
/-- What is taken on each fire by some places. -/
def Tk (p : Pt) (b : List (Int × Int)) (u : List Nat) : Prop :=
  u.length = 3 ∧ ∀ f : Nat, f < p.fs.length → ∀ t, (u.getD f 0).testBit t = true ↔ ∃ j, j < b.length ∧ (b.getD j (0, 0)).1 = (f : Int) ∧ (tkN p j (b.getD j (0, 0)).2.toNat).testBit t = true
theorem go_br {p : Pt} {b : List (Int × Int)} {u : List Nat} (h : Tk p b u) {x : Int × Int} (hx : x ∈ places p) : goB p b.length u x = decide (brR p b.length x b = 0) := by
  rw [mem_places] at hx
  obtain ⟨⟨h1, h2⟩, h3, h4⟩ := hx
  have ht := h.2 x.1.toNat (by omega)
  have e : meet (tkN p b.length x.2.toNat) (u.getD x.1.toNat 0) = (List.range b.length).any fun j => shrB p j (b.getD j (0, 0)) b.length x := by
    rw [Bool.eq_iff_iff, meet_iff, List.any_eq_true]
    simp only [shrB, Bool.and_eq_true, decide_eq_true_eq, meet_iff, List.mem_range]
    constructor
    · rintro ⟨t, a1, a2⟩
      obtain ⟨j, b1, b2, b3⟩ := (ht t).1 a2
      exact ⟨j, b1, by omega, t, b3, a1⟩
    · rintro ⟨j, b1, b2, t, b3, a1⟩
      exact ⟨t, a1, (ht t).2 ⟨j, b1, by omega, b3⟩⟩
  unfold goB brR
  rw [e]
  by_cases ha : alR p b.length x = 0
  · rw [if_pos ha, decide_eq_true ha, Bool.and_true]
    cases hh : (List.range b.length).any fun j => shrB p j (b.getD j (0, 0)) b.length x <;> rfl
  · rw [if_neg ha, decide_eq_false ha, Bool.and_false]
theorem Tk.next {p : Pt} {b : List (Int × Int)} {u : List Nat} (k : p.fs.length ≤ 3) (h : Tk p b u) {x : Int × Int} (hx : x ∈ places p) : Tk p (b ++ [x]) (u.set x.1.toNat (u.getD x.1.toNat 0 ||| tkN p b.length x.2.toNat)) := by
  rw [mem_places] at hx
  obtain ⟨⟨h1, h2⟩, h3, h4⟩ := hx
  refine ⟨by rw [List.length_set]; exact h.1, fun f hf t => ?_⟩
  have h5 := h.2 f hf t
  have hb : ∀ j, j < b.length → (b ++ [x]).getD j (0, 0) = b.getD j (0, 0) := fun j hj => by rw [getD_snoc, if_neg (by omega)]
  have hbl : (b ++ [x]).getD b.length (0, 0) = x := by rw [getD_snoc, if_pos rfl]
  have key : (∃ j, j < (b ++ [x]).length ∧ ((b ++ [x]).getD j (0, 0)).1 = (f : Int) ∧ (tkN p j ((b ++ [x]).getD j (0, 0)).2.toNat).testBit t = true) ↔
      (∃ j, j < b.length ∧ (b.getD j (0, 0)).1 = (f : Int) ∧ (tkN p j (b.getD j (0, 0)).2.toNat).testBit t = true) ∨ (x.1 = (f : Int) ∧ (tkN p b.length x.2.toNat).testBit t = true) := by
    rw [List.length_append, List.length_cons, List.length_nil]
    constructor
    · rintro ⟨j, c1, c2, c3⟩
      by_cases e : j = b.length
      · subst e; rw [hbl] at c2 c3; exact .inr ⟨c2, c3⟩
      · rw [hb j (by omega)] at c2 c3; exact .inl ⟨j, by omega, c2, c3⟩
    · rintro (⟨j, c1, c2, c3⟩ | ⟨c2, c3⟩)
      · exact ⟨j, by omega, by rw [hb j c1]; exact c2, by rw [hb j c1]; exact c3⟩
      · exact ⟨b.length, by omega, by rw [hbl]; exact c2, by rw [hbl]; exact c3⟩
  rw [key, ← h5]
  by_cases e : x.1.toNat = f
  · have : (u.set x.1.toNat (u.getD x.1.toNat 0 ||| tkN p b.length x.2.toNat)).getD f 0 = u.getD f 0 ||| tkN p b.length x.2.toNat := by
      rw [e]; simp [List.getD_eq_getElem?_getD, h.1, show f < 3 by omega]
    rw [this, Nat.testBit_or, Bool.or_eq_true]
    exact ⟨fun q => q.imp id fun q => ⟨by omega, q⟩, fun q => q.imp id fun q => q.2⟩
  · have : (u.set x.1.toNat (u.getD x.1.toNat 0 ||| tkN p b.length x.2.toNat)).getD f 0 = u.getD f 0 := by
      simp [List.getD_eq_getElem?_getD, List.getElem?_set_ne e]
    rw [this]
    exact ⟨.inl, fun q => q.elim id fun q => absurd q.1 (by omega)⟩
theorem pls_cont {p : Pt} (k : p.fs.length ≤ 3) : ∀ n b u, Tk p b u → pls p n b = (cont p n b.length u).map (b ++ ·) := by
  intro n
  induction n with
  | zero => intro b u _; simp [pls, cont]
  | succ n ih =>
    intro b u h
    simp only [pls, cont, nxt, List.flatMap_map, List.map_flatMap, List.map_map]
    have e1 : ∀ (l : List (Int × Int)), (∀ x ∈ l, x ∈ places p) → (l.flatMap fun x => if brR p b.length x b = 0 then pls p n (b ++ [x]) else []) =
        (l.filter (goB p b.length u)).flatMap fun x => (cont p n (b.length + 1) (u.set x.1.toNat (u.getD x.1.toNat 0 ||| tkN p b.length x.2.toNat))).map ((b ++ ·) ∘ (x :: ·)) := by
      intro l hl
      induction l with
      | nil => rfl
      | cons x l ihl =>
        have hx := hl x (by simp)
        simp only [List.flatMap_cons, List.filter_cons, go_br h hx]
        rw [ihl (fun q hq => hl q (by simp [hq]))]
        by_cases hc : brR p b.length x b = 0
        · simp only [hc, if_true, decide_true, List.flatMap_cons]
          congr 1
          rw [ih (b ++ [x]) _ (h.next k hx)]
          simp only [List.length_append, List.length_cons, List.length_nil, Nat.zero_add]
          congr 1
          funext t
          simp
        · simp only [hc, if_false, decide_false, List.nil_append]; rfl
    exact e1 _ fun x hx => hx
def u0 : List Nat := [0, 0, 0]
theorem Tk.zero {p : Pt} (k : p.fs.length ≤ 3) : Tk p [] u0 := ⟨rfl, fun f hf t => by
  have : f = 0 ∨ f = 1 ∨ f = 2 := by omega
  rcases this with rfl | rfl | rfl <;> simp [u0]⟩
theorem rpl_cont {p : Pt} (k : p.fs.length ≤ 3) : rpl p = cont p p.ps.length 0 u0 := by
  rw [rpl, pls_cont k _ _ _ (Tk.zero k)]
  simp
end Go.Proofs.Ytliomkpmadpibaa
end
section
set_option linter.unusedVariables false
set_option linter.unusedSimpArgs false
namespace Go.Proofs.Ytliomkpmadpibaa
open Go.V
def moreN (_ : Nat) (_ : Int × Int) (r : Int) : Int := r
def joinN (a b : Int) : Int := a + b
theorem valN : ∀ (l : List (Int × Int)) (s : Nat), valT (1 : Int) moreN s l = 1
  | [], _ => rfl
  | _ :: t, s => valN t (s + 1)
theorem foldN (l : List Int) (h : ∀ a ∈ l, a = 1) : (foldJ joinN l).getD 0 = l.length := by
  induction l with
  | nil => rfl
  | cons a l ih =>
    have h1 := h a (by simp)
    have h2 := ih (fun b hb => h b (by simp [hb]))
    simp only [foldJ]
    cases hf : foldJ joinN l with
    | none => rw [hf] at h2; simp only [Option.getD_none] at h2; simp [comb, h1, ← h2]
    | some b => rw [hf] at h2; simp only [Option.getD_some] at h2; simp [comb, joinN, h1, h2]; omega
/-- How many plans are right. -/
def tlN (p : Pt) : Option Int := tl p 1 moreN joinN p.ps.length 0 u0
theorem tlN_len {p : Pt} (k : p.fs.length ≤ 3) : (tlN p).getD 0 = ((rpl p).length : Int) := by
  rw [tlN, tl_eq p 1 moreN joinN (fun a b c => Int.add_assoc a b c) (fun _ _ _ _ => rfl), ← rpl_cont k, foldN _ (fun a ha => ?_), List.length_map]
  obtain ⟨l, _, rfl⟩ := List.mem_map.1 ha
  exact valN l 0
def vN (n k : Nat) (r : Int) : Prop := 0 ≤ r ∧ r ≤ k
theorem vdN (p : Pt) : Vd p 1 moreN joinN vN := ⟨fun n j k a h ⟨h1, h2⟩ => ⟨h1, by omega⟩, ⟨by decide, by decide⟩, fun n k s o r _ h => h, fun n j k a b ⟨h1, h2⟩ ⟨h3, h4⟩ => ⟨by unfold joinN; omega, by unfold joinN; omega⟩⟩

def moreB (p : Pt) (s : Nat) (x : Int × Int) (r : Int) : Int := max r (hotV p true s x.2.toNat : Nat)
def joinB (a b : Int) : Int := min a b
/-- The hour at which all are hot. -/
def lastN (p : Pt) (l : List (Int × Int)) : Nat → Int
  | 0 => 0
  | i + 1 => max (lastN p l i) (hotV p true i (l.getD i (0, 0)).2.toNat : Nat)
def lastV (p : Pt) (l : List (Int × Int)) : Int := lastN p l l.length
theorem lastN_le {p : Pt} {l : List (Int × Int)} {m : Int} : ∀ i, lastN p l i ≤ m ↔ 0 ≤ m ∧ ∀ j, j < i → ((hotV p true j (l.getD j (0, 0)).2.toNat : Nat) : Int) ≤ m := by
  intro i
  induction i with
  | zero => simp [lastN]
  | succ i ih =>
    simp only [lastN]
    constructor
    · intro h
      obtain ⟨h1, h2⟩ := ih.1 (by omega)
      exact ⟨h1, fun j hj => by
        by_cases e : j = i
        · subst e; omega
        · exact h2 j (by omega)⟩
    · rintro ⟨h1, h2⟩
      have := ih.2 ⟨h1, fun j hj => h2 j (by omega)⟩
      have := h2 i (by omega)
      omega
theorem valB_le {p : Pt} {m : Int} : ∀ (l : List (Int × Int)) (s : Nat), valT (0 : Int) (moreB p) s l ≤ m ↔ 0 ≤ m ∧ ∀ j, j < l.length → ((hotV p true (s + j) (l.getD j (0, 0)).2.toNat : Nat) : Int) ≤ m := by
  intro l
  induction l with
  | nil => intro s; simp [valT]
  | cons x t ih =>
    intro s
    simp only [valT, moreB]
    have := ih (s + 1)
    constructor
    · intro h
      obtain ⟨h1, h2⟩ := this.1 (by omega)
      refine ⟨h1, fun j hj => ?_⟩
      match j with
      | 0 => simp; omega
      | j + 1 =>
        have := h2 j (by simp at hj; omega)
        rw [show s + 1 + j = s + (j + 1) by omega] at this
        simpa using this
    · rintro ⟨h1, h2⟩
      have h3 := this.2 ⟨h1, fun j hj => by
        have := h2 (j + 1) (by simp; omega)
        rw [show s + (j + 1) = s + 1 + j by omega] at this
        simpa using this⟩
      have h4 := h2 0 (by simp)
      simp at h4
      omega
theorem valB_last (p : Pt) (l : List (Int × Int)) : valT (0 : Int) (moreB p) 0 l = lastV p l := by
  have h1 := (valB_le (p := p) (m := lastV p l) l 0).2 (by have := (lastN_le (p := p) (l := l) (m := lastV p l) l.length).1 (Int.le_refl _); exact ⟨this.1, fun j hj => by rw [Nat.zero_add]; exact this.2 j hj⟩)
  have h2 := (lastN_le (p := p) (l := l) (m := valT (0 : Int) (moreB p) 0 l) l.length).2 (by have := (valB_le (p := p) (m := valT (0 : Int) (moreB p) 0 l) l 0).1 (Int.le_refl _); exact ⟨this.1, fun j hj => by have := this.2 j hj; rw [Nat.zero_add] at this; exact this⟩)
  unfold lastV at *
  omega
def tlB (p : Pt) (n s : Nat) (u : List Nat) : Option Int := tl p 0 (moreB p) joinB n s u
theorem moreB_join (p : Pt) (s : Nat) (o : Int × Int) (a b : Int) : moreB p s o (joinB a b) = joinB (moreB p s o a) (moreB p s o b) := by unfold moreB joinB; omega
theorem joinB_assoc (a b c : Int) : joinB (joinB a b) c = joinB a (joinB b c) := by unfold joinB; omega
theorem tlB_eq (p : Pt) (n s : Nat) (u : List Nat) : tlB p n s u = foldJ min ((cont p n s u).map (valT (0 : Int) (moreB p) s)) :=
  tl_eq p 0 (moreB p) joinB joinB_assoc (moreB_join p) n s u
/-- There is a plan that goes on, by which all is hot by an hour. -/
theorem tlB_le {p : Pt} {n s : Nat} {u : List Nat} {m : Int} : (∃ r, tlB p n s u = some r ∧ r ≤ m) ↔ ∃ t ∈ cont p n s u, valT (0 : Int) (moreB p) s t ≤ m := by
  rw [tlB_eq]
  have h := minS_fold ((cont p n s u).map (valT (0 : Int) (moreB p) s))
  constructor
  · rintro ⟨r, h1, h2⟩
    obtain ⟨t, ht, rfl⟩ := List.mem_map.1 (h.is r h1)
    exact ⟨t, ht, h2⟩
  · rintro ⟨t, ht, h2⟩
    obtain ⟨r, hr, h3⟩ := h.le _ (List.mem_map.2 ⟨t, ht, rfl⟩)
    exact ⟨r, hr, by omega⟩
/-- The first places by which all is hot by an hour. -/
def okB (p : Pt) (m : Int) (n s : Nat) (q : (Int × Int) × List Nat) : Bool := match tlB p n (s + 1) q.2 with
  | some r => decide (moreB p s q.1 r ≤ m)
  | none => false
def grd (p : Pt) (m : Int) : Nat → Nat → List Nat → List (Int × Int)
  | 0, _, _ => []
  | n + 1, s, u => match (nxt p s u).find? (okB p m n s) with
    | some q => q.1 :: grd p m n (s + 1) q.2
    | none => []
theorem okB_iff {p : Pt} {m : Int} {n s : Nat} {q : (Int × Int) × List Nat} : okB p m n s q = true ↔ ∃ t ∈ cont p n (s + 1) q.2, valT (0 : Int) (moreB p) s (q.1 :: t) ≤ m := by
  have h := tlB_le (p := p) (n := n) (s := s + 1) (u := q.2) (m := m)
  have e : okB p m n s q = true ↔ (∃ r, tlB p n (s + 1) q.2 = some r ∧ r ≤ m) ∧ ((hotV p true s q.1.2.toNat : Nat) : Int) ≤ m := by
    unfold okB
    cases hq : tlB p n (s + 1) q.2 with
    | none => simp
    | some r =>
      have e0 : decide (moreB p s q.1 r ≤ m) = true ↔ r ≤ m ∧ ((hotV p true s q.1.2.toNat : Nat) : Int) ≤ m := by
        rw [decide_eq_true_eq, moreB]; omega
      show decide (moreB p s q.1 r ≤ m) = true ↔ _
      rw [e0]
      exact ⟨fun hh => ⟨⟨r, rfl, hh.1⟩, hh.2⟩, fun ⟨⟨r', e, h1⟩, h2⟩ => by cases e; exact ⟨h1, h2⟩⟩
  rw [e, h]
  simp only [valT, moreB]
  constructor
  · rintro ⟨⟨t, h1, h2⟩, h3⟩; exact ⟨t, h1, by omega⟩
  · rintro ⟨t, h1, h2⟩; exact ⟨⟨t, h1, by omega⟩, by omega⟩
theorem find_flat {α β : Type} (f : α → List β) (P : β → Bool) : ∀ l : List α, (l.flatMap f).find? P = match l.find? (fun a => (f a).any P) with
    | some a => (f a).find? P
    | none => none
  | [] => rfl
  | a :: l => by
    rw [List.flatMap_cons, List.find?_append, List.find?_cons, find_flat f P l]
    cases h : (f a).any P with
    | true =>
      have : ((f a).find? P).isSome = true := by rw [List.find?_isSome]; simpa [List.any_eq_true] using h
      obtain ⟨b, hb⟩ := Option.isSome_iff_exists.1 this
      simp only [hb, Option.some_or]
    | false =>
      have : (f a).find? P = none := by
        rw [List.find?_eq_none]
        intro b hb hP
        have : (f a).any P = true := List.any_eq_true.2 ⟨b, hb, hP⟩
        rw [h] at this; cases this
      simp only [this, Option.none_or]
theorem grd_find {p : Pt} {m : Int} : ∀ n s u, (∃ t ∈ cont p n s u, valT (0 : Int) (moreB p) s t ≤ m) → (cont p n s u).find? (fun t => decide (valT (0 : Int) (moreB p) s t ≤ m)) = some (grd p m n s u) := by
  intro n
  induction n with
  | zero =>
    rintro s u ⟨t, ht, h⟩
    simp only [cont, List.mem_singleton] at ht
    subst ht
    simp [cont, grd, h]
  | succ n ih =>
    rintro s u ⟨t, ht, h⟩
    have e : (fun q => ((cont p n (s + 1) q.2).map (q.1 :: ·)).any fun t => decide (valT (0 : Int) (moreB p) s t ≤ m)) = okB p m n s := by
      funext q
      rw [Bool.eq_iff_iff, okB_iff, List.any_map, List.any_eq_true]
      simp
    simp only [cont, grd]
    rw [find_flat, e]
    cases hf : (nxt p s u).find? (okB p m n s) with
    | none =>
      exfalso
      simp only [cont, List.mem_flatMap, List.mem_map] at ht
      obtain ⟨q, hq, t', ht', rfl⟩ := ht
      rw [List.find?_eq_none] at hf
      exact hf q hq (okB_iff.2 ⟨t', ht', h⟩)
    | some q =>
      have hq := List.find?_some hf
      rw [okB_iff] at hq
      obtain ⟨t', ht', h'⟩ := hq
      simp only [valT, moreB] at h'
      have := ih (s + 1) q.2 ⟨t', ht', by omega⟩
      simp only [List.find?_map]
      have e2 : ((fun t => decide (valT (0 : Int) (moreB p) s t ≤ m)) ∘ (q.1 :: ·)) = fun t => decide (valT (0 : Int) (moreB p) (s + 1) t ≤ m) := by
        funext t
        simp only [Function.comp, valT, moreB]
        exact decide_eq_decide.2 (by omega)
      rw [e2, this]
      rfl
def moreL (t : Nat) (s : Nat) (x : Int × Int) (r : Int) : Int := if s = t then x.2 else r
def joinL (a b : Int) : Int := max a b
theorem valL (t : Nat) : ∀ (l : List (Int × Int)) (s : Nat), s ≤ t → t < s + l.length → valT (0 : Int) (moreL t) s l = (l.getD (t - s) (0, 0)).2
  | [], s, h1, h2 => absurd h2 (by simp; omega)
  | x :: l, s, h1, h2 => by
    simp only [valT, moreL]
    by_cases e : s = t
    · rw [if_pos e]; simp [e]
    · rw [if_neg e, valL t l (s + 1) (by omega) (by simp at h2; omega), show t - s = (t - (s + 1)) + 1 by omega]
      simp
def tlL (p : Pt) (t : Nat) : Option Int := tl p 0 (moreL t) joinL p.ps.length 0 u0
theorem moreL_join (t s : Nat) (o : Int × Int) (a b : Int) : moreL t s o (joinL a b) = joinL (moreL t s o a) (moreL t s o b) := by unfold moreL joinL; split <;> omega
theorem tlL_eq {p : Pt} (k : p.fs.length ≤ 3) {t : Nat} (ht : t < p.ps.length) : tlL p t = foldJ max ((rpl p).map fun l => (l.getD t (0, 0)).2) := by
  rw [tlL, tl_eq p 0 (moreL t) joinL (fun a b c => by unfold joinL; omega) (moreL_join t), ← rpl_cont k]
  congr 1
  refine List.map_congr_left fun l hl => ?_
  rw [mem_rpl] at hl
  rw [valL t l 0 (by omega) (by rw [hl.len]; omega), Nat.sub_zero]
def vH (n k : Nat) (r : Int) : Prop := 0 ≤ r ∧ r ≤ 13
theorem foldJ_some {α : Type} {join : α → α → α} {l : List α} : (foldJ join l).isSome = !decide (l = []) := by
  cases h : foldJ join l with
  | none => rw [foldJ_none] at h; simp [h]
  | some a =>
    have : ¬ l = [] := fun e => by rw [e] at h; cases h
    simp [this]
end Go.Proofs.Ytliomkpmadpibaa
end
section
set_option linter.unusedVariables false
set_option linter.unusedSimpArgs false
namespace Go.V
set_option linter.unusedSectionVars false
variable [Inhabited GivT]
theorem tri_bound {P : Program} {f : FuncId} {recv : AV} {args : List AV} {H : Hp} {R : Res → Hp → Prop} (h : Tri P (fnA f) (recv :: args) H R) :
    Tri P (.func (.func f) [recv] []) args H R := by
  intro S vf vs hH hvf ha
  cases hvf with
  | @func _ _ _ ws us hn hu h1 h2 =>
    have hw : ∃ x, ws = #[x] := by
      have : ws.size = 1 := by simpa using hn
      exact ⟨ws[0], Array.ext (by simp [this]) (fun i h1 h2 => by
        have : i = 0 := by simp at h2; omega
        subst this; rfl)⟩
    obtain ⟨x, rfl⟩ := hw
    have hus : us = #[] := by simpa using hu
    subst hus
    have hx := h1 0 (by simp)
    simp only [List.getD_cons_zero] at hx
    have hx' : VRel S recv x := by simpa [Array.getD_eq_getD_getElem?] using hx
    obtain ⟨nx, e1, e2⟩ := h S (.func (.func f) #[] #[]) (x :: vs) hH (.func rfl rfl (fun k hk => absurd hk (by simp)) (fun k hk => absurd hk (by simp)))
        ⟨by simp [ha.1], fun k hk => by
          cases k with
          | zero => exact hx'
          | succ k => simpa using ha.2 k (by simpa using hk)⟩
    refine ⟨nx, ?_, e2⟩
    rw [← e1]
    simp only [Deferred.ofValue, Sem.run_bind, Sem.run_pure, Result.andThen_ok, invoke]
    simp
end Go.V
end
section
set_option linter.unusedVariables false
set_option linter.unusedSimpArgs false
namespace Go.V
set_option linter.unusedSectionVars false
variable [Inhabited GivT]
def keyJ (P : Program) : Nat → TypeId → Option Nat
  | 0, _ => none
  | d + 1, T => match P.underlying T with
    | some (.int .i64) => if P.cellsOf T = 1 then some 1 else none
    | some (.array n e) => match d, P.underlying e with
      | _ + 1, some (.int .i64) => if P.cellsOf e = 1 ∧ P.cellsOf T = n then some n else none
      | _, _ => none
    | some (.struct fs) => match keyFs P (keyJ P d) fs.toList 0 with
      | some n => if P.cellsOf T = n then some n else none
      | none => none
    | _ => none

end Go.V
end
section
set_option linter.unusedVariables false
set_option linter.unusedSimpArgs false
namespace Go.V
set_option linter.unusedSectionVars false
variable [Inhabited GivT]
/-- The same value, with some leaves told otherwise. -/
inductive FrzX (L : AV → AV → Prop) : AV → AV → Prop
  | same (x : AV) : FrzX L x x
  | leaf {x y : AV} (h : L x y) : FrzX L x y
  | agg {cs cs' : List AV} (hl : cs'.length = cs.length) (h : ∀ k, k < cs.length → FrzX L (cs.getD k .any) (cs'.getD k .any)) : FrzX L (.agg cs) (.agg cs')
  | tuple {cs cs' : List AV} (hl : cs'.length = cs.length) (h : ∀ k, k < cs.length → FrzX L (cs.getD k .any) (cs'.getD k .any)) : FrzX L (.tuple cs) (.tuple cs')
  | rptr {n st i j : Nat} {f g : Nat → List AV} (hl : ∀ k, k < n → (f k).length = st → (g k).length = st) (h : ∀ k l, k < n → l < st → FrzX L ((f k).getD l .any) ((g k).getD l .any)) : FrzX L (.rptr n st f i j) (.rptr n st g i j)
  | func {fn : Fn} {a b a' b' : List AV} (hl : a'.length = a.length) (hm : b'.length = b.length) (h : ∀ k, k < a.length → FrzX L (a.getD k .any) (a'.getD k .any)) (h' : ∀ k, k < b.length → FrzX L (b.getD k .any) (b'.getD k .any)) : FrzX L (.func fn a b) (.func fn a' b')

theorem FrzX.conv {L : AV → AV → Prop} {S S2 : St} (hle : Le S S2) (hc : ∀ x y, L x y → ∀ v, VRel S x v → VRel S2 y v) {x y : AV} (hxy : FrzX L x y) : ∀ v, VRel S x v → VRel S2 y v := by
  induction hxy with
  | same x => intro v hv; exact hv.mono hle
  | leaf h => intro v hv; exact hc _ _ h v hv
  | agg hl h ih =>
    intro v hv
    cases hv with
    | agg hn hv => exact .agg (hn.trans hl.symm) fun k hk => ih k (by omega) _ (hv k (by omega))
  | tuple hl h ih =>
    intro v hv
    cases hv with
    | tuple hn hv => exact .tuple (hn.trans hl.symm) fun k hk => ih k (by omega) _ (hv k (by omega))
  | @rptr n st i j f g hl h ih =>
    intro v hv
    cases hv with
    | rptr hi hb hsz hf hh =>
      exact .rptr (hle.imm _ hi) ((hle.keep _ hi).trans hb) hsz (fun k hk => hl k hk (hf k hk)) (fun k l hk hl2 => ih k l hk hl2 _ (hh k l hk hl2))
  | func hl hm h h' ih ih' =>
    intro v hv
    cases hv with
    | func hn hn' h1 h2 => exact .func (hn.trans hl.symm) (hn'.trans hm.symm) (fun k hk => ih k (by omega) _ (h1 k (by omega))) (fun k hk => ih' k (by omega) _ (h2 k (by omega)))

def Lb (id st n : Nat) (f : Nat → List AV) (x y : AV) : Prop := ∃ i j, x = .ref id 0 st i j ∧ y = .rptr n st f i j
def Lr (id st n : Nat) (f : Nat → List AV) (x y : AV) : Prop := x = .sl id st n ∧ ∃ g, (∀ i, i < n → f i = g i) ∧ y = .rsl n st g

end Go.V
end
section
set_option linter.unusedVariables false
set_option linter.unusedSimpArgs false
namespace Go.V
set_option linter.unusedSectionVars false
variable [Inhabited GivT]
theorem HSub_del {A B : Hp} {i : Nat} (h : B i = none) (k : Go.V.HSub A B) : Go.V.HSub (A.del i) B := by
  intro j o hj
  have e : j ≠ i := fun e => by rw [e, h] at hj; cases hj
  obtain ⟨o', h1, h2⟩ := k j o hj
  exact ⟨o', by rw [Hp.del_ne _ e]; exact h1, h2⟩
end Go.V
end
section
set_option linter.unusedVariables false
set_option linter.unusedSimpArgs false
namespace Go.V
set_option linter.unusedSectionVars false
variable [Inhabited GivT]
theorem Ent.step {s : Fr} {ds : List AD} {H : Hp} {K : Fr → List AD → Hp → Prop} (h : Ent s ds H fun s ds H => Ent s ds H K) : Ent s ds H K := Ent.bind h fun _ _ _ h => h
end Go.V
end
section
set_option linter.unusedVariables false
namespace Go.V
set_option linter.unusedSectionVars false
variable [Inhabited GivT]
theorem Tri.args {P : Program} {fv : AV} {args args' : List AV} {H : Hp} {R : Res → Hp → Prop} (t : Tri P fv args' H R) (hl : args'.length = args.length) (h : ∀ k, k < args.length → AV.Le (args.getD k .any) (args'.getD k .any)) : Tri P fv args H R :=
  fun S vf vs hH hf ha => t S vf vs hH hf ⟨by rw [ha.1, hl], fun k hk => h k (by omega) S _ (ha.2 k (by omega))⟩
end Go.V
end
section
set_option linter.unusedVariables false
namespace Go.V
set_option linter.unusedSectionVars false
variable [Inhabited GivT]
/-- l is an order of all operations that are not in 'done', each behind what B puts ahead of it. -/
structure TopoB (ops : Array Oper) (B : Nat → Nat → Bool) (done : Nat → Prop) (l : List Nat) : Prop where
  lt : ∀ i ∈ l, i < ops.size
  nodup : l.Nodup
  apart : ∀ i ∈ l, ¬ done i
  all : ∀ i, i < ops.size → done i ∨ i ∈ l
  edges : ∀ l1 i l2, l = l1 ++ i :: l2 → ∀ k, B i k = true → done k ∨ k ∈ l1
theorem TopoB.tail {ops : Array Oper} {B : Nat → Nat → Bool} {done : Nat → Prop} {i : Nat} {l : List Nat} (h : TopoB ops B done (i :: l)) : TopoB ops B (fun j => done j ∨ j = i) l where
  lt := fun j hj => h.lt j (by simp [hj])
  nodup := (List.nodup_cons.1 h.nodup).2
  apart := fun j hj hd => by
    rcases hd with hd | rfl
    · exact h.apart j (by simp [hj]) hd
    · exact (List.nodup_cons.1 h.nodup).1 hj
  all := fun j hj => by
    rcases h.all j hj with hd | hm
    · exact .inl (.inl hd)
    · rcases List.mem_cons.1 hm with rfl | hm
      · exact .inl (.inr rfl)
      · exact .inr hm
  edges := fun l1 j l2 hl k hb => by
    rcases h.edges (i :: l1) j l2 (by rw [hl]; rfl) k hb with hd | hm
    · exact .inl (.inl hd)
    · rcases List.mem_cons.1 hm with hm | hm
      · exact .inl (.inr hm)
      · exact .inr hm
theorem TopoB.head {ops : Array Oper} {B : Nat → Nat → Bool} {done : Nat → Prop} {i k : Nat} {l : List Nat} (h : TopoB ops B done (i :: l)) (hb : B i k = true) : done k := by
  rcases h.edges [] i l rfl k hb with hd | hm
  · exact hd
  · simp at hm

structure Plan3 (ops : Array Oper) (B : Nat → Nat → Bool) (sg : Nat → Nat) (stages : List Stg) (last : List Nat) : Prop where
  ssa : ∀ i k, i < ops.size → k < ops.size → ∀ d, (opAt ops.toList k).dst = some d → (d ∈ readsOf ops.toList (opAt ops.toList i) → B i k = true ∨ (B k i = true ∧ sg k % 2 = 1)) ∧ (k ≠ i → (opAt ops.toList i).dst ≠ some d)
  st : ∀ j st kp e, stages[j]? = some (st, kp, e) → st = (List.range ops.size).filter (fun i => sg i == 2 * j) ∧ e < ops.size ∧ (∀ i, i < ops.size → (sg i = 2 * j + 1 ↔ i = e)) ∧
    (∀ i, i < ops.size → 2 * j + 2 ≤ sg i → B i e = true) ∧
    (∀ i, i < ops.size → sg i % 2 = 0 → sg i ≤ 2 * j → B e i = true ∨ heapFree (opAt ops.toList i).op = true ∨ i ∈ kp)
  last : last = (List.range ops.size).filter (fun i => sg i == 2 * stages.length)
  le : ∀ i, i < ops.size → sg i ≤ 2 * stages.length
  ord : ∀ i k, i < ops.size → k < ops.size → B i k = true → sg k ≤ sg i
  lt : ∀ i k, i < ops.size → k < ops.size → B i k = true → sg i = sg k → sg i % 2 = 0 → k < i

/-- What the quiet operations of a stage give. -/
theorem stage_facts3 {r : Option Nat} {P : Program} {n : Nat} {ops : Array Oper} {B : Nat → Nat → Bool} {sg : Nat → Nat} {stages : List Stg} {last : List Nat} (pl : Plan3 ops B sg stages last) {H : Hp} {c : Nat} {s : Fr} {K : Fr → Prop}
    (hev : c % 2 = 0) (h : vcQ P n ops.toList H (pickO ops.toList ((List.range ops.size).filter fun i => sg i == c)) s K) :
    ∃ sF, K sF ∧ (∀ t, (∀ i, i < ops.size → sg i = c → (opAt ops.toList i).dst ≠ some t) → sF t = s t) ∧ ∀ i, i < ops.size → sg i = c → QF r P n ops.toList H sF (opAt ops.toList i) := by
  have hpw : ((List.range ops.size).filter fun i => sg i == c).Pairwise (· < ·) := List.Pairwise.filter _ List.pairwise_lt_range
  have hmem : ∀ k, k ∈ ((List.range ops.size).filter fun i => sg i == c) ↔ k < ops.size ∧ sg k = c := fun k => by simp
  obtain ⟨sF, k1, k2, k3⟩ := vcQ_facts2 (r := r) (readsOf ops.toList) (fun _ => rfl) _ s K (by
    intro i o ho k o' hik ho' d hd
    obtain ⟨x, hx, rfl⟩ := pickO_get ho
    obtain ⟨y, hy, rfl⟩ := pickO_get ho'
    obtain ⟨hx1, hx2⟩ := (hmem x).1 (List.mem_of_getElem? hx)
    obtain ⟨hy1, hy2⟩ := (hmem y).1 (List.mem_of_getElem? hy)
    have hle : x ≤ y ∧ (i < k → x < y) := by
      obtain ⟨hil, hxe⟩ := List.getElem?_eq_some_iff.1 hx
      obtain ⟨hkl, hye⟩ := List.getElem?_eq_some_iff.1 hy
      have hlt : i < k → x < y := fun hlt => by
        have := List.pairwise_iff_getElem.1 hpw i k hil hkl hlt
        rw [hxe, hye] at this; exact this
      refine ⟨?_, hlt⟩
      rcases Nat.lt_or_ge i k with hl | hl
      · have := hlt hl; omega
      · have e : i = k := by omega
        subst e
        rw [hx] at hy; cases hy; exact Nat.le_refl _
    obtain ⟨g1, g2⟩ := pl.ssa x y hx1 hy1 d hd
    refine ⟨fun hm => ?_, fun hlt => g2 (by have := hle.2 hlt; omega)⟩
    rcases g1 hm with g1 | ⟨_, g1⟩
    · have := pl.lt x y hx1 hy1 g1 (by omega) (by omega)
      omega
    · omega) h
  refine ⟨sF, k1, fun t ht => k2 t fun o ho => ?_, fun i hi hs => k3 _ ?_⟩
  · obtain ⟨k, hk, rfl⟩ := pickO_mem ho
    obtain ⟨a, b⟩ := (hmem k).1 hk
    exact ht k a b
  · exact List.mem_map.2 ⟨i, (hmem i).2 ⟨hi, hs⟩, rfl⟩

theorem draw_run3 {r : Option Nat} {P : Program} {mm : Option Tmp → Bool} {n : Nat} {ops : Array Oper} {B : Nat → Nat → Bool} {Q : Post} {sg : Nat → Nat} {stages : List Stg} {last : List Nat} (pl : Plan3 ops B sg stages last)
    (hr : r = none ∨ ops.toList.all (fun o => quietOk o.op) = true) :
    ∀ (l : List Nat) (done : Nat → Prop) (j : Nat) (s : Fr) (ds : List AD) (H : Hp) (S : St) (a : Act), TopoB ops B done l →
      (∀ i, i < ops.size → done i → sg i ≤ 2 * j) → (∀ i, i < ops.size → sg i % 2 = 1 → sg i < 2 * j → done i) →
      (∀ i, i < ops.size → sg i % 2 = 0 → sg i ≤ 2 * j → ¬ done i → QF r P n ops.toList H s (opAt ops.toList i)) →
      vcD' P mm n ops.toList (preOf stages j) (stages.drop j) last s ds H Q →
      a.tmps.size = n → HRel S H → DRel S ds a.defers → PFrame2 S ops sg j done s a → wpOpsIn (FW r) 0 P ops (Lift S n Q) l a S.w := by
  intro l
  induction l with
  | nil =>
    intro done j s ds H S a ht I1 I2 hfact hv hsz hH hD hP
    have hall : ∀ i, i < ops.size → done i := fun i hi => (ht.all i hi).resolve_right (by simp)
    have hj : stages.length ≤ j := by
      rcases Nat.lt_or_ge j stages.length with hlt | hge
      · rcases hx : stages[j] with ⟨st, kp, e⟩
        have hs : stages[j]? = some (st, kp, e) := by rw [List.getElem?_eq_getElem hlt, hx]
        obtain ⟨_, g2, g3, _⟩ := pl.st j st kp e hs
        have := I1 e g2 (hall e g2)
        have := (g3 e g2).2 rfl
        omega
      · exact hge
    have hF : FRel S s a := fun t => by
      rcases hP t with ⟨k, hk, _, hnd, _⟩ | h
      · exact absurd (hall k hk) hnd
      · exact h
    rw [List.drop_eq_nil_of_le hj] at hv
    exact ⟨S, .normal, s, ds, H, rfl, Le.refl S, hH, hF, hD, hsz, trivial, hv⟩
  | cons i l ih =>
    intro done j s ds H S a ht I1 I2 hfact hv hsz hH hD hP
    have hi := ht.lt i (by simp)
    have hni : ¬ done i := ht.apart i (by simp)
    have ho := opAt_get hi
    have hread : ∀ t, t ∈ readsOf ops.toList (opAt ops.toList i) → VRel S (s t) (a.tmps.getD t undef) := by
      intro t htr
      rcases hP t with ⟨k, hk, hkq, hnd, hd⟩ | h
      · rcases (pl.ssa i k hi hk t hd).1 htr with g | ⟨_, g⟩
        · exact absurd (ht.head g) hnd
        · omega
      · exact h
    have hops : ∀ x ∈ (opAt ops.toList i).op.operands.toList, VRel S (opA s x) (a.eval x) := by
      intro x hx
      cases x with
      | tmp t => exact hread t (mem_reads_op hx)
      | const v => exact .lit v
      | global g => exact .any _
      | func f => exact .func rfl rfl (fun k hk => absurd hk (by simp)) (fun k hk => absurd hk (by simp))
    by_cases hev : sg i % 2 = 0
    · -- a quiet operation
      have hle : sg i ≤ 2 * j := by
        apply Classical.byContradiction
        intro hgt
        have := pl.le i hi
        have hlt : j < stages.length := by omega
        rcases hx : stages[j] with ⟨st, kp, e⟩
        have hs : stages[j]? = some (st, kp, e) := by rw [List.getElem?_eq_getElem hlt, hx]
        obtain ⟨_, g2, g3, g4, _⟩ := pl.st j st kp e hs
        have hde := ht.head (g4 i hi (by omega))
        have := I1 e g2 hde
        have := (g3 e g2).2 rfl
        omega
      obtain ⟨hd, v, hv', hg⟩ := (hfact i hi hev hle hni).fact
      have ih' : ∀ (S' : St) (cv : Value), Le S S' → HRel S' H → VRel S' v cv → wpOpsIn (FW r) 0 P ops (Lift S n Q) l (a.put (opAt ops.toList i).dst cv) S'.w := by
        intro S' cv hle' hH' hvr
        refine lift_wpOpsIn hle' l _ _ (ih (fun j => done j ∨ j = i) j s ds H S' _ ht.tail ?_ (fun x hx ho hl => .inl (I2 x hx ho hl)) ?_ hv ?_ hH' ?_ ?_)
        · rintro x hx (hd | rfl)
          · exact I1 x hx hd
          · exact hle
        · intro x hx he hl hnd
          exact hfact x hx he hl fun h => hnd (.inl h)
        · have := put_size (a := a) (d := (opAt ops.toList i).dst) (cv := cv) (df := a.defers)
          exact this.trans hsz
        · have := put_defers (a := a) (d := (opAt ops.toList i).dst) (cv := cv) (df := a.defers)
          have e : (a.put (opAt ops.toList i).dst cv).defers = a.defers := this
          rw [e]; exact hD.mono hle'
        · intro t
          by_cases hdt : (opAt ops.toList i).dst = some t
          · right
            rw [hv' t hdt]
            have ht' : t < a.tmps.size := by rw [hsz]; rw [hdt] at hd; exact hd
            rw [hdt]
            have := put_getD_same (a := a) (t := t) (cv := cv) (df := a.defers) ht'
            rw [show (a.put (some t) cv).tmps.getD t undef = cv from this]
            exact hvr
          · rcases hP t with ⟨k, hk, hkq, hnd, hd'⟩ | h
            · left
              refine ⟨k, hk, hkq, ?_, hd'⟩
              rintro (hx | rfl)
              · exact hnd hx
              · exact hdt hd'
            · right
              rw [put_getD' hdt]
              exact h.mono hle'
      simp only [wpOpsIn, ho]
      generalize opAt ops.toList i = o at *
      cases hgd : o.guard with
      | none =>
        rw [hgd] at hg
        simp only [Region.wanted, hgd, if_true]
        exact hg S a _ _ hH hops ih'
      | some jw =>
        obtain ⟨jj, w⟩ := jw
        rw [hgd] at hg
        obtain ⟨b, v0, hb, rfl, hex⟩ := hg
        have hwant : Region.wanted o (yielded ops a.tmps) = b := wanted_rel hgd (fun q d hq hd' => hread d (mem_reads_guard hgd hq hd')) hb
        rw [hwant]
        cases hwb : b with
        | false =>
          simp only [Bool.false_eq_true, if_false]
          exact ⟨fun _ _ => trivial, ih' S undef (Le.refl S) hH (.under (fun x => by rw [hwb] at x; cases x) fun _ => rfl)⟩
        | true =>
          simp only [if_true]
          exact hex hwb S a _ _ hH hops fun S' cv hle hH' hvr => ih' S' cv hle hH' (.under (fun _ => hvr) fun x => by rw [hwb] at x; cases x)
    · -- an effect
      have hlow : 2 * j < sg i := by
        apply Classical.byContradiction
        intro h
        exact hni (I2 i hi (by omega) (by omega))
      have hlt : j < stages.length := by have := pl.le i hi; omega
      rcases hx : stages[j] with ⟨st, kp, e⟩
      have hs : stages[j]? = some (st, kp, e) := by rw [List.getElem?_eq_getElem hlt, hx]
      obtain ⟨_, g2, g3, g4, g5⟩ := pl.st j st kp e hs
      have hsi : sg i = 2 * j + 1 := by
        apply Classical.byContradiction
        intro h
        have hde := ht.head (g4 i hi (by omega))
        have := I1 e g2 hde
        have := (g3 e g2).2 rfl
        omega
      have hei : i = e := (g3 i hi).1 hsi
      subst hei
      have hdrop : stages.drop j = (st, kp, i) :: stages.drop (j + 1) := by
        rw [List.drop_eq_getElem_cons hlt, hx]
      rw [hdrop] at hv
      obtain ⟨hd, hgn, heff⟩ := hv
      have hq : r = none ∨ ∀ c, (opAt ops.toList i).op ≠ .defer c := hr.imp (fun x => x) fun hall c e => by
        have hm : opAt ops.toList i ∈ ops.toList := List.mem_of_getElem? (i := i) (by simpa using ho)
        have := List.all_eq_true.1 hall _ hm
        rw [e] at this; cases this
      have hnext : hdS (stages.drop (j + 1)) last = (List.range ops.size).filter fun x => sg x == 2 * (j + 1) := by
        rcases Nat.lt_or_ge (j + 1) stages.length with h1 | h1
        · rcases hx' : stages[j + 1] with ⟨st', kp', e'⟩
          have hs' : stages[j + 1]? = some (st', kp', e') := by rw [List.getElem?_eq_getElem h1, hx']
          rw [List.drop_eq_getElem_cons h1, hx']
          exact (pl.st (j + 1) st' kp' e' hs').1
        · rw [List.drop_eq_nil_of_le h1]
          have : j + 1 = stages.length := by omega
          rw [this]; exact pl.last
      simp only [wpOpsIn, ho]
      have hw : Region.wanted (opAt ops.toList i) (yielded ops a.tmps) = true := by simp [Region.wanted, hgn]
      rw [hw]
      simp only [if_true]
      refine effA_sound heff hq hH hops hD _ _ ?_ ?_
      · rintro S' cv v ds' df H' hle hH' hv' hD' ⟨hkp, hk⟩
        rw [vcD_eq, hnext, ← preOf_succ hs] at hk
        obtain ⟨sF, k1, k2, k3⟩ := stage_facts3 (r := r) pl (by omega) hk
        have hkf := vcRs_fact (r := r) _ hkp
        refine lift_wpOpsIn hle l _ _ (ih (fun x => done x ∨ x = i) (j + 1) sF ds' H' S' _ ht.tail ?_ ?_ ?_ k1 (by rw [put_size]; exact hsz) hH' (by rw [put_defers]; exact hD') ?_)
        · rintro x hx (hd | rfl)
          · have := I1 x hx hd; omega
          · omega
        · intro x hx ho hl
          by_cases h : sg x < 2 * j
          · exact .inl (I2 x hx ho h)
          · exact .inr ((g3 x hx).1 (by omega))
        · intro x hx he hl hnd
          by_cases h : sg x = 2 * (j + 1)
          · exact k3 x hx h
          · have hxl : sg x ≤ 2 * j := by omega
            have hnx : ¬ done x := fun h => hnd (.inl h)
            have base : QF r P n ops.toList H' s (opAt ops.toList x) := by
              rcases g5 x hx he hxl with hb | hf | hm
              · exact absurd (ht.head hb) hnx
              · exact (hfact x hx he hxl hnx).move hf H'
              · exact hkf _ (List.mem_map.2 ⟨x, hm, rfl⟩)
            have hpi : ∀ t, (opAt ops.toList i).dst ≠ some t → put s (opAt ops.toList i).dst v t = s t := fun t h => by
              cases hdd : (opAt ops.toList i).dst with
              | none => rfl
              | some d => simp only [put]; rw [if_neg]; intro e; exact h (by rw [hdd, e])
            refine base.congr (fun t htr => ?_) (fun d hd => ?_)
            · rw [k2 t fun y hy hys hyd => ?_, hpi t fun hid => ?_]
              · rcases (pl.ssa x i hx hi t hid).1 htr with g | ⟨g, _⟩
                · have := pl.ord x i hx hi g; omega
                · exact hnx (ht.head g)
              · rcases (pl.ssa x y hx hy t hyd).1 htr with g | ⟨_, g⟩
                · have := pl.ord x y hx hy g; omega
                · omega
            · rw [k2 d fun y hy hys hyd => ?_, hpi d fun hid => ?_]
              · exact (pl.ssa x i hx hi d hid).2 (fun e => by rw [← e] at hxl; omega) hd
              · exact (pl.ssa x y hx hy d hyd).2 (fun e => by rw [e] at hys; omega) hd
        · intro t
          by_cases hex : ∃ k, k < ops.size ∧ (sg k % 2 = 0 ∧ sg k ≤ 2 * (j + 1)) ∧ ¬ (done k ∨ k = i) ∧ (opAt ops.toList k).dst = some t
          · exact .inl hex
          · right
            have hst : ∀ y, y < ops.size → sg y = 2 * (j + 1) → (opAt ops.toList y).dst ≠ some t := fun y hy hys hyd =>
              hex ⟨y, hy, ⟨by omega, by omega⟩, fun h => by
                rcases h with h | h
                · have := I1 y hy h; omega
                · rw [h] at hys; omega, hyd⟩
            rw [k2 t hst]
            by_cases hdt : (opAt ops.toList i).dst = some t
            · rw [hdt]
              have ht' : t < a.tmps.size := by rw [hsz]; rw [hdt] at hd; exact hd
              rw [put_getD_same ht']
              simp only [put, if_true]
              exact hv'
            · rw [put_getD hdt]
              have : put s (opAt ops.toList i).dst v t = s t := by
                cases hdd : (opAt ops.toList i).dst with
                | none => rfl
                | some d => simp only [put]; rw [if_neg]; intro e; exact hdt (by rw [hdd, e])
              rw [this]
              rcases hP t with ⟨k, hk, hkq, hnd, hd'⟩ | h
              · exact absurd ⟨k, hk, ⟨hkq.1, by omega⟩, fun h => h.elim hnd fun e => hdt (by rw [← e]; exact hd'), hd'⟩ hex
              · exact h.mono hle
      · intro S' cv v H' hle hH' hv' hk
        refine ⟨S', .pan v, wipe (pickO ops.toList (preOf stages j ++ st)) s, ds, H', rfl, hle, hH', fun t => ?_, hD.mono hle, hsz, ⟨cv, rfl, hv'⟩, hk⟩
        simp only [wipe]
        split
        · exact .any _
        · rename_i hno
          rcases hP t with ⟨k, hk, hkq, hnd, hd'⟩ | h
          · exfalso
            apply hno
            rw [List.any_eq_true]
            refine ⟨opAt ops.toList k, List.mem_map.2 ⟨k, ?_, rfl⟩, by rw [hd']; simp⟩
            rw [show st = (st, kp, i).1 from rfl, ← preOf_succ hs]
            obtain ⟨q, hq⟩ : ∃ q, sg k = 2 * q := ⟨sg k / 2, by omega⟩
            have hql : q < stages.length := by omega
            rcases hxq : stages[q] with ⟨st', kp', e'⟩
            have hsq : stages[q]? = some (st', kp', e') := by rw [List.getElem?_eq_getElem hql, hxq]
            have hst' := (pl.st q st' kp' e' hsq).1
            simp only [preOf, List.mem_flatMap]
            refine ⟨(st', kp', e'), List.mem_of_getElem? (i := q) (by rw [List.getElem?_take_of_lt (by omega)]; exact hsq), ?_⟩
            show k ∈ st'
            rw [hst', List.mem_filter, List.mem_range]
            exact ⟨hk, by simp [hq]⟩
          · exact h.mono hle


def ordersOf (all : List Oper) : Nat → List Nat → List (List Nat)
  | 0, _ => [[]]
  | n + 1, rem => rem.flatMap fun e => if rem.any (fun k => bitM all e k) = true then [] else (ordersOf all n (rem.filter fun k => k != e)).map (e :: ·)
theorem ordersOf_mem (all : List Oper) : ∀ (n : Nat) (rem m : List Nat), m.length = n → m.Nodup → (∀ x, x ∈ m ↔ x ∈ rem) → (∀ m1 i m2, m = m1 ++ i :: m2 → ∀ k, k ∈ m → bitM all i k = true → k ∈ m1) → m ∈ ordersOf all n rem := by
  intro n
  induction n with
  | zero =>
    intro rem m hl _ _ _
    have : m = [] := List.length_eq_zero_iff.1 hl
    subst this
    simp [ordersOf]
  | succ n ih =>
    intro rem m hl hn hm ho
    cases m with
    | nil => simp at hl
    | cons e m =>
      simp only [ordersOf, List.mem_flatMap]
      refine ⟨e, (hm e).1 (by simp), ?_⟩
      rw [if_neg]
      · refine List.mem_map.2 ⟨m, ih _ m (by simpa using hl) (List.nodup_cons.1 hn).2 (fun x => ?_) (fun m1 i m2 h k hk hb => ?_), rfl⟩
        · rw [List.mem_filter]
          constructor
          · intro hx
            exact ⟨(hm x).1 (by simp [hx]), by simp only [bne_iff_ne]; rintro rfl; exact (List.nodup_cons.1 hn).1 hx⟩
          · rintro ⟨h1, h2⟩
            rcases List.mem_cons.1 ((hm x).2 h1) with h | h
            · simp [h] at h2
            · exact h
        · have := ho (e :: m1) i m2 (by rw [h]; rfl) k (by simp [hk]) hb
          rcases List.mem_cons.1 this with h3 | h3
          · subst h3; exact absurd hk (List.nodup_cons.1 hn).1
          · exact h3
      · intro hany
        rw [List.any_eq_true] at hany
        obtain ⟨k, hk, hb⟩ := hany
        have := ho [] e m rfl k ((hm k).2 hk) hb
        simp at this
/-- What stands ahead of an operation, where the effects come in this order. -/
def bitE (all : List Oper) (E : List Nat) (i k : Nat) : Bool := bitM all i k || E.any fun eb => (i == eb || bitM all i eb) && (E.takeWhile fun x => x != eb).any fun ea => k == ea || bitM all ea k
theorem Topo.before {ops : Array Oper} {l : List Nat} (h : Topo ops (fun _ => False) l) {j i : Nat} (ha : Anc ops j i) : ∀ l1 l2, l = l1 ++ i :: l2 → j ∈ l1 := by
  induction ha with
  | edge ho he hb hj =>
    intro l1 l2 hl
    subst hj
    exact (h.edges l1 _ l2 hl _ ho _ he hb).resolve_left id
  | trans h1 h2 ih1 ih2 =>
    intro l1 l2 hl
    obtain ⟨a, b, rfl⟩ := List.append_of_mem (ih2 l1 l2 hl)
    have := ih1 a (b ++ _ :: l2) (by rw [hl, List.append_assoc]; rfl)
    exact List.mem_append_left _ this
theorem takeW_filter {p : Nat → Bool} {eb : Nat} : ∀ {a b : List Nat}, eb ∉ a → p eb = true → ((a ++ eb :: b).filter p).takeWhile (fun x => x != eb) = a.filter p
  | [], b, _, hp => by simp [hp]
  | x :: a, b, hn, hp => by
    have h1 : x ≠ eb := fun e => hn (by simp [e])
    have ih := takeW_filter (p := p) (eb := eb) (a := a) (b := b) (fun h => hn (by simp [h])) hp
    simp only [List.cons_append, List.filter_cons]
    split
    · rw [List.takeWhile_cons, if_pos (by simp [h1]), ih]
    · exact ih
theorem topoB_of {ops : Array Oper} {l : List Nat} (h : Topo ops (fun _ => False) l) (hb : ∀ i k, bitM ops.toList i k = true → Anc ops k i) (p : Nat → Bool) : TopoB ops (bitE ops.toList (l.filter p)) (fun _ => False) l := by
  refine ⟨h.lt, h.nodup, h.apart, h.all, fun l1 i l2 hl k hB => .inr ?_⟩
  simp only [bitE, Bool.or_eq_true, List.any_eq_true, Bool.and_eq_true, beq_iff_eq] at hB
  rcases hB with hB | ⟨eb, heb, h1, ea, hea, h2⟩
  · exact h.before (hb _ _ hB) l1 l2 hl
  · obtain ⟨hebl, hpe⟩ := List.mem_filter.1 heb
    -- eb stands at i or ahead of it
    have hsplit : ∃ q r, l = q ++ eb :: r ∧ ∀ x, x ∈ q → x ∈ l1 := by
      rcases h1 with h1 | h1
      · subst h1; exact ⟨l1, l2, hl, fun _ hx => hx⟩
      · obtain ⟨q, r, hq⟩ := List.append_of_mem (h.before (hb _ _ h1) l1 l2 hl)
        exact ⟨q, r ++ i :: l2, by rw [hl, hq, List.append_assoc]; rfl, fun x hx => by rw [hq]; exact List.mem_append_left _ hx⟩
    obtain ⟨q, r, hq, hql⟩ := hsplit
    have hne : eb ∉ q := by
      intro hm
      have hnd := h.nodup
      rw [hq] at hnd
      exact (List.nodup_append.1 hnd).2.2 eb hm eb (by simp) rfl
    rw [hq, takeW_filter hne hpe] at hea
    have heq := (List.mem_filter.1 hea).1
    rcases h2 with h2 | h2
    · rw [h2]; exact hql _ heq
    · obtain ⟨a, b, rfl⟩ := List.append_of_mem heq
      have := h.before (hb _ _ h2) a (b ++ eb :: r) (by rw [hq, List.append_assoc]; rfl)
      exact hql _ (List.mem_append_left _ this)

abbrev Pln := List Nat × List Stg × List Nat
def plan3Ok (ops : Array Oper) (E : List Nat) (sg : List Nat) (stages : List Stg) (last : List Nat) : Bool :=
  decide (stages.map (fun x => x.2.2) = E) &&
  ((List.range ops.size).all fun i => (List.range ops.size).all fun k => match (opAt ops.toList k).dst with
    | some d => (!(readsOf ops.toList (opAt ops.toList i)).contains d || bitE ops.toList E i k || (bitE ops.toList E k i && sg.getD k 0 % 2 == 1)) && (decide (k = i) || decide ((opAt ops.toList i).dst ≠ some d))
    | none => true) &&
  ((List.range stages.length).all fun j => match stages[j]? with
    | some (st, kp, e) => decide (st = (List.range ops.size).filter fun i => sg.getD i 0 == 2 * j) && decide (e < ops.size) &&
        ((List.range ops.size).all fun i => decide (sg.getD i 0 = 2 * j + 1) == decide (i = e)) &&
        ((List.range ops.size).all fun i => decide (sg.getD i 0 < 2 * j + 2) || bitE ops.toList E i e) &&
        ((List.range ops.size).all fun i => sg.getD i 0 % 2 == 1 || decide (2 * j < sg.getD i 0) || bitE ops.toList E e i || heapFree (opAt ops.toList i).op || kp.contains i)
    | none => true) &&
  decide (last = (List.range ops.size).filter fun i => sg.getD i 0 == 2 * stages.length) &&
  ((List.range ops.size).all fun i => decide (sg.getD i 0 ≤ 2 * stages.length)) &&
  ((List.range ops.size).all fun i => (List.range ops.size).all fun k => !bitE ops.toList E i k || (decide (sg.getD k 0 ≤ sg.getD i 0) && (decide (sg.getD i 0 ≠ sg.getD k 0) || decide (sg.getD i 0 % 2 ≠ 0) || decide (k < i))))

theorem plan3_of {ops : Array Oper} {E sg : List Nat} {stages : List Stg} {last : List Nat} (hb : ∀ i k, bitM ops.toList i k = true → Anc ops k i) (h : plan3Ok ops E sg stages last = true) :
    stages.map (fun x => x.2.2) = E ∧ Plan3 ops (bitE ops.toList E) (fun i => sg.getD i 0) stages last := by
  simp only [plan3Ok, Bool.and_eq_true, List.all_eq_true, List.mem_range] at h
  obtain ⟨⟨⟨⟨⟨h0, h3⟩, h4⟩, h5⟩, h6⟩, h7⟩ := h
  refine ⟨of_decide_eq_true h0, ?_, ?_, by simpa using h5, fun i hi => by simpa using h6 i hi, fun i k hi hk hbb => ?_, fun i k hi hk hbb hs he => ?_⟩
  · intro i k hi hk d hd
    have := h3 i hi k hk
    rw [hd] at this
    simp only [Bool.and_eq_true, Bool.or_eq_true, Bool.not_eq_true', decide_eq_true_eq, beq_iff_eq] at this
    obtain ⟨g1, g2⟩ := this
    refine ⟨fun hm => ?_, fun hne => ?_⟩
    · rcases g1 with (g1 | g1) | g1
      · rw [List.contains_iff_mem.2 hm] at g1; cases g1
      · exact .inl g1
      · exact .inr ⟨g1.1, by simpa using g1.2⟩
    · rcases g2 with g2 | g2
      · exact absurd g2 hne
      · exact g2
  · intro j st kp e hj
    have hjl : j < stages.length := (List.getElem?_eq_some_iff.1 hj).1
    have := h4 j hjl
    rw [hj] at this
    simp only [Bool.and_eq_true, List.all_eq_true, List.mem_range, Bool.or_eq_true, decide_eq_true_eq, beq_iff_eq] at this
    obtain ⟨⟨⟨⟨g1, g2⟩, g3⟩, g4⟩, g5⟩ := this
    refine ⟨g1, g2, fun i hi => by have := g3 i hi; simpa using this, fun i hi hs => ?_, fun i hi he hs => ?_⟩
    · rcases g4 i hi with hx | hx
      · omega
      · exact hx
    · rcases g5 i hi with (((hx | hx) | hx) | hx) | hx
      · omega
      · omega
      · exact .inl hx
      · exact .inr (.inl hx)
      · exact .inr (.inr (List.contains_iff_mem.1 hx))
  · have := h7 i hi k hk
    simp only [Bool.or_eq_true, Bool.not_eq_true', Bool.and_eq_true, decide_eq_true_eq] at this
    rcases this with hx | hx
    · rw [hbb] at hx; cases hx
    · exact hx.1
  · have := h7 i hi k hk
    simp only [Bool.or_eq_true, Bool.not_eq_true', Bool.and_eq_true, decide_eq_true_eq] at this
    rcases this with hx | ⟨_, (hx | hx) | hx⟩
    · rw [hbb] at hx; cases hx
    · exact absurd hs hx
    · exact absurd he hx
    · exact hx
theorem nodup_le {a b : List Nat} (ha : a.Nodup) (h : ∀ x, x ∈ a → x ∈ b) : a.length ≤ b.length := by
  induction a generalizing b with
  | nil => exact Nat.zero_le _
  | cons x a ih =>
    obtain ⟨h1, h2⟩ := List.nodup_cons.1 ha
    have hx : x ∈ b := h x (by simp)
    have := ih (b := b.erase x) h2 fun y hy => (List.mem_erase_of_ne (fun e => h1 (by rw [← e]; exact hy))).2 (h y (by simp [hy]))
    rw [List.length_erase_of_mem hx] at this
    have := List.length_pos_of_mem hx
    simp only [List.length_cons]
    omega
/-- A region whose order is open: a plan for each order of its effects. -/
def draw3Ok (P : Program) (ops : Array Oper) (effs : List Nat) (plans : List Pln) : Bool :=
  (P.follows .mixedOrders || !Region.departs ops) &&
  ((List.range ops.size).all fun k => match ops[k]? with
    | some o => o.after.toList.all fun e => !Region.binds .any e || decide (e.on < k)
    | none => true) &&
  effs.all (fun e => decide (e < ops.size)) && decide effs.Nodup &&
  (ordersOf ops.toList effs.length effs).all fun E => plans.any fun p => plan3Ok ops E p.1 p.2.1 p.2.2

theorem wps_draw3 {r : Option Nat} {P : Program} {mm : Option Tmp → Bool} {n id : Nat} {ops : Array Oper} {s : Fr} {ds : List AD} {H : Hp} {Q : Post} (effs : List Nat) (plans : List Pln)
    (hr : r = none ∨ ops.toList.all (fun o => quietOk o.op) = true) (hok : draw3Ok P ops effs plans = true) (h : ∀ p ∈ plans, vcD P mm n ops.toList [] p.2.1 p.2.2 s ds H Q) : WPS r P n (.region id ops true) s ds H Q := by
  simp only [draw3Ok, Bool.and_eq_true] at hok
  obtain ⟨⟨⟨⟨h1, h2⟩, h3⟩, h4⟩, h5⟩ := hok
  have hedge : ∀ k o e, ops[k]? = some o → e ∈ o.after → Region.binds .any e = true → e.on < k := by
    intro k o e ho he hb
    have hk : k < ops.size := (Array.getElem?_eq_some_iff.1 ho).1
    have := List.all_eq_true.1 h2 k (List.mem_range.2 hk)
    rw [ho] at this
    simp only [List.all_eq_true, Bool.or_eq_true, Bool.not_eq_true', decide_eq_true_eq] at this
    rcases this e (by simpa using he) with hx | hx
    · rw [hb] at hx; cases hx
    · exact hx
  have hanc : ∀ i k, bitM ops.toList i k = true → Anc ops k i := fun q j hq =>
    masks_spec ops.toList [] (fun q h1 h2 => by simp) (fun q hq => absurd hq (by simp)) q j hq
  intro S a hn hH hF hD
  refine wpIn_region_draw fun t => ?_
  have hsch : Region.schedule (P.follows .mixedOrders) ops t = Region.linearise .any ops t := by
    unfold Region.schedule
    rw [if_pos h1]
  rw [hsch]
  have htopo := linearise_topo hedge t
  generalize Region.linearise .any ops t = l at htopo ⊢
  have hE : l.filter (effs.contains ·) ∈ ordersOf ops.toList effs.length effs := by
    have hmem : ∀ x, x ∈ l.filter (effs.contains ·) ↔ x ∈ effs := fun x => by
      rw [List.mem_filter]
      constructor
      · rintro ⟨_, hx⟩; exact List.contains_iff_mem.1 hx
      · intro hx
        have := of_decide_eq_true (List.all_eq_true.1 h3 x hx)
        exact ⟨(htopo.all x this).resolve_left (fun h => h), List.contains_iff_mem.2 hx⟩
    have hnd : (l.filter (effs.contains ·)).Nodup := List.Pairwise.filter _ htopo.nodup
    refine ordersOf_mem _ _ _ _ ?_ hnd hmem fun m1 i m2 hm k hk hb => ?_
    · have hnd2 := of_decide_eq_true h4
      exact Nat.le_antisymm (nodup_le hnd fun x hx => (hmem x).1 hx) (nodup_le hnd2 fun x hx => (hmem x).2 hx)
    · have hil : i ∈ l.filter (effs.contains ·) := by rw [hm]; simp
      obtain ⟨hil, hpi⟩ := List.mem_filter.1 hil
      obtain ⟨a', b', hl⟩ := List.append_of_mem hil
      have hka := htopo.before (hanc _ _ hb) a' b' hl
      have hni : i ∉ a' := by
        intro hx
        have := htopo.nodup
        rw [hl] at this
        exact (List.nodup_append.1 this).2.2 i hx i (by simp) rfl
      have hnm : i ∉ m1 := by
        intro hx
        rw [hm] at hnd
        exact (List.nodup_append.1 hnd).2.2 i hx i (by simp) rfl
      have e1 := takeW_filter (p := (effs.contains ·)) (a := a') (b := b') hni hpi
      rw [← hl, hm] at e1
      have e2 := takeW_filter (p := fun _ => true) (a := m1) (b := m2) hnm rfl
      rw [List.filter_eq_self.2 (fun _ _ => rfl), List.filter_eq_self.2 (fun _ _ => rfl)] at e2
      rw [e2] at e1
      rw [e1]
      exact List.mem_filter.2 ⟨hka, (List.mem_filter.1 hk).2⟩
  obtain ⟨⟨sg, stages, last⟩, hp, hpk⟩ := List.any_eq_true.1 (List.all_eq_true.1 h5 _ hE)
  have hv := h _ hp
  have hpk : plan3Ok ops _ sg stages last = true := hpk
  obtain ⟨_, pl⟩ := plan3_of hanc hpk
  have hB := topoB_of htopo hanc (effs.contains ·)
  simp only [] at hv
  rw [vcD_eq] at hv
  have hst : hdS stages last = (List.range ops.size).filter fun x => sg.getD x 0 == 2 * 0 := by
    cases stages with
    | nil => exact pl.last
    | cons x r => obtain ⟨st, kp, e⟩ := x; exact (pl.st 0 st kp e rfl).1
  rw [hst] at hv
  obtain ⟨sF, k1, k2, k3⟩ := stage_facts3 (r := r) pl (by omega) hv
  have hle : Le S { S with w := { S.w with drawn := S.w.drawn + 1 } } :=
    ⟨rfl, rfl, rfl, Nat.le_refl _, fun _ h => h, fun _ _ => rfl, fun _ _ _ => rfl, Nat.le_refl _, fun _ c _ _ h => ⟨c, h, rfl⟩⟩
  have hH' : HRel { S with w := { S.w with drawn := S.w.drawn + 1 } } H :=
    ⟨hH.fresh, hH.immlt, fun i o ho => (hH.obj i o ho).keep hle (fun _ => rfl) (fun _ _ => rfl) (fun _ _ _ h => h), hH.inj, fun p hp => (hH.giv p hp).mono hle⟩
  refine lift_wpOpsIn hle _ _ _ (draw_run3 (mm := mm) (sg := fun i => sg.getD i 0) pl hr l (fun _ => False) 0 sF ds H _ a hB (fun _ _ h => h.elim) (fun _ _ _ h => by omega)
    (fun i hi he hl _ => k3 i hi (by omega)) k1 hn hH' (hD.mono hle) ?_)
  intro t
  by_cases hx : ∃ k, k < ops.size ∧ (sg.getD k 0 % 2 = 0 ∧ sg.getD k 0 ≤ 2 * 0) ∧ (opAt ops.toList k).dst = some t
  · obtain ⟨k, a1, a2, a3⟩ := hx
    exact .inl ⟨k, a1, a2, fun h => h, a3⟩
  · right
    rw [k2 t (fun i hi h0 e => hx ⟨i, hi, ⟨by omega, by omega⟩, e⟩)]
    exact (hF t).mono hle

section
variable {r : Option Nat} {P : Program} {m : Option Tmp → Bool} {n : Nat} {k : List It} {s : Fr} {ds : List AD} {H : Hp} {Q : Post}
theorem vs_draw3 {id : Nat} {l : List Oper} (effs : List Nat) (plans : List Pln) (hok : draw3Ok P l.toArray effs plans = true) (h : ∀ p ∈ plans, VS none P m n (expand l [] p.2.2 p.2.1 k) s ds H Q) :
    VS none P m n (.code (.region id l.toArray true) :: k) s ds H Q := by
  show WPS none P n (.region id l.toArray true) s ds H (TK none P m n k Q)
  refine wps_draw3 (mm := m) effs plans (.inl rfl) hok fun p hp => ?_
  rw [List.toList_toArray, vcD_expand]; exact h p hp
end
end Go.V
end
section
set_option linter.unusedVariables false
namespace Go.V
set_option linter.unusedSectionVars false
variable [Inhabited GivT]
def CutS {σ : Type} (inv : σ → Prop) (fr : σ → List (Nat × AV)) (hp : σ → Hp) (ds0 : List AD) : Post := fun e s ds H => match e with
  | .normal => Ent s ds H fun s2 ds2 H2 => ∃ x, inv x ∧ s2 = Fr.of (fr x) ∧ ds2 = ds0 ∧ H2 = hp x
  | _ => False
section
variable {P : Program} {m : Option Tmp → Bool} {n : Nat} {k : List It} {s : Fr} {ds : List AD} {H : Hp} {Q : Post}
end
end Go.V
end
section
set_option linter.unusedVariables false
namespace Go.V
set_option linter.unusedSectionVars false
variable [Inhabited GivT]
def CutG {σ : Type} (inv : σ → Prop) (fr : σ → List (Nat × AV)) (hp : σ → Hp) (dsf : σ → List AD) (Q : Post) : Post := fun e s ds H => match e with
  | .normal => Ent s ds H fun s2 ds2 H2 => ∃ x, inv x ∧ s2 = Fr.of (fr x) ∧ ds2 = dsf x ∧ H2 = hp x
  | e => Q e s ds H
section
variable {r : Option Nat} {P : Program} {m : Option Tmp → Bool} {n : Nat} {s : Fr} {ds : List AD} {H : Hp} {Q : Post} {σ : Type} {inv : σ → Prop} {fr : σ → List (Nat × AV)} {hp : σ → Hp} {dsf : σ → List AD}
theorem CutG_pan {v : AV} : CutG inv fr hp dsf Q (.pan v) s ds H = Q (.pan v) s ds H := rfl
theorem CutG_ret : CutG inv fr hp dsf Q .ret s ds H = Q .ret s ds H := rfl
theorem cutG_of (x : σ) (h : inv x) (hs : Slots s (fr x)) (hd : ds = dsf x) (hH : HSub H (hp x)) : CutG inv fr hp dsf Q .normal s ds H := by
  subst hd
  exact Ent.of (fr x) hs hH ⟨x, h, rfl, rfl, rfl⟩
end
section
variable {r : Option Nat} {P : Program} {m : Option Tmp → Bool} {n : Nat} {s : Fr} {ds : List AD} {H : Hp} {Q : Post} {σ : Type} (inv : σ → Prop) (fr : σ → List (Nat × AV)) (hp : σ → Hp) (dsf : σ → List AD)
theorem wps_cutG {a b : Code} (h1 : VS r P m n [.code a] s ds H (CutG inv fr hp dsf Q)) (h2 : ∀ x, inv x → WPS r P n b (Fr.of (fr x)) (dsf x) (hp x) Q) : WPS r P n (.seq a b) s ds H Q := by
  refine wps_seq ((vcC_sound a h1).mono fun x s' ds' H' hq => ?_)
  cases x with
  | normal =>
    have hq : Ent s' ds' H' fun s2 ds2 H2 => ∃ x, inv x ∧ s2 = Fr.of (fr x) ∧ ds2 = dsf x ∧ H2 = hp x := hq
    refine wps_ent (hq.mono fun s2 ds2 H2 hx => ?_)
    obtain ⟨x, hi, rfl, rfl, rfl⟩ := hx
    exact h2 x hi
  | ret => exact hq
  | pan v => exact hq
  | exit i => exact hq
theorem wps_cutG2 {a b c : Code} (h1 : VS r P m n [.code a, .code b] s ds H (CutG inv fr hp dsf Q)) (h2 : ∀ x, inv x → WPS r P n c (Fr.of (fr x)) (dsf x) (hp x) Q) : WPS r P n (.seq a (.seq b c)) s ds H Q := by
  refine wps_seq ((vcC_sound a h1).mono fun x s' ds' H' hq => ?_)
  cases x with
  | normal => exact wps_cutG inv fr hp dsf hq h2
  | ret => exact hq
  | pan v => exact hq
  | exit i => exact hq
theorem wps_cutG3 {a b c d : Code} (h1 : VS r P m n [.code a, .code b, .code c] s ds H (CutG inv fr hp dsf Q)) (h2 : ∀ x, inv x → WPS r P n d (Fr.of (fr x)) (dsf x) (hp x) Q) : WPS r P n (.seq a (.seq b (.seq c d))) s ds H Q := by
  refine wps_seq ((vcC_sound a h1).mono fun x s' ds' H' hq => ?_)
  cases x with
  | normal => exact wps_cutG2 inv fr hp dsf hq h2
  | ret => exact hq
  | pan v => exact hq
  | exit i => exact hq
end
theorem tri_wam {P : Program} {g : FuncId} {T : RefT} {H : Hp} {f : FuncId} {fn : Func} {c : Code} {caps args : List AV} {R : Res → Hp → Prop} (hg : AnsOk P g T)
    (hf : P.funcs[f]? = some fn) (hname : (fn.name == "runtime.NumGoroutine") = false)
    (hb : fn.body = some c) (hlen : (args ++ caps).length ≤ fn.ntmps) (hbody : WPS none P fn.ntmps c (argFr (args ++ caps)) [] H (FnPostAM P fn g T R)) : Tri P (.func (.func f) [] caps) args H R := by
  intro S vf vs hH hvf ha
  cases hvf with
  | @func _ _ _ ws us hn hm h h' =>
    have hws : ws = #[] := by simpa using hn
    subst hws
    refine ⟨.enter f (vs.toArray ++ us), ?_, ?_⟩
    · have hcf : (callFunc f (vs.toArray ++ us)).run P S.w = .ok (.enter f (vs.toArray ++ us)) S.w := by
        simp only [callFunc, Sem.run_bind, run_program, Result.andThen_ok, hf, hname, hb]
        simp
      simp only [Deferred.ofValue, Sem.run_bind, Sem.run_pure, Result.andThen_ok, invoke]
      have e : (#[] : Array Value) ++ vs.toArray = vs.toArray := by simp
      rw [e]
      exact hcf
    · refine body_callsAM hg hf hb hlen hbody hH ?_
      refine ⟨by simp [ha.1, hm], fun k hk => ?_⟩
      simp only [List.getD, Array.toList_append]
      by_cases hk' : k < args.length
      · rw [List.getElem?_append_left hk', List.getElem?_append_left (by rw [ha.1]; exact hk')]
        exact ha.2 k hk'
      · have e1 := ha.1
        simp only [List.length_append] at hk
        rw [List.getElem?_append_right (by omega), List.getElem?_append_right (by omega), e1]
        have := h' (k - args.length) (by omega)
        simpa [List.getD, Array.getD_eq_getD_getElem?] using this
theorem tri_wm {P : Program} {H : Hp} {f : FuncId} {fn : Func} {c : Code} {caps args : List AV} {R : Res → Hp → Prop}
    (hf : P.funcs[f]? = some fn) (hname : (fn.name == "runtime.NumGoroutine") = false)
    (hb : fn.body = some c) (hlen : (args ++ caps).length ≤ fn.ntmps) (hbody : WPS none P fn.ntmps c (argFr (args ++ caps)) [] H (FnPostM P fn R)) : Tri P (.func (.func f) [] caps) args H R := by
  intro S vf vs hH hvf ha
  cases hvf with
  | @func _ _ _ ws us hn hm h h' =>
    have hws : ws = #[] := by simpa using hn
    subst hws
    refine ⟨.enter f (vs.toArray ++ us), ?_, ?_⟩
    · have hcf : (callFunc f (vs.toArray ++ us)).run P S.w = .ok (.enter f (vs.toArray ++ us)) S.w := by
        simp only [callFunc, Sem.run_bind, run_program, Result.andThen_ok, hf, hname, hb]
        simp
      simp only [Deferred.ofValue, Sem.run_bind, Sem.run_pure, Result.andThen_ok, invoke]
      have e : (#[] : Array Value) ++ vs.toArray = vs.toArray := by simp
      rw [e]
      exact hcf
    · refine body_callsM hf hb hlen hbody hH ?_
      refine ⟨by simp [ha.1, hm], fun k hk => ?_⟩
      simp only [List.getD, Array.toList_append]
      by_cases hk' : k < args.length
      · rw [List.getElem?_append_left hk', List.getElem?_append_left (by rw [ha.1]; exact hk')]
        exact ha.2 k hk'
      · have e1 := ha.1
        simp only [List.length_append] at hk
        rw [List.getElem?_append_right (by omega), List.getElem?_append_right (by omega), e1]
        have := h' (k - args.length) (by omega)
        simpa [List.getD, Array.getD_eq_getD_getElem?] using this
end Go.V
end
section
set_option linter.unusedVariables false
namespace Go.V
set_option linter.unusedSectionVars false
variable [Inhabited GivT]
section
variable {r : Option Nat} {P : Program} {m : Option Tmp → Bool} {n : Nat} {s : Fr} {ds : List AD} {H : Hp} {Q : Post} {σ : Type} (inv : σ → Prop) (fr : σ → List (Nat × AV)) (hp : σ → Hp) (dsf : σ → List AD)
theorem wps_cutG4 {a0 a1 a2 a3 b : Code} (h1 : VS r P m n [.code a0, .code a1, .code a2, .code a3] s ds H (CutG inv fr hp dsf Q)) (h2 : ∀ x, inv x → WPS r P n b (Fr.of (fr x)) (dsf x) (hp x) Q) : WPS r P n (.seq a0 (.seq a1 (.seq a2 (.seq a3 b)))) s ds H Q := by
  refine wps_seq ((vcC_sound a0 h1).mono fun x s' ds' H' hq => ?_)
  cases x with
  | normal => exact wps_cutG3 inv fr hp dsf hq h2
  | ret => exact hq
  | pan v => exact hq
  | exit i => exact hq
theorem wps_cutG5 {a0 a1 a2 a3 a4 b : Code} (h1 : VS r P m n [.code a0, .code a1, .code a2, .code a3, .code a4] s ds H (CutG inv fr hp dsf Q)) (h2 : ∀ x, inv x → WPS r P n b (Fr.of (fr x)) (dsf x) (hp x) Q) : WPS r P n (.seq a0 (.seq a1 (.seq a2 (.seq a3 (.seq a4 b))))) s ds H Q := by
  refine wps_seq ((vcC_sound a0 h1).mono fun x s' ds' H' hq => ?_)
  cases x with
  | normal => exact wps_cutG4 inv fr hp dsf hq h2
  | ret => exact hq
  | pan v => exact hq
  | exit i => exact hq
theorem wps_cutG6 {a0 a1 a2 a3 a4 a5 b : Code} (h1 : VS r P m n [.code a0, .code a1, .code a2, .code a3, .code a4, .code a5] s ds H (CutG inv fr hp dsf Q)) (h2 : ∀ x, inv x → WPS r P n b (Fr.of (fr x)) (dsf x) (hp x) Q) : WPS r P n (.seq a0 (.seq a1 (.seq a2 (.seq a3 (.seq a4 (.seq a5 b)))))) s ds H Q := by
  refine wps_seq ((vcC_sound a0 h1).mono fun x s' ds' H' hq => ?_)
  cases x with
  | normal => exact wps_cutG5 inv fr hp dsf hq h2
  | ret => exact hq
  | pan v => exact hq
  | exit i => exact hq
theorem wps_cutG7 {a0 a1 a2 a3 a4 a5 a6 b : Code} (h1 : VS r P m n [.code a0, .code a1, .code a2, .code a3, .code a4, .code a5, .code a6] s ds H (CutG inv fr hp dsf Q)) (h2 : ∀ x, inv x → WPS r P n b (Fr.of (fr x)) (dsf x) (hp x) Q) : WPS r P n (.seq a0 (.seq a1 (.seq a2 (.seq a3 (.seq a4 (.seq a5 (.seq a6 b))))))) s ds H Q := by
  refine wps_seq ((vcC_sound a0 h1).mono fun x s' ds' H' hq => ?_)
  cases x with
  | normal => exact wps_cutG6 inv fr hp dsf hq h2
  | ret => exact hq
  | pan v => exact hq
  | exit i => exact hq
end
/-- A cut, where more is to be said first. -/
theorem cutG_ent {σ : Type} {inv : σ → Prop} {fr : σ → List (Nat × AV)} {hp : σ → Hp} {dsf : σ → List AD} {Q : Post} {s : Fr} {ds : List AD} {H : Hp} (h : Ent s ds H fun s ds H => CutG inv fr hp dsf Q .normal s ds H) : CutG inv fr hp dsf Q .normal s ds H := Ent.bind h fun _ _ _ h => h
end Go.V
end
section
set_option linter.unusedVariables false
namespace Go.V
set_option linter.unusedSectionVars false
variable [Inhabited GivT]
theorem Ent.nilFr {s : Fr} {ds : List AD} {H : Hp} {K : Fr → List AD → Hp → Prop} {s' : Nat → Fr} (st : Nat) (f : Nat → List AV) (hs : ∀ id t, Nld id st (s t) (s' id t))
    (h : ∀ id, H id = none → K (s' id) ds (H.set id (.row st 0 f))) : Ent s ds H K := by
  intro S a hH hF hD
  have hnone := St.next_none hH
  have hle := S.layNil_le hH
  have h2 := hH.layNil st f
  refine ⟨S.layNil, s' S.next, ds, _, rfl, hle, h2, fun t => ?_, hD.mono hle, h S.next hnone⟩
  rcases hs S.next t with e | ⟨e1, e2⟩
  · rw [e]; exact (hF t).mono hle
  · rw [e2]
    have hv := (hF t).mono hle
    rw [e1] at hv
    rw [hv.lit_inv]
    exact .slnil (by simp [St.layNil])
end Go.V
end
section
set_option linter.unusedVariables false
set_option linter.unusedSimpArgs false
namespace Go.V
set_option linter.unusedSectionVars false
variable [Inhabited GivT]
/-- The same value, with some leaves told otherwise, in rows too. -/
inductive FrzS (L : AV → AV → Prop) : AV → AV → Prop
  | same (x : AV) : FrzS L x x
  | leaf {x y : AV} (h : L x y) : FrzS L x y
  | agg {cs cs' : List AV} (hl : cs'.length = cs.length) (h : ∀ k, k < cs.length → FrzS L (cs.getD k .any) (cs'.getD k .any)) : FrzS L (.agg cs) (.agg cs')
  | rsl {n st : Nat} {f g : Nat → List AV} (hl : ∀ k, k < n → (f k).length = st → (g k).length = st) (h : ∀ k l, k < n → l < st → FrzS L ((f k).getD l .any) ((g k).getD l .any)) : FrzS L (.rsl n st f) (.rsl n st g)
theorem FrzS.conv {L : AV → AV → Prop} {S S2 : St} (hle : Le S S2) (hc : ∀ x y, L x y → ∀ v, VRel S x v → VRel S2 y v) {x y : AV} (hxy : FrzS L x y) : ∀ v, VRel S x v → VRel S2 y v := by
  induction hxy with
  | same x => intro v hv; exact hv.mono hle
  | leaf h => intro v hv; exact hc _ _ h v hv
  | agg hl h ih =>
    intro v hv
    cases hv with
    | agg hn hv => exact .agg (hn.trans hl.symm) fun k hk => ih k (by omega) _ (hv k (by omega))
  | @rsl n st f g hl h ih =>
    intro v hv
    cases hv with
    | rsl0 => exact .rsl0
    | rsl hi hb hsz hf hh hcap =>
      exact .rsl (hle.imm _ hi) ((hle.keep _ hi).trans hb) hsz (fun k hk => hl k hk (hf k hk)) (fun k l hk hl2 => ih k l hk hl2 _ (hh k l hk hl2)) hcap
/-- What slots hold, slot by slot. -/
inductive FrzL (L : AV → AV → Prop) : List (Nat × AV) → List (Nat × AV) → Prop
  | nil : FrzL L [] []
  | cons {t : Nat} {v v' : AV} {l l' : List (Nat × AV)} (h : FrzS L v v') (k : FrzL L l l') : FrzL L ((t, v) :: l) ((t, v') :: l')
theorem FrzL.refl {L : AV → AV → Prop} : ∀ l : List (Nat × AV), FrzL L l l
  | [] => .nil
  | (_, v) :: l => .cons (.same v) (FrzL.refl l)
theorem FrzL.fr {L : AV → AV → Prop} {l l' : List (Nat × AV)} (h : FrzL L l l') : ∀ t, FrzS L (Fr.of l t) (Fr.of l' t) := by
  intro t
  induction h with
  | nil => exact .same _
  | cons hv _ ih =>
    simp only [Fr.of]
    split
    · exact hv
    · exact ih
end Go.V
end
section
set_option linter.unusedVariables false
set_option linter.unusedSimpArgs false
namespace Go.V
set_option linter.unusedSectionVars false
variable [Inhabited GivT]
theorem wpOpsIn_mono {F : Fence} {n : Nat} {P : Program} {ops : Array Oper} {Q Q' : Exit → Act → World → Prop} (hm : ∀ e a w, Q e a w → Q' e a w) : ∀ (l : List Nat) (a : Act) (w : World), wpOpsIn F n P ops Q l a w → wpOpsIn F n P ops Q' l a w := by
  intro l
  induction l with
  | nil => intro a' w h; exact hm _ _ _ h
  | cons i l ih =>
    intro a' w h
    simp only [wpOpsIn] at h ⊢
    split
    · rename_i e; simp only [e] at h; exact ih _ _ h
    · rename_i o' e
      simp only [e] at h
      split
      · rename_i hw
        rw [if_pos hw] at h
        refine ⟨h.1, ?_⟩
        have h2 := h.2
        generalize (o'.semAt F.round a'.eval).run P w = res at h2 ⊢
        cases res with
        | ok nx w' =>
          cases nx <;> simp only [Oper.uponIn] at h2 ⊢ <;> try exact ih _ _ h2
          · exact ⟨h2.1, h2.2.mono fun e w he => by
              cases e with
              | returned v => exact ih _ _ he
              | panicked ch => exact hm _ _ _ he
              | outgrown => obtain ⟨a0, w0, hx⟩ := he; exact ⟨a0, w0, hm _ _ _ hx⟩⟩
          · exact ⟨h2.1, h2.2.mono fun e w he => by
              cases e with
              | returned v => exact ih _ _ he
              | panicked ch => exact hm _ _ _ he
              | outgrown => obtain ⟨a0, w0, hx⟩ := he; exact ⟨a0, w0, hm _ _ _ hx⟩⟩
          · exact ⟨h2.1, h2.2.mono fun v w he => ih _ _ he⟩
        | halt x w' => cases x <;> simp only [Oper.uponIn] at h2 ⊢ <;> first | exact hm _ _ _ h2 | exact h2
      · rename_i hw; rw [if_neg hw] at h; exact ⟨h.1, ih _ _ h.2⟩

end Go.V
end
section
set_option linter.unusedVariables false
set_option linter.unusedSimpArgs false
namespace Go.V
set_option linter.unusedSectionVars false
variable [Inhabited GivT]
theorem wpOpsIn_append {F : Fence} {n : Nat} {P : Program} {ops : Array Oper} {Q : Exit → Act → World → Prop} (l2 : List Nat) : ∀ (l1 : List Nat) (a : Act) (w : World),
    wpOpsIn F n P ops (fun e a w => match e with | .normal => wpOpsIn F n P ops Q l2 a w | e => Q e a w) l1 a w → wpOpsIn F n P ops Q (l1 ++ l2) a w := by
  intro l1
  induction l1 with
  | nil => intro a w h; exact h
  | cons i l ih =>
    intro a' w h
    rw [List.cons_append]
    simp only [wpOpsIn] at h ⊢
    split
    · rename_i e; simp only [e] at h; exact ih _ _ h
    · rename_i o' e
      simp only [e] at h
      split
      · rename_i hw
        rw [if_pos hw] at h
        refine ⟨h.1, ?_⟩
        have h2 := h.2
        generalize (o'.semAt F.round a'.eval).run P w = res at h2 ⊢
        cases res with
        | ok nx w' =>
          cases nx <;> simp only [Oper.uponIn] at h2 ⊢ <;> try exact ih _ _ h2
          · exact ⟨h2.1, h2.2.mono fun e w he => by
              cases e with
              | returned v => exact ih _ _ he
              | panicked ch => exact he
              | outgrown => exact he⟩
          · exact ⟨h2.1, h2.2.mono fun e w he => by
              cases e with
              | returned v => exact ih _ _ he
              | panicked ch => exact he
              | outgrown => exact he⟩
          · exact ⟨h2.1, h2.2.mono fun v w he => ih _ _ he⟩
        | halt x w' => cases x <;> simp only [Oper.uponIn] at h2 ⊢ <;> first | exact h2
      · rename_i hw; rw [if_neg hw] at h; exact ⟨h.1, ih _ _ h.2⟩
theorem wpOpsIn_mono' {F : Fence} {n : Nat} {P : Program} {ops : Array Oper} {Q Q' : Exit → Act → World → Prop} (hm : ∀ e a w, Q e a w → Q' e a w) (l : List Nat) (a : Act) (w : World) (h : wpOpsIn F n P ops Q l a w) : wpOpsIn F n P ops Q' l a w := wpOpsIn_mono hm l a w h
section
variable {P : Program} {m : Option Tmp → Bool} {n id : Nat} {ops : Array Oper} {s : Fr} {ds : List AD} {H : Hp} {Q : Post}
end
end Go.V
end
section
set_option linter.unusedVariables false
set_option linter.unusedSimpArgs false
set_option maxHeartbeats 4000000
set_option maxRecDepth 100000
namespace Go.Proofs.Ytliomkpmadpibaa
open Go.V
abbrev Po.cs (x : Po) : List AV := [i64 x.ht, i64 x.fr, i64 x.bb]
def psF (l : List Po) : Nat → List AV := fun i => (l.getD i po0).cs
theorem psF_at (l : List Po) (i : Nat) : psF l i = [i64 (l.getD i po0).ht, i64 (l.getD i po0).fr, i64 (l.getD i po0).bb] := rfl
abbrev psAV (l : List Po) : AV := .rsl l.length 3 (psF l)
abbrev Pt.cs (p : Pt) : List AV := [i64 p.hr, i64 p.fro, i64 p.per, intsAV p.fs, psAV p.ps]
abbrev Pt.av (p : Pt) : AV := .agg p.cs
abbrev pptr (p : Pt) : AV := .rptr 1 5 (fun _ => p.cs) 0 0
abbrev plC (x : Int × Int) : List AV := [i64 x.1, i64 x.2]
abbrev plA (x : Int × Int) : AV := .agg (plC x)
abbrev plP (x : Int × Int) : AV := .rptr 1 2 (fun _ => plC x) 0 0
def plF (l : List (Int × Int)) : Nat → List AV := fun i => plC (l.getD i (0, 0))
theorem plF_at (l : List (Int × Int)) (i : Nat) : plF l i = [i64 (l.getD i (0, 0)).1, i64 (l.getD i (0, 0)).2] := rfl
abbrev plsAV (l : List (Int × Int)) : AV := .rsl l.length 2 (plF l)

theorem in_tri (n lo hi : Int) (H : Hp) : PTri Try.prog (fnA 94) [i64 n, i64 lo, i64 hi] H (boo (decide (lo ≤ n) && decide (n ≤ hi))) := by
  refine tri_v0 (fun _ => false) Try.func94 (by kernel_rfl) rfl (by simp only [List.length_append, List.length_cons, List.length_nil, Try.ntmps94]; decide) ?_
  simp only [vsAll, binA, binLitA, intA, pickA, opA, guardV, dstOk, nilSliceOp, resA, argFr, retA.eq_1, Nat.reduceLT, Nat.reduceEqDiff, ↓reduceIte, reduceCtorEq, implies_true, eq_self, Try.ntmps94, Try.results94]
theorem power_tri (n : Nat) (H : Hp) (hn : n ≤ 60) : PTri Try.prog (fnA 63) [i64 n] H (i64 ((2 ^ n : Nat) : Int)) := by
  refine tri_v0 (fun _ => false) Try.func63 (by kernel_rfl) rfl (by simp only [List.length_append, List.length_cons, List.length_nil, Try.ntmps63]; decide) ?_
  simp only [vsAll, opA, dstOk, nilSliceOp, Nat.reduceLT, eq_self, Try.ntmps63]
  refine vs_loop (σ := Nat) (fun i => i ≤ n) (fun i => [(0, i64 n), (3, i64 ((2 ^ i : Nat) : Int)), (4, i64 i)]) (fun _ => H) (fun i => n - i) 0 (Nat.zero_le _) ?_ ?_ fun i hi => ?_
  · simp only [vsAll, argFr, Nat.reduceEqDiff, ↓reduceIte, reduceCtorEq, eq_self, Int.natCast_zero, Nat.pow_zero, Int.natCast_one]
  · (repeat (first | exact HSub_rfl | refine HSub_put_eq (by simp only [vsAll, binA, binLitA, intA, aggA, aggV, boolA, nilA2, isConst, unA, loadA, loadRow, partA, partOk, fieldAddrA, indexAddrA, indexA, fieldA, extractA, lenA, nilCheckA, boxA, boxZ, cellA, cellsA, fillA, okParts, buildSliceA, buildMutA, makeSliceA, partIdx, elemsA, lensA, ifaceA, convA, mmA, pickA, okAll, stAll, opsA, partsA, partsOk, opA, allocA, boxMutA, newCells, okCells, storeObj, appendA, guardV, taA, nM, mapUpA, lookA, sliceA, sliceS, boundsA, opO, okO, copyA, dstOk, nilA, quietOk, nilSliceOp, deferV, panA, resA, argFr, retA.eq_1, retA.eq_2, Nat.reduceAdd, Nat.reduceSub, Nat.reduceMul, Nat.reduceLT, Nat.reduceLeDiff, Nat.reduceEqDiff, Nat.reduceBEq, Int.reduceAdd, Int.reduceSub, Int.reduceMul, Int.reduceNeg, Int.reduceLE, Int.reduceLT, Int.reduceEq, Int.reduceNe, Int.reduceToNat, ↓reduceIte, reduceCtorEq, implies_true, forall_const, eq_self, ne_eq, arrL, wtAll, Try.ntmps63, Try.results63]) ?_ | refine HSub_drop2 (by simp only [vsAll, binA, binLitA, intA, aggA, aggV, boolA, nilA2, isConst, unA, loadA, loadRow, partA, partOk, fieldAddrA, indexAddrA, indexA, fieldA, extractA, lenA, nilCheckA, boxA, boxZ, cellA, cellsA, fillA, okParts, buildSliceA, buildMutA, makeSliceA, partIdx, elemsA, lensA, ifaceA, convA, mmA, pickA, okAll, stAll, opsA, partsA, partsOk, opA, allocA, boxMutA, newCells, okCells, storeObj, appendA, guardV, taA, nM, mapUpA, lookA, sliceA, sliceS, boundsA, opO, okO, copyA, dstOk, nilA, quietOk, nilSliceOp, deferV, panA, resA, argFr, retA.eq_1, retA.eq_2, Nat.reduceAdd, Nat.reduceSub, Nat.reduceMul, Nat.reduceLT, Nat.reduceLeDiff, Nat.reduceEqDiff, Nat.reduceBEq, Int.reduceAdd, Int.reduceSub, Int.reduceMul, Int.reduceNeg, Int.reduceLE, Int.reduceLT, Int.reduceEq, Int.reduceNe, Int.reduceToNat, ↓reduceIte, reduceCtorEq, implies_true, forall_const, eq_self, ne_eq, arrL, wtAll, Try.ntmps63, Try.results63]) ?_ | refine HSub_keep_eq (by simp only [vsAll, binA, binLitA, intA, aggA, aggV, boolA, nilA2, isConst, unA, loadA, loadRow, partA, partOk, fieldAddrA, indexAddrA, indexA, fieldA, extractA, lenA, nilCheckA, boxA, boxZ, cellA, cellsA, fillA, okParts, buildSliceA, buildMutA, makeSliceA, partIdx, elemsA, lensA, ifaceA, convA, mmA, pickA, okAll, stAll, opsA, partsA, partsOk, opA, allocA, boxMutA, newCells, okCells, storeObj, appendA, guardV, taA, nM, mapUpA, lookA, sliceA, sliceS, boundsA, opO, okO, copyA, dstOk, nilA, quietOk, nilSliceOp, deferV, panA, resA, argFr, retA.eq_1, retA.eq_2, Nat.reduceAdd, Nat.reduceSub, Nat.reduceMul, Nat.reduceLT, Nat.reduceLeDiff, Nat.reduceEqDiff, Nat.reduceBEq, Int.reduceAdd, Int.reduceSub, Int.reduceMul, Int.reduceNeg, Int.reduceLE, Int.reduceLT, Int.reduceEq, Int.reduceNe, Int.reduceToNat, ↓reduceIte, reduceCtorEq, implies_true, forall_const, eq_self, ne_eq, arrL, wtAll, Try.ntmps63, Try.results63]) ?_))
  · simp only [vsAll, binA, binLitA, intA, opA, dstOk, Nat.reduceLT, Nat.reduceEqDiff, ↓reduceIte, reduceCtorEq, eq_self]
    refine condD (fun hb => ?_) (fun hb => ?_)
    · have h1 : 2 ^ (i + 1) ≤ 2 ^ 60 := Nat.pow_le_pow_right (by omega) (by omega)
      rw [Nat.pow_succ] at h1
      simp only [vsAll, binA, binLitA, intA, opA, dstOk, nilSliceOp, Nat.reduceLT, Nat.reduceEqDiff, ↓reduceIte, reduceCtorEq, eq_self]
      simp only [InR_i64]
      refine ⟨by omega, by omega, loop_next (i + 1) (by omega) (by omega) ?_ ?_⟩
      · have e : 2 * ((2 ^ i : Nat) : Int) = ((2 ^ (i + 1) : Nat) : Int) := by rw [Nat.pow_succ]; omega
        simp only [vsAll, Nat.reduceEqDiff, ↓reduceIte, reduceCtorEq, eq_self, e, Int.natCast_add, Int.natCast_one]
      · (repeat (first | exact HSub_rfl | refine HSub_put_eq (by simp only [vsAll, binA, binLitA, intA, aggA, aggV, boolA, nilA2, isConst, unA, loadA, loadRow, partA, partOk, fieldAddrA, indexAddrA, indexA, fieldA, extractA, lenA, nilCheckA, boxA, boxZ, cellA, cellsA, fillA, okParts, buildSliceA, buildMutA, makeSliceA, partIdx, elemsA, lensA, ifaceA, convA, mmA, pickA, okAll, stAll, opsA, partsA, partsOk, opA, allocA, boxMutA, newCells, okCells, storeObj, appendA, guardV, taA, nM, mapUpA, lookA, sliceA, sliceS, boundsA, opO, okO, copyA, dstOk, nilA, quietOk, nilSliceOp, deferV, panA, resA, argFr, retA.eq_1, retA.eq_2, Nat.reduceAdd, Nat.reduceSub, Nat.reduceMul, Nat.reduceLT, Nat.reduceLeDiff, Nat.reduceEqDiff, Nat.reduceBEq, Int.reduceAdd, Int.reduceSub, Int.reduceMul, Int.reduceNeg, Int.reduceLE, Int.reduceLT, Int.reduceEq, Int.reduceNe, Int.reduceToNat, ↓reduceIte, reduceCtorEq, implies_true, forall_const, eq_self, ne_eq, arrL, wtAll, Try.ntmps63, Try.results63]) ?_ | refine HSub_drop2 (by simp only [vsAll, binA, binLitA, intA, aggA, aggV, boolA, nilA2, isConst, unA, loadA, loadRow, partA, partOk, fieldAddrA, indexAddrA, indexA, fieldA, extractA, lenA, nilCheckA, boxA, boxZ, cellA, cellsA, fillA, okParts, buildSliceA, buildMutA, makeSliceA, partIdx, elemsA, lensA, ifaceA, convA, mmA, pickA, okAll, stAll, opsA, partsA, partsOk, opA, allocA, boxMutA, newCells, okCells, storeObj, appendA, guardV, taA, nM, mapUpA, lookA, sliceA, sliceS, boundsA, opO, okO, copyA, dstOk, nilA, quietOk, nilSliceOp, deferV, panA, resA, argFr, retA.eq_1, retA.eq_2, Nat.reduceAdd, Nat.reduceSub, Nat.reduceMul, Nat.reduceLT, Nat.reduceLeDiff, Nat.reduceEqDiff, Nat.reduceBEq, Int.reduceAdd, Int.reduceSub, Int.reduceMul, Int.reduceNeg, Int.reduceLE, Int.reduceLT, Int.reduceEq, Int.reduceNe, Int.reduceToNat, ↓reduceIte, reduceCtorEq, implies_true, forall_const, eq_self, ne_eq, arrL, wtAll, Try.ntmps63, Try.results63]) ?_ | refine HSub_keep_eq (by simp only [vsAll, binA, binLitA, intA, aggA, aggV, boolA, nilA2, isConst, unA, loadA, loadRow, partA, partOk, fieldAddrA, indexAddrA, indexA, fieldA, extractA, lenA, nilCheckA, boxA, boxZ, cellA, cellsA, fillA, okParts, buildSliceA, buildMutA, makeSliceA, partIdx, elemsA, lensA, ifaceA, convA, mmA, pickA, okAll, stAll, opsA, partsA, partsOk, opA, allocA, boxMutA, newCells, okCells, storeObj, appendA, guardV, taA, nM, mapUpA, lookA, sliceA, sliceS, boundsA, opO, okO, copyA, dstOk, nilA, quietOk, nilSliceOp, deferV, panA, resA, argFr, retA.eq_1, retA.eq_2, Nat.reduceAdd, Nat.reduceSub, Nat.reduceMul, Nat.reduceLT, Nat.reduceLeDiff, Nat.reduceEqDiff, Nat.reduceBEq, Int.reduceAdd, Int.reduceSub, Int.reduceMul, Int.reduceNeg, Int.reduceLE, Int.reduceLT, Int.reduceEq, Int.reduceNe, Int.reduceToNat, ↓reduceIte, reduceCtorEq, implies_true, forall_const, eq_self, ne_eq, arrL, wtAll, Try.ntmps63, Try.results63]) ?_))
    · have e : i = n := by omega
      subst e
      simp only [vsAll, opA, dstOk, nilSliceOp, resA, retA.eq_1, Nat.reduceLT, Nat.reduceEqDiff, ↓reduceIte, reduceCtorEq, eq_self, Try.results63]
theorem size_tri (s : Nat) (H : Hp) (hs : s < 2 ^ 60) : PTri Try.prog (fnA 39) [i64 s] H (i64 (pop s)) := by
  refine tri_v0 (fun _ => false) Try.func39 (by kernel_rfl) rfl (by simp only [List.length_append, List.length_cons, List.length_nil, Try.ntmps39]; decide) ?_
  simp only [vsAll, opA, dstOk, nilSliceOp, Nat.reduceLT, eq_self, Try.ntmps39]
  refine vs_loop (σ := Nat × Nat) (fun x => x.1 < 2 ^ 60 ∧ x.2 + pop x.1 = pop s) (fun x => [(0, i64 x.1), (3, i64 x.2)]) (fun _ => H) (fun x => x.1) (s, 0) ⟨hs, by simp⟩ ?_ ?_ fun x hx => ?_
  · simp only [vsAll, argFr, ↓reduceIte, reduceCtorEq, eq_self, Int.natCast_zero]
  · (repeat (first | exact HSub_rfl | refine HSub_put_eq (by simp only [vsAll, binA, binLitA, intA, aggA, aggV, boolA, nilA2, isConst, unA, loadA, loadRow, partA, partOk, fieldAddrA, indexAddrA, indexA, fieldA, extractA, lenA, nilCheckA, boxA, boxZ, cellA, cellsA, fillA, okParts, buildSliceA, buildMutA, makeSliceA, partIdx, elemsA, lensA, ifaceA, convA, mmA, pickA, okAll, stAll, opsA, partsA, partsOk, opA, allocA, boxMutA, newCells, okCells, storeObj, appendA, guardV, taA, nM, mapUpA, lookA, sliceA, sliceS, boundsA, opO, okO, copyA, dstOk, nilA, quietOk, nilSliceOp, deferV, panA, resA, argFr, retA.eq_1, retA.eq_2, Nat.reduceAdd, Nat.reduceSub, Nat.reduceMul, Nat.reduceLT, Nat.reduceLeDiff, Nat.reduceEqDiff, Nat.reduceBEq, Int.reduceAdd, Int.reduceSub, Int.reduceMul, Int.reduceNeg, Int.reduceLE, Int.reduceLT, Int.reduceEq, Int.reduceNe, Int.reduceToNat, ↓reduceIte, reduceCtorEq, implies_true, forall_const, eq_self, ne_eq, arrL, wtAll, Try.ntmps39, Try.results39]) ?_ | refine HSub_drop2 (by simp only [vsAll, binA, binLitA, intA, aggA, aggV, boolA, nilA2, isConst, unA, loadA, loadRow, partA, partOk, fieldAddrA, indexAddrA, indexA, fieldA, extractA, lenA, nilCheckA, boxA, boxZ, cellA, cellsA, fillA, okParts, buildSliceA, buildMutA, makeSliceA, partIdx, elemsA, lensA, ifaceA, convA, mmA, pickA, okAll, stAll, opsA, partsA, partsOk, opA, allocA, boxMutA, newCells, okCells, storeObj, appendA, guardV, taA, nM, mapUpA, lookA, sliceA, sliceS, boundsA, opO, okO, copyA, dstOk, nilA, quietOk, nilSliceOp, deferV, panA, resA, argFr, retA.eq_1, retA.eq_2, Nat.reduceAdd, Nat.reduceSub, Nat.reduceMul, Nat.reduceLT, Nat.reduceLeDiff, Nat.reduceEqDiff, Nat.reduceBEq, Int.reduceAdd, Int.reduceSub, Int.reduceMul, Int.reduceNeg, Int.reduceLE, Int.reduceLT, Int.reduceEq, Int.reduceNe, Int.reduceToNat, ↓reduceIte, reduceCtorEq, implies_true, forall_const, eq_self, ne_eq, arrL, wtAll, Try.ntmps39, Try.results39]) ?_ | refine HSub_keep_eq (by simp only [vsAll, binA, binLitA, intA, aggA, aggV, boolA, nilA2, isConst, unA, loadA, loadRow, partA, partOk, fieldAddrA, indexAddrA, indexA, fieldA, extractA, lenA, nilCheckA, boxA, boxZ, cellA, cellsA, fillA, okParts, buildSliceA, buildMutA, makeSliceA, partIdx, elemsA, lensA, ifaceA, convA, mmA, pickA, okAll, stAll, opsA, partsA, partsOk, opA, allocA, boxMutA, newCells, okCells, storeObj, appendA, guardV, taA, nM, mapUpA, lookA, sliceA, sliceS, boundsA, opO, okO, copyA, dstOk, nilA, quietOk, nilSliceOp, deferV, panA, resA, argFr, retA.eq_1, retA.eq_2, Nat.reduceAdd, Nat.reduceSub, Nat.reduceMul, Nat.reduceLT, Nat.reduceLeDiff, Nat.reduceEqDiff, Nat.reduceBEq, Int.reduceAdd, Int.reduceSub, Int.reduceMul, Int.reduceNeg, Int.reduceLE, Int.reduceLT, Int.reduceEq, Int.reduceNe, Int.reduceToNat, ↓reduceIte, reduceCtorEq, implies_true, forall_const, eq_self, ne_eq, arrL, wtAll, Try.ntmps39, Try.results39]) ?_))
  · obtain ⟨y, n⟩ := x
    obtain ⟨hy, hn⟩ := hx
    simp only at hy hn
    simp only [vsAll, binA, binLitA, intA, opA, dstOk, Nat.reduceLT, ↓reduceIte, eq_self]
    refine condD (fun hd => ?_) (fun hd => ?_)
    · have e1 : (y : Int).tmod 2 = ((y % 2 : Nat) : Int) := by rw [Int.tmod_eq_emod_of_nonneg (by omega)]; rfl
      have e2 : (y : Int).tdiv 2 = ((y / 2 : Nat) : Int) := by rw [Int.tdiv_eq_ediv_of_nonneg (by omega)]; rfl
      have hp := pop_le s
      have h3 := pop_step y hy
      simp only [vsAll, binA, binLitA, intA, opA, dstOk, nilSliceOp, Nat.reduceLT, Nat.reduceEqDiff, Int.reduceEq, ↓reduceIte, reduceCtorEq, eq_self, ne_eq]
      rw [e1, e2]
      simp only [InR_i64]
      refine ⟨by omega, by omega, loop_next (y / 2, n + y % 2) ⟨by show y / 2 < 2 ^ 60; omega, by show (n + y % 2) + pop (y / 2) = pop s; omega⟩ (by show y / 2 < y; omega) ?_ ?_⟩
      · simp only [vsAll, ↓reduceIte, reduceCtorEq, eq_self, Int.natCast_add]
      · (repeat (first | exact HSub_rfl | refine HSub_put_eq (by simp only [vsAll, binA, binLitA, intA, aggA, aggV, boolA, nilA2, isConst, unA, loadA, loadRow, partA, partOk, fieldAddrA, indexAddrA, indexA, fieldA, extractA, lenA, nilCheckA, boxA, boxZ, cellA, cellsA, fillA, okParts, buildSliceA, buildMutA, makeSliceA, partIdx, elemsA, lensA, ifaceA, convA, mmA, pickA, okAll, stAll, opsA, partsA, partsOk, opA, allocA, boxMutA, newCells, okCells, storeObj, appendA, guardV, taA, nM, mapUpA, lookA, sliceA, sliceS, boundsA, opO, okO, copyA, dstOk, nilA, quietOk, nilSliceOp, deferV, panA, resA, argFr, retA.eq_1, retA.eq_2, Nat.reduceAdd, Nat.reduceSub, Nat.reduceMul, Nat.reduceLT, Nat.reduceLeDiff, Nat.reduceEqDiff, Nat.reduceBEq, Int.reduceAdd, Int.reduceSub, Int.reduceMul, Int.reduceNeg, Int.reduceLE, Int.reduceLT, Int.reduceEq, Int.reduceNe, Int.reduceToNat, ↓reduceIte, reduceCtorEq, implies_true, forall_const, eq_self, ne_eq, arrL, wtAll, Try.ntmps39, Try.results39]) ?_ | refine HSub_drop2 (by simp only [vsAll, binA, binLitA, intA, aggA, aggV, boolA, nilA2, isConst, unA, loadA, loadRow, partA, partOk, fieldAddrA, indexAddrA, indexA, fieldA, extractA, lenA, nilCheckA, boxA, boxZ, cellA, cellsA, fillA, okParts, buildSliceA, buildMutA, makeSliceA, partIdx, elemsA, lensA, ifaceA, convA, mmA, pickA, okAll, stAll, opsA, partsA, partsOk, opA, allocA, boxMutA, newCells, okCells, storeObj, appendA, guardV, taA, nM, mapUpA, lookA, sliceA, sliceS, boundsA, opO, okO, copyA, dstOk, nilA, quietOk, nilSliceOp, deferV, panA, resA, argFr, retA.eq_1, retA.eq_2, Nat.reduceAdd, Nat.reduceSub, Nat.reduceMul, Nat.reduceLT, Nat.reduceLeDiff, Nat.reduceEqDiff, Nat.reduceBEq, Int.reduceAdd, Int.reduceSub, Int.reduceMul, Int.reduceNeg, Int.reduceLE, Int.reduceLT, Int.reduceEq, Int.reduceNe, Int.reduceToNat, ↓reduceIte, reduceCtorEq, implies_true, forall_const, eq_self, ne_eq, arrL, wtAll, Try.ntmps39, Try.results39]) ?_ | refine HSub_keep_eq (by simp only [vsAll, binA, binLitA, intA, aggA, aggV, boolA, nilA2, isConst, unA, loadA, loadRow, partA, partOk, fieldAddrA, indexAddrA, indexA, fieldA, extractA, lenA, nilCheckA, boxA, boxZ, cellA, cellsA, fillA, okParts, buildSliceA, buildMutA, makeSliceA, partIdx, elemsA, lensA, ifaceA, convA, mmA, pickA, okAll, stAll, opsA, partsA, partsOk, opA, allocA, boxMutA, newCells, okCells, storeObj, appendA, guardV, taA, nM, mapUpA, lookA, sliceA, sliceS, boundsA, opO, okO, copyA, dstOk, nilA, quietOk, nilSliceOp, deferV, panA, resA, argFr, retA.eq_1, retA.eq_2, Nat.reduceAdd, Nat.reduceSub, Nat.reduceMul, Nat.reduceLT, Nat.reduceLeDiff, Nat.reduceEqDiff, Nat.reduceBEq, Int.reduceAdd, Int.reduceSub, Int.reduceMul, Int.reduceNeg, Int.reduceLE, Int.reduceLT, Int.reduceEq, Int.reduceNe, Int.reduceToNat, ↓reduceIte, reduceCtorEq, implies_true, forall_const, eq_self, ne_eq, arrL, wtAll, Try.ntmps39, Try.results39]) ?_))
    · have : y = 0 := by omega
      subst this
      have e : n = pop s := by rw [← hn]; rfl
      simp only [vsAll, opA, dstOk, nilSliceOp, resA, retA.eq_1, Nat.reduceLT, Nat.reduceEqDiff, ↓reduceIte, reduceCtorEq, eq_self, Try.results39, e]
end Go.Proofs.Ytliomkpmadpibaa
end
