/-
  The tables of chapter 2's seat, and what its functions' proofs share. No condition. What hearing hands over, tick by tick. No condition but the theorem's own. What loops over functions are handed in chapter 2, on concrete values. No condition but the theorem's own. DERIVED: THE SHELF's CONTRACTS AT THIS DUMP, IN PLAIN WORDS (tools/lay-plain.mjs out of 'TryzShelf.lean', which tools/lay-shelf.mjs wrote): THE SAME DECLARATIONS UNDER THE SAME NAMES: 'import', 'namespace', 'open', 'def', 'theorem' AND NOTHING ELSE: no command of the shelf's: FOR A HAND-IN. Each laying: the table of numbers ('.._ren') and one theorem, a field a fact of the dump's own or the kernel's comparison; each contract: ONE APPLICATION. The library's strconv.Itoa and strings.Join, as contracts on abstract values. No condition but the theorems' own. The library's calls on concrete values, and what is known of the program for runs on concrete values. No condition but the theorems' own.
-/
import Derived.Test.YtjhjmncjidbieaaGreatDoorChecked
import Derived.Test.YtjhjmncjidbieaaGreatDoorAvC
import Derived.Shelf.Strings.Builder1
import Derived.Shelf.Strings.Builder2
import Derived.Shelf.Strings.OnBuilder
import Derived.Shelf.Small.Strs
import Derived.Shelf.Strconv.Itoa0
import Derived.Shelf.Strconv.Itoa1
import Derived.Shelf.LaysM
import Derived.Shelf.Strconv.Itoa2
import Derived.Shelf.Strconv.Itoa3
import Derived.Shelf.Strings.Search1
import Derived.Shelf.Strings.Search2
import Derived.Shelf.Strings.Search3
import Derived.Shelf.Strings.Count
import Derived.Shelf.Strings.Shaped
import Derived.Shelf.Unicode.DecodeSlow
import Derived.Test.YtjhjmncjidbieaaGreatDoorProg
namespace Go.Proofs.YtjhjmncjidbieaaGreatDoor
open Go Go.Av Go.RowKit
def T0 : TT := [
  (2, ⟨(.int .i64), 1, 8, false, [.int .i64 0], false⟩),
  (3, ⟨(.int .i64), 1, 8, false, [.int .i64 0], false⟩),
  (4, ⟨.bool, 1, 1, false, [.bool false], false⟩),
  (5, ⟨(.int .u8), 1, 1, false, [.int .u8 0], false⟩),
  (9, ⟨.str, 1, 16, false, [.str []], false⟩),
  (21, ⟨(.int .i32), 1, 4, false, [.int .i32 0], false⟩),
  (22, ⟨(.slice 85 2 16), 1, 24, false, [.ex (.slice none 0 0)], false⟩),
  (23, ⟨(.slice 81 3 24), 1, 24, false, [.ex (.slice none 0 0)], false⟩),
  (24, ⟨(.arr 2 3 1), 2, 16, true, [.int .i64 0, .int .i64 0], true⟩),
  (26, ⟨(.slice 83 5 40), 1, 24, false, [.ex (.slice none 0 0)], false⟩),
  (27, ⟨(.int .i64), 1, 8, false, [.int .i64 0], false⟩),
  (30, ⟨(.slice 166 3 24), 1, 24, false, [.ex (.slice none 0 0)], false⟩),
  (35, ⟨.other, 1, 8, false, [.ex .nilFunc], false⟩),
  (36, ⟨(.slice 110 5 40), 1, 24, false, [.ex (.slice none 0 0)], false⟩),
  (43, ⟨(.slice 3 1 8), 1, 24, false, [.ex (.slice none 0 0)], false⟩),
  (44, ⟨(.arr 8 3 1), 8, 64, true, [.int .i64 0, .int .i64 0, .int .i64 0, .int .i64 0, .int .i64 0, .int .i64 0, .int .i64 0, .int .i64 0], true⟩),
  (45, ⟨(.slice 117 2 32), 1, 24, false, [.ex (.slice none 0 0)], false⟩),
  (47, ⟨(.struct [(0, 9, 1), (1, 43, 1), (2, 44, 8), (10, 3, 1), (11, 43, 1), (12, 45, 1)]), 13, 160, true, [.str [], .ex (.slice none 0 0), .int .i64 0, .int .i64 0, .int .i64 0, .int .i64 0, .int .i64 0, .int .i64 0, .int .i64 0, .int .i64 0, .int .i64 0, .ex (.slice none 0 0), .ex (.slice none 0 0)], true⟩),
  (49, ⟨(.struct [(0, 3, 1), (1, 3, 1)]), 2, 16, true, [.int .i64 0, .int .i64 0], true⟩),
  (51, ⟨(.struct [(0, 3, 1), (1, 3, 1), (2, 3, 1)]), 3, 24, true, [.int .i64 0, .int .i64 0, .int .i64 0], true⟩),
  (53, ⟨(.struct [(0, 49, 2), (2, 51, 3)]), 5, 40, true, [.int .i64 0, .int .i64 0, .int .i64 0, .int .i64 0, .int .i64 0], true⟩),
  (58, ⟨(.slice 182 2 32), 1, 24, false, [.ex (.slice none 0 0)], false⟩),
  (60, ⟨(.struct [(0, 9, 1), (1, 43, 1), (2, 44, 8), (10, 3, 1), (11, 43, 1), (12, 58, 1)]), 13, 160, true, [.str [], .ex (.slice none 0 0), .int .i64 0, .int .i64 0, .int .i64 0, .int .i64 0, .int .i64 0, .int .i64 0, .int .i64 0, .int .i64 0, .int .i64 0, .ex (.slice none 0 0), .ex (.slice none 0 0)], true⟩),
  (66, ⟨(.struct [(0, 3, 1), (1, 3, 1)]), 2, 16, true, [.int .i64 0, .int .i64 0], true⟩),
  (78, ⟨(.int .u32), 1, 4, false, [.int .u32 0], false⟩),
  (81, ⟨(.struct [(0, 3, 1), (1, 3, 1), (2, 3, 1)]), 3, 24, true, [.int .i64 0, .int .i64 0, .int .i64 0], true⟩),
  (83, ⟨(.struct [(0, 3, 1), (1, 51, 3), (4, 3, 1)]), 5, 40, true, [.int .i64 0, .int .i64 0, .int .i64 0, .int .i64 0, .int .i64 0], true⟩),
  (85, ⟨(.struct [(0, 3, 1), (1, 3, 1)]), 2, 16, true, [.int .i64 0, .int .i64 0], true⟩),
  (89, ⟨(.struct [(0, 51, 3), (3, 85, 2), (5, 3, 1)]), 6, 48, true, [.int .i64 0, .int .i64 0, .int .i64 0, .int .i64 0, .int .i64 0, .int .i64 0], true⟩),
  (91, ⟨(.struct [(0, 3, 1), (1, 3, 1), (2, 89, 6), (8, 51, 3), (11, 85, 2), (13, 3, 1)]), 14, 112, true, [.int .i64 0, .int .i64 0, .int .i64 0, .int .i64 0, .int .i64 0, .int .i64 0, .int .i64 0, .int .i64 0, .int .i64 0, .int .i64 0, .int .i64 0, .int .i64 0, .int .i64 0, .int .i64 0], true⟩),
  (95, ⟨(.struct [(0, 51, 3), (3, 85, 2), (5, 3, 1)]), 6, 48, true, [.int .i64 0, .int .i64 0, .int .i64 0, .int .i64 0, .int .i64 0, .int .i64 0], true⟩),
  (107, ⟨(.int .u16), 1, 2, false, [.int .u16 0], false⟩),
  (109, ⟨(.struct [(0, 51, 3), (3, 107, 1), (4, 107, 1)]), 5, 32, true, [.int .i64 0, .int .i64 0, .int .i64 0, .int .u16 0, .int .u16 0], true⟩),
  (110, ⟨(.struct [(0, 3, 1), (1, 51, 3), (4, 3, 1)]), 5, 40, true, [.int .i64 0, .int .i64 0, .int .i64 0, .int .i64 0, .int .i64 0], true⟩),
  (117, ⟨(.struct [(0, 3, 1), (1, 43, 1)]), 2, 32, true, [.int .i64 0, .ex (.slice none 0 0)], true⟩),
  (119, ⟨.other, 1, 8, false, [.ex .nilFunc], false⟩),
  (120, ⟨(.slice 47 13 160), 1, 24, false, [.ex (.slice none 0 0)], false⟩),
  (121, ⟨(.slice 157 3 56), 1, 24, false, [.ex (.slice none 0 0)], false⟩),
  (124, ⟨(.slice 60 13 160), 1, 24, false, [.ex (.slice none 0 0)], false⟩),
  (126, ⟨(.slice 168 3 56), 1, 24, false, [.ex (.slice none 0 0)], false⟩),
  (157, ⟨(.struct [(0, 9, 1), (1, 9, 1), (2, 36, 1)]), 3, 56, true, [.str [], .str [], .ex (.slice none 0 0)], true⟩),
  (160, ⟨(.slice 9 1 16), 1, 24, false, [.ex (.slice none 0 0)], false⟩),
  (165, ⟨(.arr 8 85 2), 16, 128, true, [.int .i64 0, .int .i64 0, .int .i64 0, .int .i64 0, .int .i64 0, .int .i64 0, .int .i64 0, .int .i64 0, .int .i64 0, .int .i64 0, .int .i64 0, .int .i64 0, .int .i64 0, .int .i64 0, .int .i64 0, .int .i64 0], true⟩),
  (166, ⟨(.struct [(0, 3, 1), (1, 3, 1), (2, 3, 1)]), 3, 24, true, [.int .i64 0, .int .i64 0, .int .i64 0], true⟩),
  (168, ⟨(.struct [(0, 9, 1), (1, 9, 1), (2, 26, 1)]), 3, 56, true, [.str [], .str [], .ex (.slice none 0 0)], true⟩),
  (179, ⟨.other, 1, 8, false, [.ex .nilFunc], false⟩),
  (182, ⟨(.struct [(0, 3, 1), (1, 43, 1)]), 2, 32, true, [.int .i64 0, .ex (.slice none 0 0)], true⟩),
  (186, ⟨.other, 1, 8, false, [.ex .nilFunc], false⟩),
  (205, ⟨(.slice 210 4 64), 1, 24, false, [.ex (.slice none 0 0)], false⟩),
  (210, ⟨(.struct [(0, 168, 3), (3, 3, 1)]), 4, 64, true, [.str [], .str [], .ex (.slice none 0 0), .int .i64 0], true⟩),
  (212, ⟨.other, 1, 8, false, [.ex .nilFunc], false⟩),
  (213, ⟨.other, 1, 8, false, [.ex .nilFunc], false⟩),
  (215, ⟨(.map 9 4), 1, 8, false, [.ex (.map none)], false⟩),
  (219, ⟨(.arr 5 9 1), 5, 80, true, [.str [], .str [], .str [], .str [], .str []], true⟩),
  (221, ⟨.other, 1, 8, false, [.ex .nilFunc], false⟩),
  (225, ⟨.other, 1, 8, false, [.ex (.pointer none)], false⟩),
  (228, ⟨(.struct [(0, 160, 1), (1, 4, 1)]), 2, 32, true, [.ex (.slice none 0 0), .bool false], true⟩),
  (230, ⟨.other, 1, 8, false, [.ex .nilFunc], false⟩),
  (232, ⟨(.struct [(0, 230, 1)]), 1, 8, true, [.ex .nilFunc], true⟩),
  (233, ⟨(.arr 5 232 1), 5, 40, true, [.ex .nilFunc, .ex .nilFunc, .ex .nilFunc, .ex .nilFunc, .ex .nilFunc], true⟩),
  (234, ⟨.other, 1, 8, false, [.ex (.pointer none)], false⟩),
  (238, ⟨(.slice 27 1 8), 1, 24, false, [.ex (.slice none 0 0)], false⟩),
  (242, ⟨.other, 1, 8, false, [.ex .nilFunc], false⟩),
  (246, ⟨.other, 1, 8, false, [.ex .nilFunc], false⟩),
  (248, ⟨(.slice 26 1 24), 1, 24, false, [.ex (.slice none 0 0)], false⟩),
  (252, ⟨.other, 1, 8, false, [.ex .nilFunc], false⟩),
  (256, ⟨.other, 1, 8, false, [.ex .nilFunc], false⟩),
  (258, ⟨.other, 1, 8, false, [.ex (.pointer none)], false⟩),
  (259, ⟨(.slice 5 1 1), 1, 24, false, [.ex (.slice none 0 0)], false⟩),
  (261, ⟨(.struct [(0, 258, 1), (1, 259, 1)]), 2, 32, true, [.ex (.pointer none), .ex (.slice none 0 0)], true⟩),
  (264, ⟨.other, 1, 16, false, [.ex .nilIface], false⟩),
  (270, ⟨.other, 1, 8, false, [.ex (.pointer none)], false⟩),
  (274, ⟨.other, 1, 8, false, [.ex (.pointer none)], false⟩),
  (277, ⟨(.arr 24 5 1), 24, 24, true, [.int .u8 0, .int .u8 0, .int .u8 0, .int .u8 0, .int .u8 0, .int .u8 0, .int .u8 0, .int .u8 0, .int .u8 0, .int .u8 0, .int .u8 0, .int .u8 0, .int .u8 0, .int .u8 0, .int .u8 0, .int .u8 0, .int .u8 0, .int .u8 0, .int .u8 0, .int .u8 0, .int .u8 0, .int .u8 0, .int .u8 0, .int .u8 0], true⟩),
  (278, ⟨(.int .u64), 1, 8, false, [.int .u64 0], false⟩),
  (283, ⟨(.int .u64), 1, 8, false, [.int .u64 0], false⟩),
  (285, ⟨(.arr 20 278 1), 20, 160, true, [.int .u64 0, .int .u64 0, .int .u64 0, .int .u64 0, .int .u64 0, .int .u64 0, .int .u64 0, .int .u64 0, .int .u64 0, .int .u64 0, .int .u64 0, .int .u64 0, .int .u64 0, .int .u64 0, .int .u64 0, .int .u64 0, .int .u64 0, .int .u64 0, .int .u64 0, .int .u64 0], true⟩),
  (286, ⟨(.arr 65 5 1), 65, 65, true, [.int .u8 0, .int .u8 0, .int .u8 0, .int .u8 0, .int .u8 0, .int .u8 0, .int .u8 0, .int .u8 0, .int .u8 0, .int .u8 0, .int .u8 0, .int .u8 0, .int .u8 0, .int .u8 0, .int .u8 0, .int .u8 0, .int .u8 0, .int .u8 0, .int .u8 0, .int .u8 0, .int .u8 0, .int .u8 0, .int .u8 0, .int .u8 0, .int .u8 0, .int .u8 0, .int .u8 0, .int .u8 0, .int .u8 0, .int .u8 0, .int .u8 0, .int .u8 0, .int .u8 0, .int .u8 0, .int .u8 0, .int .u8 0, .int .u8 0, .int .u8 0, .int .u8 0, .int .u8 0, .int .u8 0, .int .u8 0, .int .u8 0, .int .u8 0, .int .u8 0, .int .u8 0, .int .u8 0, .int .u8 0, .int .u8 0, .int .u8 0, .int .u8 0, .int .u8 0, .int .u8 0, .int .u8 0, .int .u8 0, .int .u8 0, .int .u8 0, .int .u8 0, .int .u8 0, .int .u8 0, .int .u8 0, .int .u8 0, .int .u8 0, .int .u8 0, .int .u8 0], true⟩),
  (288, ⟨(.arr 256 5 1), 256, 256, true, [.int .u8 0, .int .u8 0, .int .u8 0, .int .u8 0, .int .u8 0, .int .u8 0, .int .u8 0, .int .u8 0, .int .u8 0, .int .u8 0, .int .u8 0, .int .u8 0, .int .u8 0, .int .u8 0, .int .u8 0, .int .u8 0, .int .u8 0, .int .u8 0, .int .u8 0, .int .u8 0, .int .u8 0, .int .u8 0, .int .u8 0, .int .u8 0, .int .u8 0, .int .u8 0, .int .u8 0, .int .u8 0, .int .u8 0, .int .u8 0, .int .u8 0, .int .u8 0, .int .u8 0, .int .u8 0, .int .u8 0, .int .u8 0, .int .u8 0, .int .u8 0, .int .u8 0, .int .u8 0, .int .u8 0, .int .u8 0, .int .u8 0, .int .u8 0, .int .u8 0, .int .u8 0, .int .u8 0, .int .u8 0, .int .u8 0, .int .u8 0, .int .u8 0, .int .u8 0, .int .u8 0, .int .u8 0, .int .u8 0, .int .u8 0, .int .u8 0, .int .u8 0, .int .u8 0, .int .u8 0, .int .u8 0, .int .u8 0, .int .u8 0, .int .u8 0, .int .u8 0, .int .u8 0, .int .u8 0, .int .u8 0, .int .u8 0, .int .u8 0, .int .u8 0, .int .u8 0, .int .u8 0, .int .u8 0, .int .u8 0, .int .u8 0, .int .u8 0, .int .u8 0, .int .u8 0, .int .u8 0, .int .u8 0, .int .u8 0, .int .u8 0, .int .u8 0, .int .u8 0, .int .u8 0, .int .u8 0, .int .u8 0, .int .u8 0, .int .u8 0, .int .u8 0, .int .u8 0, .int .u8 0, .int .u8 0, .int .u8 0, .int .u8 0, .int .u8 0, .int .u8 0, .int .u8 0, .int .u8 0, .int .u8 0, .int .u8 0, .int .u8 0, .int .u8 0, .int .u8 0, .int .u8 0, .int .u8 0, .int .u8 0, .int .u8 0, .int .u8 0, .int .u8 0, .int .u8 0, .int .u8 0, .int .u8 0, .int .u8 0, .int .u8 0, .int .u8 0, .int .u8 0, .int .u8 0, .int .u8 0, .int .u8 0, .int .u8 0, .int .u8 0, .int .u8 0, .int .u8 0, .int .u8 0, .int .u8 0, .int .u8 0, .int .u8 0, .int .u8 0, .int .u8 0, .int .u8 0, .int .u8 0, .int .u8 0, .int .u8 0, .int .u8 0, .int .u8 0, .int .u8 0, .int .u8 0, .int .u8 0, .int .u8 0, .int .u8 0, .int .u8 0, .int .u8 0, .int .u8 0, .int .u8 0, .int .u8 0, .int .u8 0, .int .u8 0, .int .u8 0, .int .u8 0, .int .u8 0, .int .u8 0, .int .u8 0, .int .u8 0, .int .u8 0, .int .u8 0, .int .u8 0, .int .u8 0, .int .u8 0, .int .u8 0, .int .u8 0, .int .u8 0, .int .u8 0, .int .u8 0, .int .u8 0, .int .u8 0, .int .u8 0, .int .u8 0, .int .u8 0, .int .u8 0, .int .u8 0, .int .u8 0, .int .u8 0, .int .u8 0, .int .u8 0, .int .u8 0, .int .u8 0, .int .u8 0, .int .u8 0, .int .u8 0, .int .u8 0, .int .u8 0, .int .u8 0, .int .u8 0, .int .u8 0, .int .u8 0, .int .u8 0, .int .u8 0, .int .u8 0, .int .u8 0, .int .u8 0, .int .u8 0, .int .u8 0, .int .u8 0, .int .u8 0, .int .u8 0, .int .u8 0, .int .u8 0, .int .u8 0, .int .u8 0, .int .u8 0, .int .u8 0, .int .u8 0, .int .u8 0, .int .u8 0, .int .u8 0, .int .u8 0, .int .u8 0, .int .u8 0, .int .u8 0, .int .u8 0, .int .u8 0, .int .u8 0, .int .u8 0, .int .u8 0, .int .u8 0, .int .u8 0, .int .u8 0, .int .u8 0, .int .u8 0, .int .u8 0, .int .u8 0, .int .u8 0, .int .u8 0, .int .u8 0, .int .u8 0, .int .u8 0, .int .u8 0, .int .u8 0, .int .u8 0, .int .u8 0, .int .u8 0, .int .u8 0, .int .u8 0, .int .u8 0, .int .u8 0, .int .u8 0, .int .u8 0, .int .u8 0, .int .u8 0, .int .u8 0, .int .u8 0, .int .u8 0, .int .u8 0, .int .u8 0, .int .u8 0, .int .u8 0, .int .u8 0, .int .u8 0, .int .u8 0, .int .u8 0, .int .u8 0, .int .u8 0, .int .u8 0, .int .u8 0], true⟩),
  (290, ⟨(.struct [(0, 5, 1), (1, 5, 1)]), 2, 2, true, [.int .u8 0, .int .u8 0], true⟩),
  (291, ⟨(.arr 16 290 2), 32, 32, true, [.int .u8 0, .int .u8 0, .int .u8 0, .int .u8 0, .int .u8 0, .int .u8 0, .int .u8 0, .int .u8 0, .int .u8 0, .int .u8 0, .int .u8 0, .int .u8 0, .int .u8 0, .int .u8 0, .int .u8 0, .int .u8 0, .int .u8 0, .int .u8 0, .int .u8 0, .int .u8 0, .int .u8 0, .int .u8 0, .int .u8 0, .int .u8 0, .int .u8 0, .int .u8 0, .int .u8 0, .int .u8 0, .int .u8 0, .int .u8 0, .int .u8 0, .int .u8 0], true⟩),
  (295, ⟨(.arr 32 5 1), 32, 32, true, [.int .u8 0, .int .u8 0, .int .u8 0, .int .u8 0, .int .u8 0, .int .u8 0, .int .u8 0, .int .u8 0, .int .u8 0, .int .u8 0, .int .u8 0, .int .u8 0, .int .u8 0, .int .u8 0, .int .u8 0, .int .u8 0, .int .u8 0, .int .u8 0, .int .u8 0, .int .u8 0, .int .u8 0, .int .u8 0, .int .u8 0, .int .u8 0, .int .u8 0, .int .u8 0, .int .u8 0, .int .u8 0, .int .u8 0, .int .u8 0, .int .u8 0, .int .u8 0], true⟩),
  (296, ⟨(.arr 64 5 1), 64, 64, true, [.int .u8 0, .int .u8 0, .int .u8 0, .int .u8 0, .int .u8 0, .int .u8 0, .int .u8 0, .int .u8 0, .int .u8 0, .int .u8 0, .int .u8 0, .int .u8 0, .int .u8 0, .int .u8 0, .int .u8 0, .int .u8 0, .int .u8 0, .int .u8 0, .int .u8 0, .int .u8 0, .int .u8 0, .int .u8 0, .int .u8 0, .int .u8 0, .int .u8 0, .int .u8 0, .int .u8 0, .int .u8 0, .int .u8 0, .int .u8 0, .int .u8 0, .int .u8 0, .int .u8 0, .int .u8 0, .int .u8 0, .int .u8 0, .int .u8 0, .int .u8 0, .int .u8 0, .int .u8 0, .int .u8 0, .int .u8 0, .int .u8 0, .int .u8 0, .int .u8 0, .int .u8 0, .int .u8 0, .int .u8 0, .int .u8 0, .int .u8 0, .int .u8 0, .int .u8 0, .int .u8 0, .int .u8 0, .int .u8 0, .int .u8 0, .int .u8 0, .int .u8 0, .int .u8 0, .int .u8 0, .int .u8 0, .int .u8 0, .int .u8 0, .int .u8 0], true⟩)]
def F0 : FT := [
  (3, [(0, ⟨[{fr := true}], 10, [10, 18, 46], []⟩), (1, ⟨[{}, {}, {}, {}, {sym := true}, {sym := true}, {sym := true}], 10, [10, 18, 46], []⟩), (2, ⟨[], 10, [10, 18, 46], []⟩), (3, ⟨[{}, {}, {fz := true}], 10, [10, 18, 46], []⟩), (4, ⟨[{}, {}, {}, {}, {}, {}, {}, {}, {}, {}, {fr := true}], 10, [10, 18, 46], []⟩), (5, ⟨[], 10, [10, 18, 46], []⟩), (6, ⟨[], 10, [10, 18, 46], []⟩), (7, ⟨[], 10, [10, 18, 46], []⟩), (8, ⟨[{}, {}, {}, {}, {}, {}, {}, {sym := true}, {sym := true}, {sym := true}, {sym := true}, {}, {}, {sym := true}, {sym := true}, {sym := true}, {}, {}, {sym := true}], 10, [10, 18, 46], []⟩)]),
  (4, [(0, ⟨[{fr := true}, {fr := true}], 22, [29, 89, 109], []⟩), (1, ⟨[{}, {}, {}, {}, {sym := true}, {sym := true}, {sym := true}], 22, [29, 89, 109], []⟩), (2, ⟨[], 22, [29, 89, 109], []⟩), (3, ⟨[], 22, [29, 89, 109], []⟩), (4, ⟨[], 22, [29, 89, 109], []⟩), (5, ⟨[], 22, [29, 89, 109], [12]⟩), (6, ⟨[{}, {}, {}, {}, {fr := true}], 22, [29, 89, 109], []⟩), (7, ⟨[{}, {}, {}, {}, {}, {}, {}, {fr := true}, {}, {}, {}, {}, {}, {fr := true}], 22, [29, 89, 109], []⟩), (8, ⟨[], 22, [29, 89, 109], []⟩), (9, ⟨[], 22, [29, 89, 109], []⟩), (10, ⟨[], 22, [29, 89, 109], []⟩), (11, ⟨[], 22, [29, 89, 109], []⟩), (12, ⟨[], 22, [29, 89, 109], []⟩), (13, ⟨[], 22, [29, 89, 109], []⟩), (14, ⟨[], 22, [29, 89, 109], []⟩), (15, ⟨[], 22, [29, 89, 109], []⟩), (16, ⟨[{}, {}, {}, {}, {sym := true}, {sym := true}, {sym := true}, {}, {}, {sym := true}, {sym := true}, {sym := true}, {}, {}, {sym := true}, {sym := true}, {sym := true}, {}, {}, {sym := true}, {sym := true}, {sym := true}, {}, {}, {sym := true}, {sym := true}, {sym := true}, {}, {}, {sym := true}, {sym := true}, {sym := true}, {}, {}, {sym := true}], 22, [29, 89, 109], []⟩)]),
  (6, [(0, ⟨[{fr := true}, {fr := true}], 100, [107, 115, 123], []⟩), (1, ⟨[], 100, [107, 115, 123], []⟩), (2, ⟨[], 100, [107, 115, 123], []⟩), (3, ⟨[], 100, [107, 115, 123], []⟩), (4, ⟨[], 100, [107, 115, 123], []⟩), (5, ⟨[], 100, [107, 115, 123], []⟩), (6, ⟨[], 100, [107, 115, 123], []⟩), (7, ⟨[], 100, [107, 115, 123], []⟩), (8, ⟨[{}, {}, {}, {}, {}, {}, {}, {fr := true}, {}, {}, {}, {}, {}, {}, {}, {}, {fr := true}], 100, [107, 115, 123], []⟩), (9, ⟨[{}, {}, {}, {}, {}, {}, {}, {fr := true}, {}, {}, {}, {}, {}, {fr := true}], 100, [107, 115, 123], []⟩), (10, ⟨[], 100, [107, 115, 123], []⟩), (11, ⟨[], 100, [107, 115, 123], []⟩), (12, ⟨[], 100, [107, 115, 123], []⟩), (13, ⟨[], 100, [107, 115, 123], []⟩), (14, ⟨[], 100, [107, 115, 123], []⟩), (15, ⟨[], 100, [107, 115, 123], []⟩), (16, ⟨[], 100, [107, 115, 123], []⟩), (17, ⟨[], 100, [107, 115, 123], []⟩), (18, ⟨[], 100, [107, 115, 123], []⟩), (19, ⟨[], 100, [107, 115, 123], []⟩), (20, ⟨[{}, {}, {}, {}, {}, {}, {sym := true}, {sym := true}, {sym := true}, {}, {}, {sym := true}, {sym := true}, {sym := true}, {}, {}, {sym := true}, {sym := true}, {sym := true}, {}, {}, {sym := true}, {sym := true}, {sym := true}, {}, {}, {sym := true}, {sym := true}, {sym := true}, {}, {}, {sym := true}, {sym := true}, {sym := true}, {}, {}, {sym := true}, {sym := true}, {sym := true}, {}, {}, {sym := true}, {sym := true}, {sym := true}, {}, {}, {sym := true}], 100, [107, 115, 123], []⟩)]),
  (7, [(0, ⟨[{fr := true}, {fr := true}], 288, [295, 296, 297], []⟩), (1, ⟨[{}, {}, {}, {}, {sym := true}, {sym := true}, {sym := true}, {}, {}, {sym := true}, {sym := true}, {sym := true}, {}, {}, {sym := true}, {sym := true}, {sym := true}, {}, {}, {sym := true}, {sym := true}, {sym := true}, {nw := true, sym := true}, {sym := true}, {sym := true}, {sym := true}, {sym := true}, {sym := true}, {sym := true}, {sym := true}, {nw := true, sym := true}, {sym := true}, {}, {}, {sym := true}, {sym := true}, {sym := true}, {sym := true}], 288, [295, 296, 297], []⟩), (2, ⟨[], 288, [295, 296, 297], []⟩), (3, ⟨[{}, {}, {}, {}, {}, {}, {}, {nw := true}], 288, [295, 296, 297], []⟩), (4, ⟨[{}, {}, {}, {}, {}, {}, {nw := true}, {nw := true}, {}, {nw := true}], 288, [295, 296, 297], []⟩), (5, ⟨[], 288, [295, 296, 297], []⟩), (6, ⟨[], 288, [295, 296, 297], []⟩), (7, ⟨[], 288, [295, 296, 297], []⟩), (8, ⟨[], 288, [295, 296, 297], []⟩), (9, ⟨[], 288, [295, 296, 297], [19]⟩), (10, ⟨[{}, {}, {}, {sym := true}, {sym := true}, {}, {}, {sym := true}, {sym := true}, {}, {}, {sym := true}, {sym := true}, {}, {}, {sym := true}, {sym := true}, {}, {}, {sym := true}, {sym := true}, {nw := true, sym := true}, {sym := true}, {sym := true}, {}, {}, {sym := true}, {sym := true}, {sym := true}, {sym := true}, {}, {}, {sym := true}, {sym := true}, {sym := true}, {sym := true}, {}, {}, {sym := true}, {sym := true}, {sym := true}, {}, {}, {sym := true}, {sym := true}, {sym := true}], 288, [295, 296, 297], []⟩), (11, ⟨[], 288, [295, 296, 297], []⟩), (12, ⟨[], 288, [295, 296, 297], []⟩), (13, ⟨[], 288, [295, 296, 297], []⟩), (14, ⟨[], 288, [295, 296, 297], []⟩), (16, ⟨[], 288, [295, 296, 297], [23]⟩), (17, ⟨[], 288, [295, 296, 297], []⟩), (18, ⟨[{}, {}, {}, {sym := true}, {sym := true}, {}, {}, {sym := true}, {sym := true}, {}, {}, {sym := true}, {sym := true}, {sym := true}, {}, {}, {sym := true}, {sym := true}, {sym := true}, {sym := true}, {sym := true}, {sym := true}, {sym := true}, {sym := true}, {sym := true}, {sym := true}, {sym := true}, {sym := true}], 288, [295, 296, 297], []⟩), (19, ⟨[], 288, [295, 296, 297], []⟩), (20, ⟨[{}, {}, {nw := true}], 288, [295, 296, 297], []⟩), (15, ⟨[{}, {nw := true}], 288, [295, 296, 297], []⟩), (21, ⟨[], 288, [295, 296, 297], []⟩), (22, ⟨[], 288, [295, 296, 297], []⟩), (23, ⟨[{}, {fr := true}], 288, [295, 296, 297], []⟩), (24, ⟨[], 288, [295, 296, 297], []⟩), (25, ⟨[], 288, [295, 296, 297], []⟩), (26, ⟨[], 288, [295, 296, 297], []⟩), (27, ⟨[{}, {}, {}, {}, {}, {}, {}, {}, {}, {}, {}, {nw := true}], 288, [295, 296, 297], []⟩), (28, ⟨[{nw := true}], 288, [295, 296, 297], []⟩), (29, ⟨[], 288, [295, 296, 297], [29]⟩), (30, ⟨[], 288, [295, 296, 297], []⟩), (31, ⟨[], 288, [295, 296, 297], []⟩), (32, ⟨[], 288, [295, 296, 297], []⟩), (33, ⟨[], 288, [295, 296, 297], []⟩), (34, ⟨[], 288, [295, 296, 297], []⟩), (35, ⟨[], 288, [295, 296, 297], []⟩), (36, ⟨[{}, {}, {}, {}, {}, {}, {}, {}, {}, {}, {}, {}, {}, {}, {}, {}, {}, {}, {}, {nw := true}], 288, [295, 296, 297], []⟩), (37, ⟨[{nw := true}], 288, [295, 296, 297], []⟩), (38, ⟨[{nw := true}], 288, [295, 296, 297], []⟩), (39, ⟨[], 288, [295, 296, 297], []⟩), (40, ⟨[], 288, [295, 296, 297], []⟩), (41, ⟨[{}, {}, {}, {sym := true}, {sym := true}, {}, {}, {sym := true}, {sym := true}, {sym := true}, {}, {}, {sym := true}, {sym := true}, {sym := true}, {}, {}, {sym := true}], 288, [295, 296, 297], []⟩)]),
  (8, [(0, ⟨[{fr := true}, {fr := true}], 376, [376, 377, 381], []⟩), (1, ⟨[], 376, [376, 377, 381], [5, 6]⟩), (2, ⟨[{}, {}, {}, {}, {sym := true}, {sym := true}, {sym := true}, {}, {}, {sym := true}, {sym := true}, {sym := true}, {sym := true}, {nw := true, sym := true}, {sym := true}, {sym := true}, {sym := true}, {sym := true}, {nw := true, sym := true}, {sym := true}, {sym := true}, {sym := true}, {sym := true}, {nw := true, sym := true}, {sym := true}, {sym := true}, {sym := true}, {sym := true}, {nw := true, sym := true}, {sym := true}, {sym := true}, {}, {}, {sym := true}, {sym := true}, {sym := true}, {}, {}, {sym := true}, {sym := true}, {sym := true}, {}, {}, {sym := true}, {sym := true}, {sym := true}, {sym := true}, {}, {}, {sym := true}, {sym := true}, {sym := true}, {}, {}, {sym := true}, {sym := true}, {sym := true}, {sym := true}, {}, {}, {sym := true}, {sym := true}, {sym := true}, {sym := true}, {}, {}, {sym := true}, {sym := true}, {sym := true}, {sym := true}], 376, [376, 377, 381], []⟩), (3, ⟨[], 376, [376, 377, 381], []⟩), (4, ⟨[], 376, [376, 377, 381], []⟩), (5, ⟨[], 376, [376, 377, 381], []⟩), (6, ⟨[], 376, [376, 377, 381], []⟩), (7, ⟨[], 376, [376, 377, 381], []⟩), (8, ⟨[{}, {}, {}, {}, {}, {nw := true}, {}, {}, {}, {}, {nw := true}], 376, [376, 377, 381], []⟩), (9, ⟨[{}, {}, {}, {nw := true}, {}, {}, {nw := true}], 376, [376, 377, 381], []⟩), (10, ⟨[{}, {}, {}, {sym := true}, {sym := true}, {}, {}, {sym := true}, {sym := true}, {}, {}, {sym := true}, {sym := true}, {}, {}, {sym := true}, {sym := true}, {}, {}, {sym := true}, {sym := true}, {}, {}, {sym := true}, {sym := true}, {}, {}, {sym := true}, {sym := true}, {sym := true}, {}, {}, {sym := true}, {sym := true}, {nw := true, sym := true}, {sym := true}, {sym := true}, {}, {}, {sym := true}, {sym := true}, {nw := true, sym := true}, {sym := true}, {sym := true}, {}, {}, {sym := true}, {sym := true}, {sym := true}], 376, [376, 377, 381], []⟩), (11, ⟨[], 376, [376, 377, 381], []⟩), (12, ⟨[{}, {}, {}, {}, {}, {}, {nw := true}, {}, {}, {}, {}, {}, {}, {nw := true}], 376, [376, 377, 381], [18]⟩), (13, ⟨[], 376, [376, 377, 381], []⟩), (14, ⟨[], 376, [376, 377, 381], []⟩), (15, ⟨[], 376, [376, 377, 381], [20]⟩), (16, ⟨[{}, {}, {}, {}, {}, {nw := true}, {}, {}, {}, {}, {}, {nw := true}], 376, [376, 377, 381], [21]⟩), (17, ⟨[{}, {}, {}, {}, {sym := true}, {sym := true}, {sym := true}], 376, [376, 377, 381], []⟩), (18, ⟨[], 376, [376, 377, 381], []⟩), (19, ⟨[], 376, [376, 377, 381], []⟩), (20, ⟨[{}, {}, {}, {sym := true}, {sym := true}, {}, {}, {sym := true}, {sym := true}, {sym := true}], 376, [376, 377, 381], []⟩), (21, ⟨[], 376, [376, 377, 381], []⟩), (22, ⟨[], 376, [376, 377, 381], []⟩), (23, ⟨[{}, {}, {}, {}, {}, {}, {nw := true}], 376, [376, 377, 381], []⟩), (24, ⟨[{}, {}, {}, {}, {nw := true}], 376, [376, 377, 381], []⟩), (25, ⟨[], 376, [376, 377, 381], []⟩), (26, ⟨[{}, {}, {}, {sym := true}, {sym := true}, {}, {}, {sym := true}, {sym := true}, {}, {}, {sym := true}, {sym := true}, {}, {}, {sym := true}, {sym := true}, {sym := true}, {}, {}, {sym := true}, {sym := true}, {sym := true}, {}, {}, {sym := true}, {sym := true}, {}, {}, {sym := true}, {sym := true}, {sym := true}, {sym := true}, {sym := true}, {sym := true}], 376, [376, 377, 381], []⟩), (27, ⟨[], 376, [376, 377, 381], []⟩), (28, ⟨[], 376, [376, 377, 381], []⟩), (29, ⟨[], 376, [376, 377, 381], []⟩), (30, ⟨[], 376, [376, 377, 381], []⟩), (31, ⟨[], 376, [376, 377, 381], []⟩), (32, ⟨[], 376, [376, 377, 381], []⟩), (33, ⟨[], 376, [376, 377, 381], []⟩), (34, ⟨[{}, {}, {nw := true}], 376, [376, 377, 381], []⟩), (35, ⟨[{nw := true}], 376, [376, 377, 381], []⟩), (36, ⟨[{}, {}, {}, {}, {}, {sym := true}], 376, [376, 377, 381], []⟩)]),
  (9, [(0, ⟨[{fr := true}], 17, [17, 21, 59], []⟩), (1, ⟨[], 17, [17, 21, 59], []⟩), (2, ⟨[], 17, [17, 21, 59], []⟩), (3, ⟨[], 17, [17, 21, 59], []⟩), (4, ⟨[], 17, [17, 21, 59], []⟩), (5, ⟨[], 17, [17, 21, 59], []⟩), (6, ⟨[{}, {}, {}, {}, {}, {fr := true}], 17, [17, 21, 59], []⟩), (7, ⟨[], 17, [17, 21, 59], []⟩), (8, ⟨[], 17, [17, 21, 59], []⟩), (9, ⟨[], 17, [17, 21, 59], []⟩), (10, ⟨[], 17, [17, 21, 59], []⟩), (11, ⟨[], 17, [17, 21, 59], []⟩), (12, ⟨[{}, {}, {}, {}, {}, {}, {}, {}, {}, {}, {sym := true}, {sym := true}, {sym := true}, {}, {}, {sym := true}, {sym := true}, {sym := true}, {}, {}, {sym := true}, {sym := true}, {sym := true}, {}, {}, {sym := true}, {sym := true}, {sym := true}, {}, {}, {sym := true}, {sym := true}, {sym := true}, {}, {}, {sym := true}, {sym := true}, {sym := true}, {}, {}, {sym := true}], 17, [17, 21, 59], []⟩)]),
  (10, [(0, ⟨[{fr := true}], 69, [74, 80, 89], []⟩), (1, ⟨[{}, {}, {}, {}, {sym := true}, {sym := true}, {sym := true}], 69, [74, 80, 89], []⟩), (2, ⟨[], 69, [74, 80, 89], []⟩), (3, ⟨[], 69, [74, 80, 89], [7]⟩), (4, ⟨[], 69, [74, 80, 89], []⟩), (5, ⟨[], 69, [74, 80, 89], []⟩), (6, ⟨[], 69, [74, 80, 89], []⟩), (7, ⟨[{}, {}, {}, {}, {}, {fr := true}, {}, {}, {}, {}, {fr := true}], 69, [74, 80, 89], []⟩), (8, ⟨[], 69, [74, 80, 89], []⟩), (9, ⟨[], 69, [74, 80, 89], []⟩), (10, ⟨[], 69, [74, 80, 89], []⟩), (11, ⟨[], 69, [74, 80, 89], []⟩), (12, ⟨[], 69, [74, 80, 89], []⟩), (13, ⟨[], 69, [74, 80, 89], []⟩), (14, ⟨[], 69, [74, 80, 89], []⟩), (15, ⟨[], 69, [74, 80, 89], []⟩), (16, ⟨[], 69, [74, 80, 89], []⟩), (17, ⟨[], 69, [74, 80, 89], []⟩), (18, ⟨[{}, {}, {}, {}, {}, {}, {sym := true}, {sym := true}, {sym := true}, {}, {}, {sym := true}, {sym := true}, {sym := true}, {}, {}, {sym := true}, {sym := true}, {sym := true}, {sym := true}, {}, {}, {sym := true}, {sym := true}, {sym := true}, {}, {}, {sym := true}, {sym := true}, {sym := true}, {sym := true}, {}, {}, {sym := true}, {sym := true}, {sym := true}, {}, {}, {sym := true}], 69, [74, 80, 89], []⟩)]),
  (11, [(0, ⟨[{fr := true}], 14, [14, 27, 44], []⟩), (1, ⟨[{}, {}, {}, {}, {sym := true}, {sym := true}, {sym := true}, {sym := true}, {sym := true}, {sym := true}, {sym := true}, {sym := true}], 14, [14, 27, 44], []⟩), (2, ⟨[], 14, [14, 27, 44], []⟩), (3, ⟨[], 14, [14, 27, 44], []⟩), (4, ⟨[], 14, [14, 27, 44], [7]⟩), (5, ⟨[], 14, [14, 27, 44], []⟩), (6, ⟨[], 14, [14, 27, 44], []⟩), (7, ⟨[], 14, [14, 27, 44], []⟩), (8, ⟨[], 14, [14, 27, 44], []⟩), (9, ⟨[], 14, [14, 27, 44], [12]⟩), (10, ⟨[{}, {}, {}, {}, {sym := true}, {sym := true}, {sym := true}, {}, {}, {sym := true}, {sym := true}, {sym := true}, {sym := true}, {}, {}, {sym := true}, {sym := true}, {sym := true}, {}, {}, {sym := true}, {sym := true}, {sym := true}, {}, {}, {sym := true}], 14, [14, 27, 44], []⟩)]),
  (13, [(0, ⟨[], 185, [185, 186, 201], []⟩), (1, ⟨[], 185, [185, 186, 201], [1]⟩), (2, ⟨[], 185, [185, 186, 201], []⟩), (3, ⟨[], 185, [185, 186, 201], []⟩), (4, ⟨[], 185, [185, 186, 201], []⟩), (5, ⟨[], 185, [185, 186, 201], [8]⟩), (6, ⟨[], 185, [185, 186, 201], []⟩), (7, ⟨[], 185, [185, 186, 201], []⟩), (8, ⟨[], 185, [185, 186, 201], []⟩), (9, ⟨[], 185, [185, 186, 201], [17]⟩), (10, ⟨[], 185, [185, 186, 201], []⟩), (11, ⟨[], 185, [185, 186, 201], []⟩), (12, ⟨[], 185, [185, 186, 201], []⟩), (13, ⟨[{}, {}, {nw := true}, {}, {nw := true}, {}, {nw := true}, {}, {nw := true}, {}, {nw := true}, {}, {nw := true}, {}, {nw := true}, {}, {nw := true}, {}, {nw := true}, {}, {}, {sym := true}, {sym := true}, {}, {}, {sym := true}, {sym := true}, {}, {}, {sym := true}, {sym := true}, {}, {}, {sym := true}, {sym := true}, {}, {}, {sym := true}, {sym := true}, {sym := true}, {sym := true}, {sym := true}, {}, {}, {sym := true}, {sym := true}, {}, {}, {sym := true}, {sym := true}, {}, {}, {sym := true}, {sym := true}, {}, {}, {sym := true}, {sym := true}, {}, {}, {sym := true}, {sym := true}, {sym := true}, {}, {}, {sym := true}, {fr := true, sym := true}, {sym := true}, {sym := true}, {}, {}, {sym := true}, {sym := true}, {sym := true}], 185, [185, 186, 201], []⟩), (14, ⟨[], 185, [185, 186, 201], []⟩), (15, ⟨[], 185, [185, 186, 201], []⟩), (16, ⟨[], 185, [185, 186, 201], []⟩), (17, ⟨[], 185, [185, 186, 201], [26]⟩), (18, ⟨[], 185, [185, 186, 201], []⟩), (19, ⟨[{}, {}, {}, {sym := true}, {sym := true}, {sym := true}], 185, [185, 186, 201], []⟩), (20, ⟨[], 185, [185, 186, 201], []⟩), (21, ⟨[{nw := true}], 185, [185, 186, 201], []⟩), (22, ⟨[{}, {}, {fr := true}], 185, [185, 186, 201], []⟩), (23, ⟨[{}, {}, {}, {fr := true}], 185, [185, 186, 201], []⟩), (24, ⟨[{}, {}, {}, {}, {fr := true}], 185, [185, 186, 201], []⟩), (25, ⟨[{}, {fr := true}], 185, [185, 186, 201], []⟩), (26, ⟨[{}, {fr := true}], 185, [185, 186, 201], []⟩), (27, ⟨[], 185, [185, 186, 201], []⟩), (28, ⟨[], 185, [185, 186, 201], [39]⟩), (29, ⟨[{}, {}, {nw := true}, {}, {nw := true}, {}, {nw := true}, {}, {}, {sym := true}, {sym := true}, {}, {}, {sym := true}, {sym := true}, {sym := true}, {}, {}, {sym := true}, {sym := true}, {sym := true}, {sym := true}, {sym := true}, {}, {}, {sym := true}, {sym := true}, {sym := true}, {sym := true}, {sym := true}, {sym := true}, {}, {}, {sym := true}, {sym := true}, {sym := true}, {sym := true}, {sym := true}, {sym := true}, {}, {}, {sym := true}, {sym := true}, {}, {}, {sym := true}, {sym := true}, {}, {}, {sym := true}, {sym := true}], 185, [185, 186, 201], []⟩)]),
  (14, [(0, ⟨[], 34, [34, 39, 105], []⟩), (1, ⟨[{}, {}, {}, {}, {}, {}, {}, {}, {fr := true}], 34, [34, 39, 105], []⟩), (2, ⟨[], 34, [34, 39, 105], []⟩), (3, ⟨[], 34, [34, 39, 105], []⟩), (4, ⟨[], 34, [34, 39, 105], []⟩), (5, ⟨[], 34, [34, 39, 105], []⟩), (6, ⟨[], 34, [34, 39, 105], []⟩), (7, ⟨[], 34, [34, 39, 105], []⟩), (8, ⟨[], 34, [34, 39, 105], [14]⟩), (9, ⟨[], 34, [34, 39, 105], []⟩), (10, ⟨[{}, {}, {}, {}, {nw := true}, {}, {}, {}, {nw := true}, {}, {}, {}, {}, {nw := true}, {}, {}, {}, {nw := true}], 34, [34, 39, 105], [15]⟩), (11, ⟨[{}, {}, {}, {}, {}, {nw := true}, {}, {}, {}, {}, {}, {nw := true}, {}, {nw := true}, {nw := true}], 34, [34, 39, 105], []⟩), (12, ⟨[], 34, [34, 39, 105], [16]⟩), (13, ⟨[{}, {}, {}, {nw := true}, {}, {}, {nw := true}, {}, {}, {}, {}, {}, {}, {}, {}, {}, {}, {fr := true}], 34, [34, 39, 105], []⟩), (14, ⟨[{nw := true}], 34, [34, 39, 105], []⟩), (15, ⟨[{}, {}, {}, {}, {}, {fr := true}], 34, [34, 39, 105], []⟩), (16, ⟨[], 34, [34, 39, 105], []⟩), (17, ⟨[], 34, [34, 39, 105], []⟩), (18, ⟨[], 34, [34, 39, 105], []⟩)]),
  (15, [(0, ⟨[], 7, [7, 8, 9], []⟩), (1, ⟨[], 7, [7, 8, 9], []⟩), (2, ⟨[], 7, [7, 8, 9], []⟩), (3, ⟨[], 7, [7, 8, 9], []⟩), (4, ⟨[], 7, [7, 8, 9], [5]⟩), (5, ⟨[{}, {}, {fr := true}], 7, [7, 8, 9], []⟩), (6, ⟨[{nw := true}], 7, [7, 8, 9], []⟩), (7, ⟨[], 7, [7, 8, 9], []⟩)]),
  (16, [(0, ⟨[], 1, [2], []⟩), (1, ⟨[], 1, [2], []⟩)]),
  (17, [(0, ⟨[], 6, [17, 22, 56], []⟩), (1, ⟨[{}, {}, {}, {}, {}, {}, {}, {}, {fr := true}], 6, [17, 22, 56], []⟩), (2, ⟨[], 6, [17, 22, 56], []⟩), (3, ⟨[], 6, [17, 22, 56], []⟩), (4, ⟨[], 6, [17, 22, 56], []⟩), (5, ⟨[], 6, [17, 22, 56], []⟩), (7, ⟨[{}, {}, {}, {}, {}, {}, {}, {}, {}, {}, {}, {}, {}, {}, {}, {sym := true}, {sym := true}, {sym := true}, {sym := true}, {sym := true}, {sym := true}, {nw := true, sym := true}, {sym := true}, {sym := true}, {sym := true}, {sym := true}, {}, {}, {fr := true}], 6, [17, 22, 56], []⟩), (8, ⟨[], 6, [17, 22, 56], []⟩), (9, ⟨[], 6, [17, 22, 56], []⟩), (6, ⟨[{}, {nw := true}], 6, [17, 22, 56], []⟩), (10, ⟨[], 6, [17, 22, 56], []⟩)]),
  (18, [(0, ⟨[], 6, [17, 22, 76], []⟩), (1, ⟨[{}, {}, {}, {}, {}, {}, {}, {}, {fr := true}], 6, [17, 22, 76], []⟩), (2, ⟨[], 6, [17, 22, 76], []⟩), (3, ⟨[], 6, [17, 22, 76], []⟩), (4, ⟨[], 6, [17, 22, 76], []⟩), (5, ⟨[], 6, [17, 22, 76], []⟩), (7, ⟨[{}, {}, {}, {}, {}, {}, {}, {}, {}, {}, {}, {}, {}, {}, {}, {}, {}, {}, {}, {}, {}, {sym := true}, {sym := true}, {sym := true}, {sym := true}, {sym := true}, {sym := true}, {}, {}, {sym := true}, {sym := true}, {sym := true}, {sym := true}, {sym := true}, {sym := true}, {sym := true}, {sym := true}, {sym := true}, {sym := true}, {nw := true, sym := true}, {sym := true}, {sym := true}, {sym := true}, {sym := true}, {sym := true}, {sym := true}, {}, {}, {fr := true}], 6, [17, 22, 76], []⟩), (8, ⟨[], 6, [17, 22, 76], []⟩), (9, ⟨[], 6, [17, 22, 76], []⟩), (6, ⟨[{}, {nw := true}], 6, [17, 22, 76], []⟩), (10, ⟨[], 6, [17, 22, 76], []⟩)]),
  (19, [(0, ⟨[], 1, [2], []⟩), (1, ⟨[], 1, [2], []⟩)]),
  (20, [(0, ⟨[], 1, [2], []⟩), (1, ⟨[], 1, [2], []⟩)]),
  (21, [(0, ⟨[], 82, [114, 170, 174], []⟩), (1, ⟨[], 82, [114, 170, 174], []⟩), (2, ⟨[], 82, [114, 170, 174], []⟩), (3, ⟨[], 82, [114, 170, 174], []⟩), (4, ⟨[], 82, [114, 170, 174], []⟩), (6, ⟨[{}, {}, {nw := true}], 82, [114, 170, 174], [13]⟩), (7, ⟨[{}, {}, {}, {}, {}, {}, {}, {}, {nw := true}, {}, {}, {}, {}, {}, {}, {}, {nw := true}, {}, {nw := true}, {}, {}, {}, {}, {}, {}, {}, {nw := true}, {}, {}, {}, {}, {}, {}, {}, {nw := true}, {}, {nw := true}], 82, [114, 170, 174], []⟩), (8, ⟨[], 82, [114, 170, 174], []⟩), (9, ⟨[], 82, [114, 170, 174], []⟩), (10, ⟨[], 82, [114, 170, 174], []⟩), (12, ⟨[], 82, [114, 170, 174], []⟩), (13, ⟨[], 82, [114, 170, 174], []⟩), (11, ⟨[{}, {nw := true}], 82, [114, 170, 174], []⟩), (14, ⟨[{}, {}, {}, {}, {nw := true}], 82, [114, 170, 174], []⟩), (15, ⟨[{}, {nw := true}], 82, [114, 170, 174], []⟩), (16, ⟨[{}, {}, {}, {}, {}, {}, {nw := true}, {}, {}, {nw := true}, {}, {}, {}, {}, {}, {}, {}, {}, {nw := true}], 82, [114, 170, 174], []⟩), (17, ⟨[{}, {}, {}, {}, {}, {}, {}, {nw := true}, {}, {}, {}, {}, {}, {}, {}, {}, {}, {}, {}, {}, {}, {nw := true}], 82, [114, 170, 174], []⟩), (18, ⟨[{}, {}, {fr := true}], 82, [114, 170, 174], []⟩), (5, ⟨[{}, {nw := true}], 82, [114, 170, 174], []⟩), (19, ⟨[], 82, [114, 170, 174], []⟩), (20, ⟨[], 82, [114, 170, 174], []⟩), (21, ⟨[], 82, [114, 170, 174], []⟩), (22, ⟨[], 82, [114, 170, 174], []⟩), (23, ⟨[], 82, [114, 170, 174], []⟩), (24, ⟨[], 82, [114, 170, 174], []⟩)]),
  (22, [(0, ⟨[], 23, [23, 24, 54], []⟩), (1, ⟨[{}, {}, {}, {}, {}, {}, {}, {}, {fr := true}], 23, [23, 24, 54], []⟩), (2, ⟨[], 23, [23, 24, 54], []⟩), (3, ⟨[], 23, [23, 24, 54], []⟩), (4, ⟨[], 23, [23, 24, 54], []⟩), (5, ⟨[], 23, [23, 24, 54], []⟩), (6, ⟨[], 23, [23, 24, 54], []⟩), (7, ⟨[], 23, [23, 24, 54], [6]⟩), (8, ⟨[{}, {}, {}, {}, {}, {}, {}, {}, {}, {}, {}, {}, {}, {}, {sym := true}, {sym := true}, {sym := true}, {sym := true}, {sym := true}, {sym := true}, {sym := true}, {}, {}, {fr := true}], 23, [23, 24, 54], []⟩), (9, ⟨[], 23, [23, 24, 54], []⟩), (10, ⟨[], 23, [23, 24, 54], []⟩), (11, ⟨[], 23, [23, 24, 54], []⟩), (12, ⟨[{nw := true}], 23, [23, 24, 54], []⟩), (13, ⟨[], 23, [23, 24, 54], []⟩)]),
  (23, [(0, ⟨[], 6, [10, 14, 25], []⟩), (1, ⟨[], 6, [10, 14, 25], []⟩), (2, ⟨[], 6, [10, 14, 25], []⟩), (3, ⟨[], 6, [10, 14, 25], []⟩), (4, ⟨[], 6, [10, 14, 25], []⟩), (6, ⟨[], 6, [10, 14, 25], []⟩), (7, ⟨[], 6, [10, 14, 25], []⟩), (5, ⟨[{}, {nw := true}], 6, [10, 14, 25], []⟩), (8, ⟨[], 6, [10, 14, 25], []⟩)]),
  (24, [(0, ⟨[], 7, [7, 8, 9], []⟩), (1, ⟨[], 7, [7, 8, 9], []⟩), (2, ⟨[], 7, [7, 8, 9], []⟩), (3, ⟨[], 7, [7, 8, 9], []⟩), (4, ⟨[], 7, [7, 8, 9], [5]⟩), (5, ⟨[{}, {}, {fr := true}], 7, [7, 8, 9], []⟩), (6, ⟨[{nw := true}], 7, [7, 8, 9], []⟩), (7, ⟨[], 7, [7, 8, 9], []⟩)]),
  (25, [(0, ⟨[{fr := true}], 3, [3, 8, 18], []⟩), (1, ⟨[], 3, [3, 8, 18], []⟩), (2, ⟨[], 3, [3, 8, 18], []⟩), (4, ⟨[], 3, [3, 8, 18], []⟩), (5, ⟨[], 3, [3, 8, 18], []⟩), (3, ⟨[{}, {nw := true}], 3, [3, 8, 18], []⟩), (6, ⟨[{}, {}, {}, {}, {}, {sym := true}, {sym := true}, {sym := true}, {sym := true}, {}, {}, {sym := true}, {sym := true}, {sym := true}, {sym := true}, {}, {}, {sym := true}, {sym := true}, {sym := true}, {sym := true}], 3, [3, 8, 18], []⟩)]),
  (26, [(0, ⟨[], 1, [2], []⟩), (1, ⟨[], 1, [2], []⟩)]),
  (27, [(0, ⟨[{fr := true}, {fr := true}, {fr := true}], 9, [9, 10, 17], []⟩), (1, ⟨[], 9, [9, 10, 17], []⟩), (2, ⟨[], 9, [9, 10, 17], []⟩), (3, ⟨[], 9, [9, 10, 17], []⟩), (4, ⟨[], 9, [9, 10, 17], []⟩)]),
  (28, [(0, ⟨[], 21, [21, 22, 23], []⟩), (1, ⟨[], 21, [21, 22, 23], []⟩), (2, ⟨[], 21, [21, 22, 23], []⟩), (3, ⟨[], 21, [21, 22, 23], []⟩), (4, ⟨[], 21, [21, 22, 23], []⟩), (5, ⟨[], 21, [21, 22, 23], [5]⟩), (6, ⟨[{}, {}, {}, {fr := true}, {fz := true}], 21, [21, 22, 23], []⟩), (7, ⟨[{nw := true}], 21, [21, 22, 23], []⟩), (8, ⟨[], 21, [21, 22, 23], []⟩)]),
  (29, [(0, ⟨[], 7, [7, 8, 9], []⟩), (1, ⟨[], 7, [7, 8, 9], []⟩), (2, ⟨[], 7, [7, 8, 9], []⟩), (3, ⟨[], 7, [7, 8, 9], []⟩), (4, ⟨[], 7, [7, 8, 9], [5]⟩), (5, ⟨[{}, {}, {fr := true}], 7, [7, 8, 9], []⟩), (6, ⟨[{nw := true}], 7, [7, 8, 9], []⟩), (7, ⟨[], 7, [7, 8, 9], []⟩)]),
  (30, [(0, ⟨[{fr := true}, {fr := true}, {fr := true}], 39, [39, 40, 43], []⟩), (1, ⟨[], 39, [39, 40, 43], []⟩), (2, ⟨[], 39, [39, 40, 43], []⟩), (3, ⟨[], 39, [39, 40, 43], []⟩), (4, ⟨[], 39, [39, 40, 43], [12]⟩), (5, ⟨[], 39, [39, 40, 43], []⟩), (6, ⟨[], 39, [39, 40, 43], []⟩), (7, ⟨[], 39, [39, 40, 43], []⟩), (8, ⟨[], 39, [39, 40, 43], []⟩), (9, ⟨[], 39, [39, 40, 43], []⟩), (10, ⟨[], 39, [39, 40, 43], []⟩), (11, ⟨[], 39, [39, 40, 43], []⟩), (12, ⟨[], 39, [39, 40, 43], []⟩), (13, ⟨[], 39, [39, 40, 43], []⟩)]),
  (31, [(0, ⟨[{fr := true}, {fr := true}], 22, [26, 27, 28], []⟩), (1, ⟨[{}, {}, {}, {}, {}, {}, {fr := true}], 22, [26, 27, 28], []⟩), (2, ⟨[], 22, [26, 27, 28], []⟩), (3, ⟨[], 22, [26, 27, 28], []⟩), (4, ⟨[], 22, [26, 27, 28], []⟩), (5, ⟨[{}, {}, {nw := true}], 22, [26, 27, 28], []⟩), (6, ⟨[], 22, [26, 27, 28], []⟩), (7, ⟨[], 22, [26, 27, 28], []⟩), (8, ⟨[{}, {}, {}, {}, {}, {}, {}, {nw := true}], 22, [26, 27, 28], [11]⟩), (9, ⟨[{}, {}, {}, {}, {nw := true}, {}, {}, {}, {}, {nw := true}], 22, [26, 27, 28], []⟩), (10, ⟨[{nw := true}], 22, [26, 27, 28], []⟩), (11, ⟨[], 22, [26, 27, 28], []⟩)]),
  (32, [(0, ⟨[{fr := true}], 11, [47, 53, 60], []⟩), (1, ⟨[], 11, [47, 53, 60], []⟩), (2, ⟨[], 11, [47, 53, 60], []⟩), (3, ⟨[], 11, [47, 53, 60], []⟩), (5, ⟨[{}, {}, {}, {}, {}, {fr := true}], 11, [47, 53, 60], []⟩), (4, ⟨[{}, {nw := true}], 11, [47, 53, 60], []⟩), (6, ⟨[{}, {}, {}, {}, {}, {}, {}, {}, {}, {}, {}, {}, {}, {}, {}, {}, {}, {}, {}, {}, {}, {}, {}, {}, {fr := true}], 11, [47, 53, 60], []⟩), (7, ⟨[], 11, [47, 53, 60], []⟩), (8, ⟨[], 11, [47, 53, 60], []⟩), (9, ⟨[], 11, [47, 53, 60], []⟩), (10, ⟨[], 11, [47, 53, 60], []⟩), (12, ⟨[], 11, [47, 53, 60], []⟩), (13, ⟨[], 11, [47, 53, 60], []⟩), (14, ⟨[], 11, [47, 53, 60], []⟩), (11, ⟨[{}, {nw := true}], 11, [47, 53, 60], []⟩), (15, ⟨[], 11, [47, 53, 60], []⟩)]),
  (33, [(0, ⟨[], 6, [17, 22, 64], []⟩), (1, ⟨[{}, {}, {}, {}, {}, {}, {}, {}, {fr := true}], 6, [17, 22, 64], []⟩), (2, ⟨[], 6, [17, 22, 64], []⟩), (3, ⟨[], 6, [17, 22, 64], []⟩), (4, ⟨[], 6, [17, 22, 64], []⟩), (5, ⟨[], 6, [17, 22, 64], []⟩), (7, ⟨[{}, {}, {}, {}, {}, {}, {}, {}, {}, {}, {}, {}, {}, {}, {}, {}, {}, {}, {}, {}, {}, {sym := true}, {sym := true}, {sym := true}, {sym := true}, {sym := true}, {sym := true}, {sym := true}, {nw := true, sym := true}, {sym := true}, {sym := true}, {sym := true}, {sym := true}, {sym := true}, {}, {}, {fr := true}], 6, [17, 22, 64], []⟩), (8, ⟨[], 6, [17, 22, 64], []⟩), (9, ⟨[], 6, [17, 22, 64], []⟩), (6, ⟨[{}, {nw := true}], 6, [17, 22, 64], []⟩), (10, ⟨[{}, {}, {}, {nw := true}, {}, {}, {}, {}, {}, {}, {}, {nw := true}], 6, [17, 22, 64], []⟩)]),
  (34, [(0, ⟨[{fr := true}], 1, [1, 2], []⟩), (1, ⟨[{}, {}, {}, {}, {sym := true}, {sym := true}, {sym := true}, {sym := true}, {sym := true}, {}, {}, {sym := true}, {sym := true}, {sym := true}], 1, [1, 2], []⟩)]),
  (35, [(0, ⟨[{fr := true}], 1, [1, 2], []⟩), (1, ⟨[{}, {}, {}, {}, {}, {}, {}, {}, {}, {fr := true}], 1, [1, 2], []⟩)]),
  (36, [(0, ⟨[{fr := true}, {fr := true}, {fr := true}], 9, [9, 10, 29], []⟩), (1, ⟨[], 9, [9, 10, 29], []⟩), (2, ⟨[], 9, [9, 10, 29], []⟩), (3, ⟨[{}, {}, {}, {}, {}, {}, {nw := true}], 9, [9, 10, 29], []⟩), (5, ⟨[{}, {}, {}, {}, {}, {}, {}, {nw := true}], 9, [9, 10, 29], []⟩), (4, ⟨[{}, {nw := true}], 9, [9, 10, 29], []⟩), (6, ⟨[], 9, [9, 10, 29], []⟩)]),
  (37, [(0, ⟨[{fr := true}, {fr := true}, {fr := true}], 15, [33, 44, 48], []⟩), (1, ⟨[], 15, [33, 44, 48], []⟩), (2, ⟨[], 15, [33, 44, 48], []⟩), (3, ⟨[{}, {}, {}, {}, {}, {}, {nw := true}], 15, [33, 44, 48], []⟩), (5, ⟨[], 15, [33, 44, 48], []⟩), (6, ⟨[], 15, [33, 44, 48], []⟩), (7, ⟨[], 15, [33, 44, 48], []⟩), (4, ⟨[{}, {nw := true}], 15, [33, 44, 48], []⟩), (8, ⟨[], 15, [33, 44, 48], []⟩), (9, ⟨[], 15, [33, 44, 48], []⟩), (10, ⟨[], 15, [33, 44, 48], []⟩)]),
  (38, [(0, ⟨[{fr := true}, {fr := true}], 20, [20, 28, 47], []⟩), (1, ⟨[], 20, [20, 28, 47], []⟩), (2, ⟨[], 20, [20, 28, 47], []⟩), (3, ⟨[], 20, [20, 28, 47], []⟩), (5, ⟨[], 20, [20, 28, 47], []⟩), (4, ⟨[{}, {nw := true}], 20, [20, 28, 47], []⟩), (6, ⟨[], 20, [20, 28, 47], []⟩), (7, ⟨[], 20, [20, 28, 47], []⟩), (8, ⟨[{}, {nw := true}], 20, [20, 28, 47], []⟩), (10, ⟨[{}, {}, {}, {}, {}, {}, {nw := true}], 20, [20, 28, 47], [12, 13]⟩), (11, ⟨[{}, {}, {}, {}, {nw := true}], 20, [20, 28, 47], []⟩), (12, ⟨[], 20, [20, 28, 47], []⟩), (13, ⟨[], 20, [20, 28, 47], []⟩), (14, ⟨[], 20, [20, 28, 47], []⟩), (15, ⟨[{}, {}, {}, {}, {}, {}, {}, {}, {}, {}, {}, {nw := true}, {}, {}, {nw := true}, {nw := true}, {}, {}, {nw := true}, {nw := true}, {}, {}, {nw := true}, {}, {}, {nw := true}, {nw := true}, {nw := true}, {nw := true}], 20, [20, 28, 47], []⟩), (16, ⟨[{}, {}, {}, {}, {}, {}, {}, {}, {}, {}, {}, {nw := true}, {}, {}, {nw := true}, {nw := true}, {}, {}, {nw := true}, {nw := true}, {}, {nw := true}, {}, {nw := true}, {}, {nw := true}], 20, [20, 28, 47], []⟩), (9, ⟨[{}, {nw := true}], 20, [20, 28, 47], []⟩), (17, ⟨[], 20, [20, 28, 47], []⟩)]),
  (39, [(0, ⟨[], 32, [32, 62, 70], []⟩), (1, ⟨[{}, {}, {}, {}, {fr := true}], 32, [32, 62, 70], []⟩), (2, ⟨[], 32, [32, 62, 70], []⟩), (3, ⟨[], 32, [32, 62, 70], []⟩), (4, ⟨[], 32, [32, 62, 70], []⟩), (5, ⟨[], 32, [32, 62, 70], []⟩), (6, ⟨[], 32, [32, 62, 70], []⟩), (7, ⟨[], 32, [32, 62, 70], []⟩), (8, ⟨[], 32, [32, 62, 70], [9]⟩), (9, ⟨[{}, {}, {}, {nw := true}], 32, [32, 62, 70], [10]⟩), (10, ⟨[{}, {}, {}, {}, {}, {}, {}, {}, {}, {}, {}, {nw := true}, {nw := true}], 32, [32, 62, 70], [11]⟩), (11, ⟨[{}, {}, {}, {}, {nw := true}, {}, {}, {nw := true}], 32, [32, 62, 70], []⟩), (12, ⟨[{}, {}, {fr := true}], 32, [32, 62, 70], []⟩), (13, ⟨[{nw := true}], 32, [32, 62, 70], []⟩), (14, ⟨[], 32, [32, 62, 70], []⟩), (15, ⟨[], 32, [32, 62, 70], []⟩), (16, ⟨[], 32, [32, 62, 70], []⟩)]),
  (40, [(0, ⟨[{fr := true}], 7, [7, 8, 18], []⟩), (1, ⟨[{}, {}, {}, {}, {}, {}, {fr := true}], 7, [7, 8, 18], []⟩), (2, ⟨[], 7, [7, 8, 18], []⟩), (3, ⟨[], 7, [7, 8, 18], []⟩), (4, ⟨[], 7, [7, 8, 18], []⟩)]),
  (41, [(0, ⟨[{fr := true}, {fr := true}], 5, [5, 6, 14], []⟩), (1, ⟨[{}, {}, {}, {}, {fr := true}], 5, [5, 6, 14], []⟩), (2, ⟨[], 5, [5, 6, 14], []⟩), (3, ⟨[], 5, [5, 6, 14], []⟩), (4, ⟨[], 5, [5, 6, 14], []⟩)]),
  (42, [(0, ⟨[{fr := true}, {fr := true}, {fr := true}], 7, [7, 8, 25], []⟩), (1, ⟨[{}, {}, {}, {}, {}, {}, {}, {}, {}, {}, {}, {}, {}, {fr := true}], 7, [7, 8, 25], []⟩), (2, ⟨[], 7, [7, 8, 25], []⟩), (3, ⟨[], 7, [7, 8, 25], []⟩), (4, ⟨[], 7, [7, 8, 25], []⟩)]),
  (43, [(0, ⟨[{fr := true}, {fr := true}], 7, [7, 8, 16], []⟩), (1, ⟨[{}, {}, {}, {}, {fr := true}], 7, [7, 8, 16], []⟩), (2, ⟨[], 7, [7, 8, 16], []⟩), (3, ⟨[], 7, [7, 8, 16], []⟩), (4, ⟨[{}, {}, {}, {fr := true}], 7, [7, 8, 16], []⟩), (5, ⟨[{}, {}, {}, {nw := true}], 7, [7, 8, 16], []⟩), (6, ⟨[{}, {}, {}, {}, {nw := true}], 7, [7, 8, 16], []⟩), (7, ⟨[], 7, [7, 8, 16], []⟩)]),
  (44, [(0, ⟨[], 1, [2], []⟩), (1, ⟨[], 1, [2], []⟩)]),
  (45, [(0, ⟨[], 1, [2], []⟩), (1, ⟨[], 1, [2], []⟩)]),
  (46, [(0, ⟨[{fr := true}], 1, [1, 2], []⟩), (1, ⟨[{}, {}, {}, {}, {}, {}, {fr := true}], 1, [1, 2], []⟩)]),
  (47, [(0, ⟨[{fr := true}], 1, [1, 2], []⟩), (1, ⟨[{}, {}, {}, {}, {}, {}, {}, {}, {}, {fr := true}], 1, [1, 2], []⟩)]),
  (48, [(0, ⟨[], 1, [2], []⟩), (1, ⟨[], 1, [2], []⟩)]),
  (49, [(0, ⟨[{fr := true}], 40, [49, 60, 68], []⟩), (1, ⟨[], 40, [49, 60, 68], []⟩), (2, ⟨[], 40, [49, 60, 68], []⟩), (3, ⟨[], 40, [49, 60, 68], []⟩), (5, ⟨[], 40, [49, 60, 68], []⟩), (6, ⟨[], 40, [49, 60, 68], []⟩), (4, ⟨[{}, {nw := true}], 40, [49, 60, 68], []⟩), (7, ⟨[{}, {}, {}, {}, {}, {nw := true}], 40, [49, 60, 68], [9]⟩), (8, ⟨[], 40, [49, 60, 68], []⟩), (9, ⟨[], 40, [49, 60, 68], []⟩), (10, ⟨[], 40, [49, 60, 68], []⟩), (11, ⟨[], 40, [49, 60, 68], []⟩), (13, ⟨[], 40, [49, 60, 68], [11]⟩), (14, ⟨[], 40, [49, 60, 68], []⟩), (15, ⟨[{}, {}, {}, {sym := true}, {sym := true}, {sym := true}, {sym := true}], 40, [49, 60, 68], []⟩), (16, ⟨[], 40, [49, 60, 68], []⟩), (17, ⟨[{}, {}, {}, {nw := true}], 40, [49, 60, 68], [12]⟩), (18, ⟨[{}, {}, {}, {}, {}, {}, {}, {}, {}, {}, {}, {}, {}, {nw := true}, {}, {}, {}, {}, {nw := true}], 40, [49, 60, 68], []⟩), (12, ⟨[{}, {nw := true}], 40, [49, 60, 68], []⟩), (19, ⟨[], 40, [49, 60, 68], []⟩)]),
  (50, [(0, ⟨[{fr := true}, {fr := true}], 37, [38, 46, 54], []⟩), (1, ⟨[{}, {}, {}, {}, {nw := true}, {}, {}, {}, {}, {nw := true}, {nw := true}, {}, {}, {}, {}, {nw := true}, {}, {}, {}, {}, {nw := true}, {nw := true}], 37, [38, 46, 54], []⟩), (2, ⟨[{}, {}, {}, {sym := true}, {sym := true}], 37, [38, 46, 54], []⟩), (3, ⟨[], 37, [38, 46, 54], []⟩), (4, ⟨[], 37, [38, 46, 54], []⟩), (5, ⟨[], 37, [38, 46, 54], []⟩), (6, ⟨[], 37, [38, 46, 54], []⟩), (8, ⟨[{}, {}, {}, {sym := true}, {sym := true}], 37, [38, 46, 54], []⟩), (9, ⟨[{}, {}, {nw := true}], 37, [38, 46, 54], []⟩), (10, ⟨[{}, {nw := true}], 37, [38, 46, 54], []⟩), (7, ⟨[{}, {nw := true}], 37, [38, 46, 54], []⟩), (11, ⟨[], 37, [38, 46, 54], []⟩), (12, ⟨[{}, {nw := true}], 37, [38, 46, 54], []⟩), (13, ⟨[], 37, [38, 46, 54], []⟩)]),
  (51, [(0, ⟨[{fr := true}, {fr := true}, {fr := true}], 9, [9, 10, 65], []⟩), (1, ⟨[{}, {}, {}, {}, {}, {nw := true}, {}, {}, {}, {}, {}, {nw := true}, {}, {}, {}, {}, {}, {nw := true}], 9, [9, 10, 65], []⟩), (2, ⟨[{}, {}, {}, {}, {}, {nw := true}, {}, {}, {nw := true}, {nw := true}, {}, {}, {nw := true}, {nw := true}, {}, {}, {}, {}, {}, {}, {}, {}, {}, {}, {nw := true}], 9, [9, 10, 65], []⟩), (3, ⟨[{}, {nw := true}, {}, {nw := true}, {}, {}, {nw := true}, {}, {}, {nw := true}, {nw := true}], 9, [9, 10, 65], []⟩), (4, ⟨[{}, {}, {}, {nw := true}, {nw := true}], 9, [9, 10, 65], []⟩), (5, ⟨[{}, {nw := true}], 9, [9, 10, 65], []⟩)]),
  (52, [(0, ⟨[{fr := true}], 7, [7, 8, 14], []⟩), (1, ⟨[], 7, [7, 8, 14], []⟩), (2, ⟨[], 7, [7, 8, 14], []⟩), (3, ⟨[], 7, [7, 8, 14], []⟩), (4, ⟨[], 7, [7, 8, 14], []⟩), (6, ⟨[{}, {}, {}, {}, {}, {}, {nw := true}, {nw := true}], 7, [7, 8, 14], []⟩), (7, ⟨[{}, {}, {fr := true}], 7, [7, 8, 14], []⟩), (8, ⟨[{}, {}, {nw := true}], 7, [7, 8, 14], []⟩), (5, ⟨[{}, {nw := true}], 7, [7, 8, 14], []⟩), (9, ⟨[{}, {}, {}, {}, {}, {nw := true}], 7, [7, 8, 14], []⟩), (10, ⟨[], 7, [7, 8, 14], []⟩)]),
  (53, [(0, ⟨[{fr := true}], 50, [50, 51, 74], []⟩), (1, ⟨[{}, {}, {}, {}, {}, {}, {}, {}, {}, {}, {}, {}, {}, {}, {}, {}, {}, {fr := true}], 50, [50, 51, 74], []⟩), (2, ⟨[], 50, [50, 51, 74], []⟩), (3, ⟨[], 50, [50, 51, 74], []⟩), (4, ⟨[{}, {}, {}, {}, {}, {}, {}, {}, {}, {}, {}, {}, {}, {fr := true}], 50, [50, 51, 74], []⟩), (5, ⟨[], 50, [50, 51, 74], []⟩), (6, ⟨[], 50, [50, 51, 74], []⟩), (7, ⟨[], 50, [50, 51, 74], []⟩), (8, ⟨[], 50, [50, 51, 74], []⟩), (9, ⟨[], 50, [50, 51, 74], []⟩), (10, ⟨[{}, {}, {}, {sym := true}, {sym := true}, {}, {}, {sym := true}, {sym := true}, {sym := true}, {sym := true}, {sym := true}, {sym := true}, {sym := true}, {nw := true, sym := true}, {sym := true}, {sym := true}, {sym := true}, {sym := true}], 50, [50, 51, 74], []⟩), (11, ⟨[], 50, [50, 51, 74], []⟩), (12, ⟨[{nw := true}], 50, [50, 51, 74], []⟩), (13, ⟨[], 50, [50, 51, 74], []⟩)]),
  (54, [(0, ⟨[], 6, [10, 14, 25], []⟩), (1, ⟨[], 6, [10, 14, 25], []⟩), (2, ⟨[], 6, [10, 14, 25], []⟩), (3, ⟨[], 6, [10, 14, 25], []⟩), (4, ⟨[], 6, [10, 14, 25], []⟩), (6, ⟨[], 6, [10, 14, 25], []⟩), (7, ⟨[], 6, [10, 14, 25], []⟩), (5, ⟨[{}, {nw := true}], 6, [10, 14, 25], []⟩), (8, ⟨[], 6, [10, 14, 25], []⟩)]),
  (55, [(0, ⟨[], 1, [], []⟩), (1, ⟨[], 1, [], []⟩)]),
  (56, [(0, ⟨[], 7, [7, 11, 25], []⟩), (1, ⟨[], 7, [7, 11, 25], []⟩), (2, ⟨[], 7, [7, 11, 25], []⟩), (3, ⟨[], 7, [7, 11, 25], []⟩), (4, ⟨[], 7, [7, 11, 25], [7]⟩), (5, ⟨[{}, {}, {}, {}, {}, {sym := true}, {sym := true}, {sym := true}, {sym := true}], 7, [7, 11, 25], []⟩), (6, ⟨[], 7, [7, 11, 25], []⟩), (7, ⟨[], 7, [7, 11, 25], []⟩)]),
  (57, [(0, ⟨[], 1, [2], []⟩), (1, ⟨[{}, {}, {fz := true}], 1, [2], []⟩)]),
  (58, [(0, ⟨[{fr := true}], 3, [3, 4, 21], []⟩), (1, ⟨[], 3, [3, 4, 21], []⟩), (2, ⟨[{}, {}, {}, {fz := true}, {}, {}, {}, {fz := true}], 3, [3, 4, 21], []⟩), (3, ⟨[], 3, [3, 4, 21], []⟩), (4, ⟨[], 3, [3, 4, 21], []⟩), (6, ⟨[{}, {}, {}, {}, {}, {}, {}, {}, {}, {}, {}, {}, {}, {}, {}, {fz := true}, {}, {fr := true}, {fz := true}], 3, [3, 4, 21], []⟩), (5, ⟨[{}, {nw := true}], 3, [3, 4, 21], []⟩), (7, ⟨[], 3, [3, 4, 21], []⟩)]),
  (59, [(0, ⟨[{fr := true}], 1, [1, 2], []⟩), (1, ⟨[{}, {}, {nw := true}], 1, [1, 2], []⟩)]),
  (60, [(0, ⟨[], 11, [18, 22, 49], []⟩), (1, ⟨[], 11, [18, 22, 49], []⟩), (2, ⟨[], 11, [18, 22, 49], []⟩), (4, ⟨[], 11, [18, 22, 49], []⟩), (5, ⟨[], 11, [18, 22, 49], []⟩), (3, ⟨[{}, {nw := true}], 11, [18, 22, 49], []⟩), (6, ⟨[], 11, [18, 22, 49], []⟩), (7, ⟨[], 11, [18, 22, 49], []⟩), (9, ⟨[{}, {}, {}, {}, {}, {}, {}, {}, {sym := true}, {sym := true}, {sym := true}, {sym := true}, {sym := true}, {sym := true}, {sym := true}, {}, {}, {sym := true}, {sym := true}, {sym := true}, {sym := true}, {sym := true}, {sym := true}, {sym := true}], 11, [18, 22, 49], []⟩), (10, ⟨[], 11, [18, 22, 49], []⟩), (8, ⟨[{}, {nw := true}], 11, [18, 22, 49], []⟩), (11, ⟨[{}, {}, {}, {}, {sym := true}, {sym := true}, {sym := true}, {}, {}, {sym := true}, {sym := true}, {sym := true}, {sym := true}, {sym := true}, {sym := true}, {sym := true}, {sym := true}], 11, [18, 22, 49], []⟩)]),
  (61, [(0, ⟨[{fr := true}], 8, [8, 9, 18], []⟩), (1, ⟨[], 8, [8, 9, 18], []⟩), (2, ⟨[], 8, [8, 9, 18], []⟩), (3, ⟨[], 8, [8, 9, 18], []⟩), (4, ⟨[], 8, [8, 9, 18], []⟩)]),
  (62, [(0, ⟨[], 7, [7, 8, 9], []⟩), (1, ⟨[], 7, [7, 8, 9], []⟩), (2, ⟨[], 7, [7, 8, 9], []⟩), (3, ⟨[], 7, [7, 8, 9], []⟩), (4, ⟨[], 7, [7, 8, 9], [5]⟩), (5, ⟨[{}, {}, {}, {fr := true}], 7, [7, 8, 9], []⟩), (6, ⟨[{nw := true}], 7, [7, 8, 9], []⟩), (7, ⟨[], 7, [7, 8, 9], []⟩)]),
  (63, [(0, ⟨[], 7, [7, 8, 9], []⟩), (1, ⟨[], 7, [7, 8, 9], []⟩), (2, ⟨[], 7, [7, 8, 9], []⟩), (3, ⟨[], 7, [7, 8, 9], []⟩), (4, ⟨[], 7, [7, 8, 9], [5]⟩), (5, ⟨[{}, {}, {}, {}, {}, {}, {}, {}, {}, {fr := true}], 7, [7, 8, 9], []⟩), (6, ⟨[{nw := true}], 7, [7, 8, 9], []⟩), (7, ⟨[], 7, [7, 8, 9], []⟩)]),
  (64, [(0, ⟨[{fr := true}], 8, [8, 9, 18], []⟩), (1, ⟨[], 8, [8, 9, 18], []⟩), (2, ⟨[], 8, [8, 9, 18], []⟩), (3, ⟨[], 8, [8, 9, 18], []⟩), (4, ⟨[], 8, [8, 9, 18], []⟩)]),
  (65, [(0, ⟨[{fr := true}], 8, [8, 9, 29], []⟩), (1, ⟨[], 8, [8, 9, 29], []⟩), (2, ⟨[{}, {}, {}, {}, {sym := true}, {sym := true}, {sym := true}, {}, {}, {fr := true}], 8, [8, 9, 29], []⟩), (3, ⟨[], 8, [8, 9, 29], []⟩), (4, ⟨[], 8, [8, 9, 29], []⟩), (5, ⟨[], 8, [8, 9, 29], []⟩)]),
  (66, [(0, ⟨[], 38, [41, 45, 83], []⟩), (1, ⟨[], 38, [41, 45, 83], []⟩), (2, ⟨[], 38, [41, 45, 83], []⟩), (3, ⟨[], 38, [41, 45, 83], []⟩), (4, ⟨[], 38, [41, 45, 83], []⟩), (6, ⟨[{}, {}, {}, {}, {}, {}, {}, {}, {}, {}, {}, {}, {}, {}, {}, {}, {fr := true}], 38, [41, 45, 83], []⟩), (7, ⟨[], 38, [41, 45, 83], []⟩), (8, ⟨[], 38, [41, 45, 83], []⟩), (5, ⟨[{}, {nw := true}], 38, [41, 45, 83], []⟩), (9, ⟨[], 38, [41, 45, 83], []⟩), (10, ⟨[], 38, [41, 45, 83], []⟩), (11, ⟨[], 38, [41, 45, 83], []⟩), (12, ⟨[], 38, [41, 45, 83], []⟩), (14, ⟨[{}, {}, {}, {}, {}, {}, {}, {}, {}, {}, {}, {}, {}, {}, {}, {}, {}, {}, {}, {}, {}, {}, {}, {}, {}, {}, {}, {}, {}, {}, {}, {}, {fr := true}], 38, [41, 45, 83], []⟩), (15, ⟨[], 38, [41, 45, 83], []⟩), (16, ⟨[], 38, [41, 45, 83], []⟩), (13, ⟨[{}, {nw := true}], 38, [41, 45, 83], []⟩), (17, ⟨[], 38, [41, 45, 83], []⟩)]),
  (67, [(0, ⟨[{fr := true}], 8, [8, 9, 17], []⟩), (1, ⟨[], 8, [8, 9, 17], []⟩), (2, ⟨[], 8, [8, 9, 17], []⟩), (3, ⟨[], 8, [8, 9, 17], []⟩), (4, ⟨[], 8, [8, 9, 17], []⟩), (6, ⟨[{}, {}, {}, {}, {}, {nw := true}], 8, [8, 9, 17], []⟩), (5, ⟨[{}, {nw := true}], 8, [8, 9, 17], []⟩), (7, ⟨[], 8, [8, 9, 17], []⟩)]),
  (68, [(0, ⟨[{fr := true}], 7, [7, 8, 12], []⟩), (1, ⟨[], 7, [7, 8, 12], []⟩), (2, ⟨[], 7, [7, 8, 12], []⟩), (3, ⟨[], 7, [7, 8, 12], []⟩), (5, ⟨[{}, {}, {}, {}, {}, {}, {}, {}, {}, {}, {}, {}, {}, {}, {}, {}, {}, {}, {}, {fr := true}], 7, [7, 8, 12], []⟩), (4, ⟨[{}, {nw := true}], 7, [7, 8, 12], []⟩), (6, ⟨[], 7, [7, 8, 12], []⟩)]),
  (69, [(0, ⟨[{fr := true}], 11, [13, 21, 32], []⟩), (1, ⟨[], 11, [13, 21, 32], []⟩), (2, ⟨[], 11, [13, 21, 32], []⟩), (3, ⟨[], 11, [13, 21, 32], []⟩), (4, ⟨[], 11, [13, 21, 32], []⟩), (5, ⟨[], 11, [13, 21, 32], []⟩), (7, ⟨[], 11, [13, 21, 32], []⟩), (8, ⟨[], 11, [13, 21, 32], []⟩), (6, ⟨[{}, {nw := true}], 11, [13, 21, 32], []⟩), (9, ⟨[], 11, [13, 21, 32], []⟩)]),
  (70, [(0, ⟨[], 45, [45, 46, 71], []⟩), (1, ⟨[], 45, [45, 46, 71], []⟩), (2, ⟨[], 45, [45, 46, 71], []⟩), (3, ⟨[], 45, [45, 46, 71], []⟩), (4, ⟨[], 45, [45, 46, 71], []⟩), (5, ⟨[], 45, [45, 46, 71], []⟩), (6, ⟨[], 45, [45, 46, 71], [8]⟩), (7, ⟨[{}, {}, {}, {}, {}, {}, {}, {fr := true}], 45, [45, 46, 71], []⟩), (8, ⟨[], 45, [45, 46, 71], []⟩), (9, ⟨[], 45, [45, 46, 71], []⟩), (10, ⟨[], 45, [45, 46, 71], []⟩), (11, ⟨[{nw := true}], 45, [45, 46, 71], []⟩), (12, ⟨[], 45, [45, 46, 71], []⟩), (13, ⟨[], 45, [45, 46, 71], []⟩), (14, ⟨[], 45, [45, 46, 71], []⟩), (15, ⟨[], 45, [45, 46, 71], []⟩), (16, ⟨[], 45, [45, 46, 71], [11]⟩), (17, ⟨[{}, {}, {}, {}, {}, {}, {}, {}, {}, {}, {}, {}, {}, {}, {}, {}, {}, {}, {}, {fr := true}], 45, [45, 46, 71], []⟩), (18, ⟨[], 45, [45, 46, 71], []⟩), (19, ⟨[], 45, [45, 46, 71], []⟩), (20, ⟨[], 45, [45, 46, 71], []⟩), (21, ⟨[{nw := true}], 45, [45, 46, 71], []⟩), (22, ⟨[], 45, [45, 46, 71], []⟩)]),
  (71, [(0, ⟨[], 7, [7, 15, 44], []⟩), (1, ⟨[{}, {}, {}, {}, {fr := true}], 7, [7, 15, 44], []⟩), (2, ⟨[], 7, [7, 15, 44], []⟩), (3, ⟨[], 7, [7, 15, 44], []⟩), (4, ⟨[{}, {}, {}, {}, {}, {}, {}, {}, {}, {}, {}, {}, {nw := true}, {}, {}, {}, {}, {}, {}, {}, {}, {nw := true}, {}, {}, {fr := true}], 7, [7, 15, 44], []⟩), (5, ⟨[], 7, [7, 15, 44], []⟩), (6, ⟨[], 7, [7, 15, 44], []⟩), (7, ⟨[{}, {}, {fr := true}], 7, [7, 15, 44], []⟩)]),
  (72, [(0, ⟨[], 1, [1, 4], []⟩), (1, ⟨[{}, {}, {}, {}, {}, {}, {}, {sym := true}, {sym := true}, {sym := true}, {sym := true}, {nw := true, sym := true}, {sym := true}, {sym := true}, {sym := true}, {sym := true}], 1, [1, 4], []⟩)]),
  (73, [(0, ⟨[], 10, [10, 15, 24], []⟩), (1, ⟨[], 10, [10, 15, 24], []⟩), (2, ⟨[], 10, [10, 15, 24], []⟩), (3, ⟨[{}, {}, {}, {nw := true}], 10, [10, 15, 24], []⟩), (5, ⟨[], 10, [10, 15, 24], []⟩), (6, ⟨[], 10, [10, 15, 24], []⟩), (4, ⟨[{}, {nw := true}], 10, [10, 15, 24], []⟩), (7, ⟨[{}, {}, {}, {}, {}, {}, {nw := true}], 10, [10, 15, 24], [7, 8]⟩), (8, ⟨[{}, {}, {}, {nw := true}, {}, {}, {}, {}, {nw := true}], 10, [10, 15, 24], []⟩), (9, ⟨[{}, {}, {}, {}, {}, {}, {}, {}, {}, {}, {}, {}, {}, {}, {}, {}, {}, {}, {}, {}, {}, {}, {}, {}, {}, {}, {}, {}, {}, {}, {}, {}, {}, {}, {nw := true}, {}, {}, {}, {}, {}, {}, {nw := true}], 10, [10, 15, 24], []⟩)]),
  (74, [(0, ⟨[], 10, [17, 47, 57], []⟩), (1, ⟨[], 10, [17, 47, 57], []⟩), (2, ⟨[], 10, [17, 47, 57], []⟩), (3, ⟨[], 10, [17, 47, 57], []⟩), (5, ⟨[{}, {}, {}, {nw := true}], 10, [17, 47, 57], [8]⟩), (6, ⟨[{}, {}, {}, {}, {}, {}, {}, {}, {nw := true}, {nw := true}], 10, [17, 47, 57], []⟩), (7, ⟨[{}, {}, {}, {}, {}, {}, {}, {}, {}, {}, {nw := true}], 10, [17, 47, 57], []⟩), (8, ⟨[{}, {}, {}, {}, {}, {fr := true}], 10, [17, 47, 57], []⟩), (4, ⟨[{}, {nw := true}], 10, [17, 47, 57], []⟩), (9, ⟨[], 10, [17, 47, 57], []⟩), (10, ⟨[], 10, [17, 47, 57], []⟩), (11, ⟨[], 10, [17, 47, 57], []⟩)]),
  (75, [(0, ⟨[], 5, [5, 6, 44], []⟩), (1, ⟨[{}, {}, {}, {}, {}, {}, {}, {nw := true}, {}, {}, {}, {}, {}, {}, {}, {}, {}, {nw := true}, {}, {}, {}, {}, {}, {nw := true}, {}, {}, {}, {}, {}, {}, {}, {nw := true}, {}, {}, {fr := true}], 5, [5, 6, 44], []⟩), (2, ⟨[], 5, [5, 6, 44], []⟩), (3, ⟨[], 5, [5, 6, 44], []⟩), (4, ⟨[{}, {}, {}, {}, {fz := true}], 5, [5, 6, 44], []⟩)]),
  (76, [(0, ⟨[], 22, [22, 23, 47], []⟩), (1, ⟨[{}, {}, {}, {}, {}, {}, {}, {}, {fr := true}], 22, [22, 23, 47], []⟩), (2, ⟨[], 22, [22, 23, 47], []⟩), (3, ⟨[], 22, [22, 23, 47], []⟩), (4, ⟨[], 22, [22, 23, 47], []⟩), (5, ⟨[], 22, [22, 23, 47], []⟩), (6, ⟨[], 22, [22, 23, 47], [5]⟩), (7, ⟨[{}, {}, {}, {}, {}, {sym := true}, {sym := true}, {sym := true}, {sym := true}, {nw := true, sym := true}, {sym := true}, {sym := true}, {sym := true}, {sym := true}, {sym := true}, {}, {}, {fr := true}], 22, [22, 23, 47], []⟩), (8, ⟨[], 22, [22, 23, 47], []⟩), (9, ⟨[], 22, [22, 23, 47], []⟩), (10, ⟨[{nw := true}], 22, [22, 23, 47], []⟩), (11, ⟨[{}, {}, {}, {nw := true}, {}, {}, {}, {}, {}, {}, {}, {nw := true}], 22, [22, 23, 47], []⟩)]),
  (77, [(0, ⟨[{fr := true}], 43, [43, 44, 45], []⟩), (1, ⟨[], 43, [43, 44, 45], []⟩), (2, ⟨[], 43, [43, 44, 45], []⟩), (3, ⟨[], 43, [43, 44, 45], []⟩), (4, ⟨[{}, {}, {nw := true}, {}, {}, {nw := true}, {}, {}, {fr := true}, {}, {}, {}, {}, {}, {}, {nw := true}, {}, {}, {}, {}, {}, {nw := true}, {}, {}, {}, {}, {}, {nw := true}], 43, [43, 44, 45], []⟩), (5, ⟨[], 43, [43, 44, 45], []⟩), (6, ⟨[], 43, [43, 44, 45], []⟩), (7, ⟨[], 43, [43, 44, 45], [7]⟩), (8, ⟨[{}, {}, {}, {}, {}, {}, {}, {}, {fz := true}, {}, {nw := true}], 43, [43, 44, 45], []⟩), (9, ⟨[{nw := true}], 43, [43, 44, 45], []⟩), (10, ⟨[], 43, [43, 44, 45], []⟩)]),
  (78, [(0, ⟨[], 20, [20, 62, 75], []⟩), (1, ⟨[], 20, [20, 62, 75], []⟩), (2, ⟨[], 20, [20, 62, 75], []⟩), (3, ⟨[], 20, [20, 62, 75], []⟩), (4, ⟨[], 20, [20, 62, 75], []⟩), (5, ⟨[], 20, [20, 62, 75], []⟩), (6, ⟨[], 20, [20, 62, 75], []⟩), (7, ⟨[], 20, [20, 62, 75], []⟩), (8, ⟨[], 20, [20, 62, 75], []⟩), (9, ⟨[], 20, [20, 62, 75], []⟩), (10, ⟨[], 20, [20, 62, 75], []⟩), (11, ⟨[], 20, [20, 62, 75], []⟩), (12, ⟨[{}, {}, {}, {sym := true}, {sym := true}, {sym := true}, {sym := true}, {sym := true}, {}, {}, {sym := true}, {sym := true}, {sym := true}, {sym := true}, {}, {}, {sym := true}, {sym := true}, {sym := true}, {sym := true}, {sym := true}, {sym := true}], 20, [20, 62, 75], []⟩), (13, ⟨[], 20, [20, 62, 75], []⟩), (14, ⟨[{}, {nw := true}], 20, [20, 62, 75], []⟩), (15, ⟨[{}, {}, {}, {}, {}, {fr := true}], 20, [20, 62, 75], []⟩), (16, ⟨[], 20, [20, 62, 75], []⟩), (17, ⟨[], 20, [20, 62, 75], []⟩), (18, ⟨[], 20, [20, 62, 75], []⟩)]),
  (79, [(0, ⟨[{fr := true}], 6, [6, 9, 41], []⟩), (1, ⟨[], 6, [6, 9, 41], []⟩), (2, ⟨[], 6, [6, 9, 41], []⟩), (3, ⟨[], 6, [6, 9, 41], []⟩), (5, ⟨[{}, {}, {}, {}, {}, {fr := true}], 6, [6, 9, 41], []⟩), (4, ⟨[{}, {nw := true}], 6, [6, 9, 41], []⟩), (6, ⟨[{}, {}, {nw := true}, {}, {}, {fr := true}, {}, {}, {}, {}, {nw := true}, {}, {}, {nw := true}, {}, {}, {}, {nw := true}], 6, [6, 9, 41], []⟩), (7, ⟨[], 6, [6, 9, 41], []⟩), (8, ⟨[], 6, [6, 9, 41], []⟩), (10, ⟨[{}, {}, {}, {}, {}, {}, {}, {}, {}, {}, {}, {}, {}, {}, {fz := true}, {}, {nw := true}], 6, [6, 9, 41], []⟩), (9, ⟨[{}, {nw := true}], 6, [6, 9, 41], []⟩), (11, ⟨[], 6, [6, 9, 41], []⟩)]),
  (80, [(0, ⟨[], 137, [147, 166, 174], []⟩), (1, ⟨[], 137, [147, 166, 174], []⟩), (2, ⟨[], 137, [147, 166, 174], []⟩), (3, ⟨[], 137, [147, 166, 174], []⟩), (4, ⟨[], 137, [147, 166, 174], []⟩), (5, ⟨[{fr := true}], 137, [147, 166, 174], []⟩), (6, ⟨[], 137, [147, 166, 174], []⟩), (7, ⟨[], 137, [147, 166, 174], []⟩), (9, ⟨[{}, {}, {}, {nw := true}], 137, [147, 166, 174], []⟩), (10, ⟨[], 137, [147, 166, 174], []⟩), (11, ⟨[], 137, [147, 166, 174], []⟩), (12, ⟨[], 137, [147, 166, 174], []⟩), (13, ⟨[], 137, [147, 166, 174], []⟩), (14, ⟨[], 137, [147, 166, 174], []⟩), (15, ⟨[], 137, [147, 166, 174], []⟩), (16, ⟨[], 137, [147, 166, 174], []⟩), (17, ⟨[], 137, [147, 166, 174], []⟩), (18, ⟨[], 137, [147, 166, 174], []⟩), (19, ⟨[{}, {}, {sym := true}, {sym := true}, {sym := true}, {}, {}, {sym := true}, {sym := true}, {sym := true}, {sym := true}], 137, [147, 166, 174], []⟩), (20, ⟨[], 137, [147, 166, 174], []⟩), (21, ⟨[{}, {}, {sym := true}, {sym := true}, {sym := true}], 137, [147, 166, 174], []⟩), (22, ⟨[], 137, [147, 166, 174], []⟩), (23, ⟨[{}, {}, {sym := true}, {sym := true}, {sym := true}], 137, [147, 166, 174], []⟩), (24, ⟨[], 137, [147, 166, 174], []⟩), (25, ⟨[], 137, [147, 166, 174], []⟩), (26, ⟨[], 137, [147, 166, 174], []⟩), (28, ⟨[], 137, [147, 166, 174], []⟩), (29, ⟨[{}, {}, {sym := true}], 137, [147, 166, 174], []⟩), (30, ⟨[{}, {}, {fr := true}], 137, [147, 166, 174], []⟩), (27, ⟨[{}, {nw := true}], 137, [147, 166, 174], []⟩), (31, ⟨[], 137, [147, 166, 174], []⟩), (32, ⟨[], 137, [147, 166, 174], []⟩), (33, ⟨[], 137, [147, 166, 174], []⟩), (34, ⟨[], 137, [147, 166, 174], []⟩), (35, ⟨[], 137, [147, 166, 174], []⟩), (36, ⟨[], 137, [147, 166, 174], []⟩), (37, ⟨[], 137, [147, 166, 174], []⟩), (38, ⟨[], 137, [147, 166, 174], []⟩), (39, ⟨[], 137, [147, 166, 174], []⟩), (41, ⟨[], 137, [147, 166, 174], []⟩), (40, ⟨[{}, {nw := true}], 137, [147, 166, 174], []⟩), (42, ⟨[], 137, [147, 166, 174], []⟩), (43, ⟨[], 137, [147, 166, 174], []⟩), (44, ⟨[{}, {}, {}, {}, {}, {}, {}, {}, {fr := true}, {fz := true}], 137, [147, 166, 174], []⟩), (8, ⟨[{}, {nw := true}], 137, [147, 166, 174], []⟩), (45, ⟨[{}, {}, {nw := true}], 137, [147, 166, 174], []⟩), (46, ⟨[{}, {}, {}, {nw := true}], 137, [147, 166, 174], []⟩), (47, ⟨[], 137, [147, 166, 174], []⟩), (48, ⟨[], 137, [147, 166, 174], []⟩), (49, ⟨[{}, {}, {}, {nw := true}], 137, [147, 166, 174], []⟩), (50, ⟨[], 137, [147, 166, 174], []⟩)]),
  (81, [(0, ⟨[{fr := true}, {fr := true}], 6, [49, 54, 85], []⟩), (1, ⟨[{}, {}, {}, {}, {}, {}, {sym := true}, {sym := true}, {sym := true}, {sym := true}, {sym := true}, {sym := true}, {}, {}, {sym := true}, {sym := true}, {sym := true}, {sym := true}, {sym := true}, {}, {}, {sym := true}, {sym := true}, {sym := true}, {sym := true}, {sym := true}, {}, {}, {sym := true}, {sym := true}, {sym := true}, {sym := true}, {sym := true}, {sym := true}, {}, {}, {sym := true}, {sym := true}, {sym := true}, {sym := true}, {sym := true}, {sym := true}, {sym := true}], 6, [49, 54, 85], []⟩), (2, ⟨[], 6, [49, 54, 85], []⟩), (3, ⟨[], 6, [49, 54, 85], []⟩), (4, ⟨[], 6, [49, 54, 85], []⟩), (6, ⟨[{}, {}, {}, {}, {}, {}, {}, {}, {}, {}, {}, {}, {}, {}, {sym := true}, {sym := true}, {sym := true}, {sym := true}, {sym := true}, {sym := true}, {sym := true}, {sym := true}, {sym := true}, {sym := true}, {sym := true}, {sym := true}, {sym := true}, {sym := true}], 6, [49, 54, 85], []⟩), (7, ⟨[], 6, [49, 54, 85], []⟩), (5, ⟨[{}, {nw := true}], 6, [49, 54, 85], []⟩), (8, ⟨[], 6, [49, 54, 85], []⟩)]),
  (82, [(0, ⟨[{fr := true}], 19, [19, 20, 21], []⟩), (1, ⟨[], 19, [19, 20, 21], []⟩), (2, ⟨[], 19, [19, 20, 21], []⟩), (3, ⟨[], 19, [19, 20, 21], []⟩), (4, ⟨[], 19, [19, 20, 21], [5]⟩), (5, ⟨[{}, {}, {}, {fr := true}, {fz := true}], 19, [19, 20, 21], []⟩), (6, ⟨[{nw := true}], 19, [19, 20, 21], []⟩), (7, ⟨[], 19, [19, 20, 21], []⟩)]),
  (83, [(0, ⟨[], 5, [5, 9, 18], []⟩), (1, ⟨[], 5, [5, 9, 18], []⟩), (2, ⟨[], 5, [5, 9, 18], []⟩), (4, ⟨[], 5, [5, 9, 18], []⟩), (5, ⟨[], 5, [5, 9, 18], []⟩), (3, ⟨[{}, {nw := true}], 5, [5, 9, 18], []⟩), (6, ⟨[], 5, [5, 9, 18], []⟩)]),
  (84, [(0, ⟨[], 7, [7, 11, 18], []⟩), (1, ⟨[], 7, [7, 11, 18], []⟩), (2, ⟨[], 7, [7, 11, 18], []⟩), (3, ⟨[], 7, [7, 11, 18], []⟩), (4, ⟨[], 7, [7, 11, 18], []⟩), (6, ⟨[], 7, [7, 11, 18], []⟩), (7, ⟨[{}, {}, {}, {}, {}, {fr := true}], 7, [7, 11, 18], []⟩), (8, ⟨[{}, {nw := true}], 7, [7, 11, 18], []⟩), (5, ⟨[{}, {nw := true}], 7, [7, 11, 18], []⟩), (9, ⟨[{}, {}, {}, {}, {fr := true}, {fz := true}], 7, [7, 11, 18], []⟩)]),
  (85, [(0, ⟨[], 1, [], []⟩), (1, ⟨[{fr := true}, {}, {fr := true}, {fr := true}, {}, {fr := true}, {}, {fr := true}], 1, [], []⟩)]),
  (86, [(0, ⟨[], 1, [], []⟩), (1, ⟨[{}, {}, {}, {fr := true}], 1, [], []⟩)]),
  (87, [(0, ⟨[], 7, [7, 8, 12], []⟩), (1, ⟨[], 7, [7, 8, 12], []⟩), (2, ⟨[], 7, [7, 8, 12], []⟩), (3, ⟨[], 7, [7, 8, 12], []⟩), (4, ⟨[], 7, [7, 8, 12], []⟩), (5, ⟨[], 7, [7, 8, 12], []⟩), (6, ⟨[{nw := true}], 7, [7, 8, 12], []⟩), (7, ⟨[], 7, [7, 8, 12], []⟩)]),
  (88, [(0, ⟨[], 22, [22, 23, 49], []⟩), (1, ⟨[{}, {}, {}, {}, {}, {}, {}, {}, {fr := true}], 22, [22, 23, 49], []⟩), (2, ⟨[], 22, [22, 23, 49], []⟩), (3, ⟨[], 22, [22, 23, 49], []⟩), (4, ⟨[], 22, [22, 23, 49], []⟩), (5, ⟨[], 22, [22, 23, 49], []⟩), (6, ⟨[], 22, [22, 23, 49], [5]⟩), (7, ⟨[{}, {}, {}, {}, {}, {}, {}, {}, {}, {sym := true}, {sym := true}, {sym := true}, {nw := true, sym := true}, {sym := true}, {sym := true}, {sym := true}, {sym := true}, {}, {}, {fr := true}], 22, [22, 23, 49], []⟩), (8, ⟨[], 22, [22, 23, 49], []⟩), (9, ⟨[], 22, [22, 23, 49], []⟩), (10, ⟨[{nw := true}], 22, [22, 23, 49], []⟩), (11, ⟨[], 22, [22, 23, 49], []⟩)]),
  (89, [(0, ⟨[], 1, [1, 2, 6], []⟩), (1, ⟨[{}, {}, {}, {}, {sym := true}, {sym := true}, {sym := true}], 1, [1, 2, 6], []⟩)]),
  (90, [(0, ⟨[], 20, [20, 21, 35], []⟩), (1, ⟨[{}, {}, {}, {nw := true}], 20, [20, 21, 35], []⟩), (2, ⟨[{}, {}, {nw := true}], 20, [20, 21, 35], []⟩), (3, ⟨[], 20, [20, 21, 35], []⟩), (4, ⟨[], 20, [20, 21, 35], []⟩), (5, ⟨[{}, {}, {}, {}, {}, {}, {nw := true}], 20, [20, 21, 35], [7, 8]⟩), (6, ⟨[], 20, [20, 21, 35], []⟩), (7, ⟨[{}, {}, {}, {nw := true}, {}, {}, {}, {}, {nw := true}], 20, [20, 21, 35], []⟩), (8, ⟨[], 20, [20, 21, 35], []⟩), (9, ⟨[{nw := true}], 20, [20, 21, 35], []⟩), (10, ⟨[], 20, [20, 21, 35], []⟩)]),
  (91, [(0, ⟨[], 2, [4, 5, 13], []⟩), (1, ⟨[{}, {}, {nw := true}], 2, [4, 5, 13], []⟩), (2, ⟨[{}, {}, {nw := true}], 2, [4, 5, 13], []⟩), (3, ⟨[{}, {nw := true}], 2, [4, 5, 13], []⟩), (4, ⟨[], 2, [4, 5, 13], []⟩)]),
  (92, [(0, ⟨[], 1, [1, 4, 5], []⟩), (1, ⟨[], 1, [1, 4, 5], []⟩), (2, ⟨[], 1, [1, 4, 5], []⟩), (3, ⟨[], 1, [1, 4, 5], []⟩)]),
  (93, [(0, ⟨[], 3, [3, 7, 14], []⟩), (1, ⟨[], 3, [3, 7, 14], []⟩), (2, ⟨[], 3, [3, 7, 14], []⟩), (4, ⟨[], 3, [3, 7, 14], []⟩), (5, ⟨[], 3, [3, 7, 14], []⟩), (3, ⟨[{}, {nw := true}], 3, [3, 7, 14], []⟩), (6, ⟨[], 3, [3, 7, 14], []⟩)]),
  (94, [(0, ⟨[], 1, [1, 4, 5], []⟩), (1, ⟨[], 1, [1, 4, 5], []⟩), (2, ⟨[], 1, [1, 4, 5], []⟩), (3, ⟨[], 1, [1, 4, 5], []⟩)]),
  (95, [(0, ⟨[], 1, [1, 2, 6], []⟩), (1, ⟨[{}, {}, {}, {}, {sym := true}, {sym := true}, {sym := true}], 1, [1, 2, 6], []⟩)]),
  (96, [(0, ⟨[], 1, [1, 4], []⟩), (1, ⟨[{}, {nw := true}, {}, {}, {nw := true}], 1, [1, 4], []⟩)]),
  (97, [(0, ⟨[], 2, [2, 3, 8], []⟩), (1, ⟨[{}, {}, {}, {nw := true}, {}, {nw := true}, {}, {}, {nw := true}], 2, [2, 3, 8], []⟩)]),
  (98, [(0, ⟨[], 1, [2], []⟩), (1, ⟨[], 1, [2], []⟩)]),
  (99, [(0, ⟨[{fr := true}, {fr := true}, {fr := true}], 5, [6, 7, 8], []⟩), (1, ⟨[{}, {}, {}, {}, {}, {}, {}, {}, {sym := true}, {sym := true}, {sym := true}, {sym := true}, {sym := true}, {}, {}, {sym := true}, {sym := true}, {sym := true}, {}, {}, {}, {}, {fr := true}], 5, [6, 7, 8], []⟩)]),
  (100, [(0, ⟨[{fr := true}, {fr := true}, {fr := true}], 12, [19, 20, 21], []⟩), (1, ⟨[], 12, [19, 20, 21], []⟩), (2, ⟨[], 12, [19, 20, 21], []⟩), (3, ⟨[], 12, [19, 20, 21], []⟩), (4, ⟨[{}, {}, {nw := true}], 12, [19, 20, 21], []⟩), (5, ⟨[], 12, [19, 20, 21], []⟩)]),
  (101, [(0, ⟨[{fr := true}, {fr := true}], 2, [2, 3, 4], []⟩), (1, ⟨[], 2, [2, 3, 4], []⟩)]),
  (102, [(0, ⟨[], 1, [2], []⟩), (1, ⟨[{}, {}, {}, {}, {}, {}, {}, {nw := true}], 1, [2], []⟩)]),
  (103, [(0, ⟨[{fr := true}, {fr := true}, {fr := true}, {fr := true}], 6, [6, 7, 8], []⟩), (1, ⟨[], 6, [6, 7, 8], []⟩)]),
  (104, [(0, ⟨[{fr := true}], 1, [1, 2], []⟩), (1, ⟨[{}, {}, {}, {}, {}, {}, {}, {}, {}, {fr := true}], 1, [1, 2], []⟩)]),
  (105, [(0, ⟨[{fr := true}, {fr := true}, {fr := true}, {fr := true}], 14, [14, 15, 16], []⟩), (1, ⟨[], 14, [14, 15, 16], [9, 10, 11]⟩), (2, ⟨[{}, {}, {}, {}, {nw := true}], 14, [14, 15, 16], []⟩), (3, ⟨[{}, {}, {}, {}, {nw := true}, {}, {}, {}, {}, {nw := true}, {nw := true}, {}, {}, {}, {}, {nw := true}, {nw := true}, {}, {}, {}, {}, {nw := true}, {}, {}, {}, {}, {nw := true}, {nw := true}, {}, {}, {}, {}, {nw := true}, {nw := true}], 14, [14, 15, 16], []⟩), (4, ⟨[{}, {}, {}, {}, {}, {}, {}, {}, {}, {}, {}, {nw := true}, {}, {}, {nw := true}, {nw := true}], 14, [14, 15, 16], []⟩), (5, ⟨[{}, {}, {}, {}, {}, {}, {}, {}, {}, {nw := true}, {}, {}, {}, {nw := true}], 14, [14, 15, 16], []⟩), (6, ⟨[{}, {}, {nw := true}, {}, {nw := true}, {}, {nw := true}], 14, [14, 15, 16], []⟩)]),
  (106, [(0, ⟨[], 1, [2], []⟩), (1, ⟨[], 1, [2], []⟩)]),
  (107, [(0, ⟨[], 5, [5, 19, 24], []⟩), (1, ⟨[{}, {}, {}, {}, {}, {}, {}, {}, {}, {}, {fr := true}], 5, [5, 19, 24], []⟩), (2, ⟨[], 5, [5, 19, 24], []⟩), (3, ⟨[], 5, [5, 19, 24], []⟩), (4, ⟨[], 5, [5, 19, 24], []⟩), (5, ⟨[], 5, [5, 19, 24], []⟩), (6, ⟨[], 5, [5, 19, 24], []⟩), (8, ⟨[{}, {}, {}, {}, {}, {nw := true}], 5, [5, 19, 24], []⟩), (7, ⟨[{}, {nw := true}], 5, [5, 19, 24], []⟩), (9, ⟨[], 5, [5, 19, 24], []⟩)]),
  (108, [(0, ⟨[], 8, [8, 12, 23], []⟩), (1, ⟨[], 8, [8, 12, 23], []⟩), (2, ⟨[], 8, [8, 12, 23], []⟩), (4, ⟨[], 8, [8, 12, 23], []⟩), (5, ⟨[], 8, [8, 12, 23], []⟩), (6, ⟨[], 8, [8, 12, 23], []⟩), (3, ⟨[{}, {nw := true}], 8, [8, 12, 23], []⟩), (7, ⟨[], 8, [8, 12, 23], []⟩)]),
  (109, [(0, ⟨[], 5, [18, 23, 51], []⟩), (1, ⟨[{}, {}, {}, {}, {}, {}, {}, {}, {}, {}, {fr := true}], 5, [18, 23, 51], []⟩), (2, ⟨[], 5, [18, 23, 51], []⟩), (3, ⟨[], 5, [18, 23, 51], []⟩), (4, ⟨[], 5, [18, 23, 51], []⟩), (5, ⟨[], 5, [18, 23, 51], []⟩), (7, ⟨[{}, {}, {}, {sym := true}, {sym := true}, {sym := true}, {sym := true}, {sym := true}, {}, {}, {sym := true}, {sym := true}, {sym := true}, {sym := true}, {sym := true}, {sym := true}, {sym := true}, {sym := true}, {sym := true}, {nw := true, sym := true}, {sym := true}, {sym := true}, {sym := true}, {sym := true}, {sym := true}], 5, [18, 23, 51], []⟩), (8, ⟨[], 5, [18, 23, 51], []⟩), (6, ⟨[{}, {nw := true}], 5, [18, 23, 51], []⟩), (9, ⟨[], 5, [18, 23, 51], []⟩)]),
  (110, [(0, ⟨[{fr := true}], 9, [48, 54, 90], []⟩), (1, ⟨[{}, {}, {}, {}, {}, {}, {}, {}, {nw := true}], 9, [48, 54, 90], [5, 6]⟩), (2, ⟨[{}, {}, {}, {}, {}, {}, {sym := true}, {sym := true}, {sym := true}, {sym := true}, {sym := true}, {}, {}, {}, {}, {}, {}, {}, {}, {}, {}, {}, {}, {}, {fr := true}], 9, [48, 54, 90], []⟩), (3, ⟨[], 9, [48, 54, 90], []⟩), (4, ⟨[], 9, [48, 54, 90], []⟩), (5, ⟨[], 9, [48, 54, 90], []⟩), (6, ⟨[], 9, [48, 54, 90], []⟩), (8, ⟨[{}, {}, {}, {sym := true}, {sym := true}, {sym := true}, {sym := true}, {sym := true}, {sym := true}, {sym := true}, {sym := true}, {nw := true, sym := true}, {sym := true}, {sym := true}, {sym := true}, {sym := true}, {}, {}, {sym := true}, {sym := true}, {sym := true}, {sym := true}, {sym := true}, {sym := true}, {sym := true}, {sym := true}, {sym := true}, {sym := true}, {sym := true}, {sym := true}, {sym := true}, {sym := true}, {sym := true}], 9, [48, 54, 90], []⟩), (9, ⟨[], 9, [48, 54, 90], []⟩), (7, ⟨[{}, {nw := true}], 9, [48, 54, 90], []⟩), (10, ⟨[], 9, [48, 54, 90], []⟩)]),
  (111, [(0, ⟨[], 7, [7, 8, 9], []⟩), (1, ⟨[], 7, [7, 8, 9], []⟩), (2, ⟨[{}, {}, {nw := true}, {}, {}, {nw := true}, {}, {}, {}, {nw := true}, {}, {}, {nw := true}], 7, [7, 8, 9], []⟩)]),
  (112, [(0, ⟨[{fr := true}], 1, [1, 2], []⟩), (1, ⟨[{}, {}, {}, {}, {nw := true}, {}, {}, {}, {}, {nw := true}, {nw := true}, {}, {}, {}, {}, {nw := true}], 1, [1, 2], []⟩)]),
  (113, [(0, ⟨[{fr := true}, {fr := true}], 2, [2, 3, 4], []⟩), (1, ⟨[{}, {}, {}, {}, {nw := true}, {}, {}, {}, {}, {nw := true}, {}, {}, {}, {}, {nw := true}], 2, [2, 3, 4], []⟩)]),
  (114, [(0, ⟨[{fr := true}, {fr := true}], 18, [23, 30, 45], []⟩), (1, ⟨[], 18, [23, 30, 45], []⟩), (2, ⟨[], 18, [23, 30, 45], []⟩), (3, ⟨[], 18, [23, 30, 45], []⟩), (4, ⟨[], 18, [23, 30, 45], []⟩), (5, ⟨[], 18, [23, 30, 45], []⟩), (6, ⟨[], 18, [23, 30, 45], []⟩), (7, ⟨[{nw := true}], 18, [23, 30, 45], []⟩), (8, ⟨[], 18, [23, 30, 45], []⟩), (9, ⟨[], 18, [23, 30, 45], []⟩), (10, ⟨[{}, {}, {}, {}, {}, {nw := true}], 18, [23, 30, 45], []⟩), (11, ⟨[{}, {}, {}, {sym := true}, {sym := true}, {sym := true}, {sym := true}, {sym := true}, {sym := true}, {sym := true}, {sym := true}], 18, [23, 30, 45], []⟩), (12, ⟨[], 18, [23, 30, 45], []⟩), (13, ⟨[{}, {}, {}, {nw := true}], 18, [23, 30, 45], [11, 12]⟩), (14, ⟨[{}, {}, {}, {}, {}, {}, {}, {}, {}, {}, {}, {}, {}, {nw := true}, {}, {}, {}, {}, {nw := true}], 18, [23, 30, 45], []⟩)]),
  (115, [(0, ⟨[{fr := true}], 1, [1, 2], []⟩), (1, ⟨[{}, {}, {}, {}, {}, {}, {fr := true}], 1, [1, 2], []⟩)]),
  (116, [(0, ⟨[{fr := true}, {fr := true}], 8, [31, 34, 51], []⟩), (1, ⟨[{}, {}, {}, {}, {nw := true}, {}, {}, {}, {}, {nw := true}, {nw := true}, {}, {}, {}, {}, {nw := true}, {}, {}, {}, {}, {nw := true}, {nw := true}], 8, [31, 34, 51], []⟩), (2, ⟨[], 8, [31, 34, 51], []⟩), (3, ⟨[], 8, [31, 34, 51], []⟩), (5, ⟨[{}, {}, {}, {}, {sym := true}, {sym := true}, {}, {}, {sym := true}, {sym := true}, {sym := true}, {sym := true}, {sym := true}, {sym := true}], 8, [31, 34, 51], []⟩), (6, ⟨[], 8, [31, 34, 51], []⟩), (7, ⟨[{}, {}, {}, {}, {sym := true}, {sym := true}], 8, [31, 34, 51], []⟩), (8, ⟨[{}, {nw := true}], 8, [31, 34, 51], []⟩), (9, ⟨[{}, {}, {nw := true}], 8, [31, 34, 51], []⟩), (4, ⟨[{}, {nw := true}], 8, [31, 34, 51], []⟩), (10, ⟨[], 8, [31, 34, 51], []⟩)]),
  (117, [(0, ⟨[{fr := true}, {fr := true}, {fr := true}], 10, [10, 19, 47], []⟩), (1, ⟨[], 10, [10, 19, 47], [7]⟩), (2, ⟨[], 10, [10, 19, 47], [8]⟩), (3, ⟨[], 10, [10, 19, 47], []⟩), (4, ⟨[], 10, [10, 19, 47], []⟩), (5, ⟨[], 10, [10, 19, 47], []⟩), (6, ⟨[{}, {}, {}, {}, {}, {}, {}, {nw := true}, {}, {}, {}, {}, {}, {nw := true}], 10, [10, 19, 47], []⟩), (7, ⟨[{}, {}, {nw := true}], 10, [10, 19, 47], []⟩), (8, ⟨[{}, {}, {}, {nw := true}, {nw := true}], 10, [10, 19, 47], []⟩), (9, ⟨[{}, {nw := true}], 10, [10, 19, 47], []⟩)]),
  (118, [(0, ⟨[], 1, [2], []⟩), (1, ⟨[], 1, [2], []⟩)]),
  (119, [(0, ⟨[], 9, [9, 10, 11], []⟩), (1, ⟨[], 9, [9, 10, 11], []⟩), (2, ⟨[], 9, [9, 10, 11], []⟩), (3, ⟨[], 9, [9, 10, 11], []⟩), (4, ⟨[], 9, [9, 10, 11], []⟩), (5, ⟨[{}, {}, {}, {}, {fr := true}], 9, [9, 10, 11], []⟩), (6, ⟨[{nw := true}], 9, [9, 10, 11], []⟩), (7, ⟨[], 9, [9, 10, 11], []⟩)]),
  (120, [(0, ⟨[], 1, [1, 3], []⟩), (1, ⟨[{}, {nw := true}, {}, {nw := true}, {}, {}, {}, {nw := true}, {nw := true}, {nw := true}], 1, [1, 3], []⟩)]),
  (121, [(0, ⟨[], 7, [7, 8, 9], []⟩), (1, ⟨[], 7, [7, 8, 9], []⟩), (2, ⟨[], 7, [7, 8, 9], []⟩), (3, ⟨[], 7, [7, 8, 9], []⟩), (4, ⟨[], 7, [7, 8, 9], []⟩), (5, ⟨[{}, {}, {nw := true}], 7, [7, 8, 9], []⟩), (6, ⟨[{nw := true}], 7, [7, 8, 9], []⟩), (7, ⟨[], 7, [7, 8, 9], []⟩)]),
  (122, [(0, ⟨[], 8, [8, 9, 43], []⟩), (1, ⟨[], 8, [8, 9, 43], []⟩), (2, ⟨[], 8, [8, 9, 43], []⟩), (3, ⟨[], 8, [8, 9, 43], []⟩), (4, ⟨[{}, {}, {}, {sym := true}, {sym := true}, {}, {}, {sym := true}, {sym := true}, {sym := true}, {sym := true}, {sym := true}, {sym := true}], 8, [8, 9, 43], []⟩), (5, ⟨[{}, {}, {}, {sym := true}, {sym := true}, {sym := true}, {sym := true}, {sym := true}, {sym := true}, {sym := true}, {sym := true}, {sym := true}, {sym := true}, {sym := true}, {sym := true}, {sym := true}, {sym := true}], 8, [8, 9, 43], []⟩), (6, ⟨[], 8, [8, 9, 43], []⟩), (7, ⟨[{}, {}, {}, {sym := true}, {sym := true}, {sym := true}], 8, [8, 9, 43], []⟩)]),
  (123, [(0, ⟨[], 1, [1, 4], []⟩), (1, ⟨[{}, {}, {}, {}, {}, {}, {}, {fr := true}], 1, [1, 4], []⟩)]),
  (124, [(0, ⟨[{fr := true}], 1, [1, 3, 4], []⟩), (1, ⟨[], 1, [1, 3, 4], []⟩)]),
  (125, [(0, ⟨[{fr := true}], 57, [57, 58, 82], []⟩), (1, ⟨[], 57, [57, 58, 82], []⟩), (2, ⟨[], 57, [57, 58, 82], []⟩), (3, ⟨[], 57, [57, 58, 82], []⟩), (4, ⟨[{}, {}, {}, {fr := true}], 57, [57, 58, 82], []⟩), (5, ⟨[], 57, [57, 58, 82], []⟩), (6, ⟨[], 57, [57, 58, 82], []⟩), (7, ⟨[], 57, [57, 58, 82], [6]⟩), (8, ⟨[{}, {}, {}, {}, {}, {}, {}, {}, {}, {}, {}, {}, {}, {}, {}, {}, {}, {}, {}, {}, {fr := true}], 57, [57, 58, 82], []⟩), (9, ⟨[], 57, [57, 58, 82], []⟩), (10, ⟨[], 57, [57, 58, 82], []⟩), (11, ⟨[], 57, [57, 58, 82], []⟩), (12, ⟨[], 57, [57, 58, 82], []⟩), (13, ⟨[], 57, [57, 58, 82], []⟩), (14, ⟨[{}, {}, {}, {sym := true}, {sym := true}, {sym := true}, {sym := true}, {nw := true, sym := true}, {sym := true}, {sym := true}, {sym := true}, {}, {}, {sym := true}, {sym := true}, {sym := true}, {sym := true}, {sym := true}, {sym := true}, {sym := true}], 57, [57, 58, 82], []⟩), (15, ⟨[], 57, [57, 58, 82], []⟩), (16, ⟨[{nw := true}], 57, [57, 58, 82], []⟩), (17, ⟨[], 57, [57, 58, 82], []⟩), (18, ⟨[{nw := true}], 57, [57, 58, 82], []⟩), (19, ⟨[], 57, [57, 58, 82], []⟩)]),
  (126, [(0, ⟨[], 19, [19, 20, 27], []⟩), (1, ⟨[], 19, [19, 20, 27], []⟩), (2, ⟨[{}, {}, {}, {nw := true}], 19, [19, 20, 27], []⟩), (3, ⟨[], 19, [19, 20, 27], []⟩), (4, ⟨[], 19, [19, 20, 27], [7]⟩), (5, ⟨[], 19, [19, 20, 27], []⟩), (6, ⟨[], 19, [19, 20, 27], []⟩), (7, ⟨[{nw := true}], 19, [19, 20, 27], []⟩), (8, ⟨[{}, {}, {}, {}, {}, {}, {nw := true}], 19, [19, 20, 27], [8, 9]⟩), (9, ⟨[{}, {}, {}, {nw := true}, {}, {}, {}, {}, {nw := true}], 19, [19, 20, 27], []⟩), (10, ⟨[], 19, [19, 20, 27], [12]⟩), (11, ⟨[{}, {}, {}, {}, {}, {}, {}, {nw := true}, {}, {}, {}, {}, {}, {}, {nw := true}], 19, [19, 20, 27], []⟩)]),
  (127, [(0, ⟨[{fr := true}, {fr := true}], 7, [7, 8, 17], []⟩), (1, ⟨[{}, {}, {}, {}, {}, {fr := true}], 7, [7, 8, 17], []⟩), (2, ⟨[], 7, [7, 8, 17], []⟩), (3, ⟨[], 7, [7, 8, 17], []⟩), (4, ⟨[], 7, [7, 8, 17], []⟩)]),
  (128, [(0, ⟨[], 1, [2], []⟩), (1, ⟨[], 1, [2], []⟩)]),
  (129, [(0, ⟨[], 7, [9, 17, 27], []⟩), (1, ⟨[], 7, [9, 17, 27], []⟩), (2, ⟨[], 7, [9, 17, 27], []⟩), (3, ⟨[], 7, [9, 17, 27], []⟩), (4, ⟨[], 7, [9, 17, 27], []⟩), (5, ⟨[], 7, [9, 17, 27], []⟩), (7, ⟨[], 7, [9, 17, 27], []⟩), (8, ⟨[], 7, [9, 17, 27], []⟩), (6, ⟨[{}, {nw := true}], 7, [9, 17, 27], []⟩), (9, ⟨[], 7, [9, 17, 27], []⟩)]),
  (130, [(0, ⟨[{fr := true}, {fr := true}], 2, [2, 3, 4], []⟩), (1, ⟨[], 2, [2, 3, 4], []⟩)]),
  (131, [(0, ⟨[], 5, [5, 9, 18], []⟩), (1, ⟨[], 5, [5, 9, 18], []⟩), (2, ⟨[], 5, [5, 9, 18], []⟩), (4, ⟨[], 5, [5, 9, 18], []⟩), (5, ⟨[], 5, [5, 9, 18], []⟩), (3, ⟨[{}, {nw := true}], 5, [5, 9, 18], []⟩), (6, ⟨[], 5, [5, 9, 18], []⟩)]),
  (132, [(0, ⟨[], 26, [26, 27, 28], []⟩), (1, ⟨[], 26, [26, 27, 28], []⟩), (2, ⟨[], 26, [26, 27, 28], []⟩), (3, ⟨[], 26, [26, 27, 28], []⟩), (4, ⟨[], 26, [26, 27, 28], []⟩), (5, ⟨[{}, {}, {}, {nw := true}], 26, [26, 27, 28], []⟩), (6, ⟨[], 26, [26, 27, 28], []⟩), (7, ⟨[], 26, [26, 27, 28], []⟩), (8, ⟨[{nw := true}], 26, [26, 27, 28], []⟩), (9, ⟨[{}, {fr := true}], 26, [26, 27, 28], []⟩), (10, ⟨[], 26, [26, 27, 28], []⟩), (11, ⟨[], 26, [26, 27, 28], []⟩), (12, ⟨[], 26, [26, 27, 28], []⟩), (13, ⟨[], 26, [26, 27, 28], []⟩), (14, ⟨[{nw := true}], 26, [26, 27, 28], []⟩), (15, ⟨[], 26, [26, 27, 28], []⟩)]),
  (133, [(0, ⟨[{fr := true}, {fr := true}], 2, [2, 3, 4], []⟩), (1, ⟨[{}, {}, {}, {}, {nw := true}, {}, {}, {}, {}, {nw := true}, {nw := true}, {}, {}, {}, {}, {nw := true}, {}, {}, {}, {}, {nw := true}, {nw := true}, {nw := true}, {}, {}, {}, {}, {nw := true}, {}, {}, {}, {}, {nw := true}, {nw := true}, {nw := true}], 2, [2, 3, 4], []⟩)]),
  (134, [(0, ⟨[{fr := true}], 1, [1, 2], []⟩), (1, ⟨[{}, {}, {}, {}, {}, {}, {}, {}, {}, {fr := true}], 1, [1, 2], []⟩)]),
  (135, [(0, ⟨[], 1, [1, 4], []⟩), (1, ⟨[{}, {}, {}, {}, {fz := true}, {}, {nw := true}], 1, [1, 4], []⟩)]),
  (136, [(0, ⟨[], 1, [1, 2], []⟩), (1, ⟨[], 1, [1, 2], []⟩)]),
  (137, [(0, ⟨[], 1, [1, 4, 5], []⟩), (1, ⟨[], 1, [1, 4, 5], []⟩)]),
  (138, [(0, ⟨[], 1, [1, 4], []⟩), (1, ⟨[], 1, [1, 4], []⟩)]),
  (139, [(0, ⟨[], 1, [2, 3, 18], []⟩), (1, ⟨[{}, {}, {}, {}, {}, {}, {}, {sym := true}, {sym := true}, {sym := true}, {sym := true}, {sym := true}, {sym := true}, {sym := true}], 1, [2, 3, 18], []⟩), (2, ⟨[], 1, [2, 3, 18], []⟩), (3, ⟨[], 1, [2, 3, 18], []⟩), (4, ⟨[], 1, [2, 3, 18], []⟩), (5, ⟨[], 1, [2, 3, 18], []⟩), (6, ⟨[], 1, [2, 3, 18], []⟩)]),
  (140, [(0, ⟨[], 2, [4, 5, 9], []⟩), (1, ⟨[], 2, [4, 5, 9], []⟩), (2, ⟨[], 2, [4, 5, 9], []⟩), (4, ⟨[{}, {nw := true}, {}, {}, {}, {}, {}, {nw := true}], 2, [4, 5, 9], []⟩), (3, ⟨[{}, {nw := true}], 2, [4, 5, 9], []⟩), (5, ⟨[{}, {nw := true}], 2, [4, 5, 9], []⟩)]),
  (141, [(0, ⟨[], 6, [22, 26, 38], []⟩), (1, ⟨[{}, {}, {}, {sym := true}, {sym := true}, {sym := true}, {}, {}, {sym := true}, {sym := true}, {sym := true}, {sym := true}, {sym := true}, {sym := true}, {sym := true}, {sym := true}], 6, [22, 26, 38], []⟩), (2, ⟨[], 6, [22, 26, 38], []⟩), (3, ⟨[], 6, [22, 26, 38], []⟩), (4, ⟨[], 6, [22, 26, 38], []⟩), (5, ⟨[], 6, [22, 26, 38], []⟩), (7, ⟨[{}, {}, {}, {}, {}, {sym := true}, {sym := true}, {sym := true}, {sym := true}], 6, [22, 26, 38], []⟩), (8, ⟨[], 6, [22, 26, 38], []⟩), (9, ⟨[{}, {nw := true}, {}, {}, {}, {nw := true}, {}, {nw := true}], 6, [22, 26, 38], []⟩), (6, ⟨[{}, {nw := true}], 6, [22, 26, 38], []⟩), (10, ⟨[], 6, [22, 26, 38], []⟩)]),
  (142, [(0, ⟨[], 2, [2, 3, 8], []⟩), (1, ⟨[{}, {}, {}, {nw := true}, {}, {nw := true}, {}, {}, {nw := true}], 2, [2, 3, 8], []⟩)]),
  (143, [(0, ⟨[], 2, [4, 5, 13], []⟩), (1, ⟨[{}, {}, {nw := true}], 2, [4, 5, 13], []⟩), (2, ⟨[{}, {}, {nw := true}], 2, [4, 5, 13], []⟩), (3, ⟨[{}, {nw := true}], 2, [4, 5, 13], []⟩), (4, ⟨[], 2, [4, 5, 13], []⟩)]),
  (144, [(0, ⟨[], 5, [6, 12, 24], []⟩), (1, ⟨[], 5, [6, 12, 24], []⟩), (3, ⟨[], 5, [6, 12, 24], []⟩), (2, ⟨[{}, {nw := true}], 5, [6, 12, 24], []⟩)]),
  (145, [(0, ⟨[], 3, [6, 7, 8], []⟩), (1, ⟨[], 3, [6, 7, 8], []⟩), (2, ⟨[{}, {}, {nw := true}, {}, {}, {nw := true}, {}, {}, {}, {nw := true}, {}, {}, {nw := true}], 3, [6, 7, 8], []⟩)]),
  (146, [(0, ⟨[], 4, [4, 7, 15], []⟩), (1, ⟨[], 4, [4, 7, 15], []⟩), (2, ⟨[], 4, [4, 7, 15], []⟩), (3, ⟨[], 4, [4, 7, 15], []⟩), (4, ⟨[], 4, [4, 7, 15], []⟩), (5, ⟨[], 4, [4, 7, 15], []⟩), (7, ⟨[], 4, [4, 7, 15], []⟩), (6, ⟨[{}, {nw := true}], 4, [4, 7, 15], []⟩), (8, ⟨[], 4, [4, 7, 15], []⟩)]),
  (147, [(0, ⟨[], 4, [4, 7, 15], []⟩), (1, ⟨[], 4, [4, 7, 15], []⟩), (2, ⟨[], 4, [4, 7, 15], []⟩), (3, ⟨[], 4, [4, 7, 15], []⟩), (4, ⟨[], 4, [4, 7, 15], []⟩), (5, ⟨[], 4, [4, 7, 15], []⟩), (7, ⟨[], 4, [4, 7, 15], []⟩), (6, ⟨[{}, {nw := true}], 4, [4, 7, 15], []⟩), (8, ⟨[], 4, [4, 7, 15], []⟩)]),
  (148, [(0, ⟨[], 6, [13, 17, 67], []⟩), (1, ⟨[{}, {}, {}, {}, {sym := true}, {sym := true}, {sym := true}], 6, [13, 17, 67], []⟩), (2, ⟨[], 6, [13, 17, 67], []⟩), (3, ⟨[], 6, [13, 17, 67], []⟩), (4, ⟨[], 6, [13, 17, 67], []⟩), (6, ⟨[{}, {}, {}, {}, {}, {sym := true}, {sym := true}, {sym := true}, {sym := true}, {}, {}, {sym := true}, {sym := true}, {sym := true}, {sym := true}, {sym := true}, {sym := true}, {sym := true}, {sym := true}, {sym := true}, {sym := true}], 6, [13, 17, 67], []⟩), (7, ⟨[{}, {}, {}, {}, {}, {sym := true}, {sym := true}, {sym := true}, {sym := true}, {}, {}, {sym := true}, {sym := true}, {sym := true}, {sym := true}], 6, [13, 17, 67], []⟩), (8, ⟨[{}, {}, {}, {sym := true}, {sym := true}, {sym := true}, {sym := true}, {sym := true}, {sym := true}], 6, [13, 17, 67], []⟩), (9, ⟨[], 6, [13, 17, 67], []⟩), (5, ⟨[{}, {nw := true}], 6, [13, 17, 67], []⟩), (10, ⟨[], 6, [13, 17, 67], []⟩)]),
  (149, [(0, ⟨[], 8, [8, 9, 16], []⟩), (1, ⟨[], 8, [8, 9, 16], []⟩), (2, ⟨[], 8, [8, 9, 16], []⟩), (3, ⟨[], 8, [8, 9, 16], []⟩), (4, ⟨[], 8, [8, 9, 16], []⟩), (5, ⟨[], 8, [8, 9, 16], []⟩), (6, ⟨[{nw := true}], 8, [8, 9, 16], []⟩), (7, ⟨[], 8, [8, 9, 16], []⟩)]),
  (150, [(0, ⟨[{fr := true}], 1, [1, 2, 3], []⟩), (1, ⟨[], 1, [1, 2, 3], []⟩)]),
  (151, [(0, ⟨[], 1, [1, 2, 6], []⟩), (1, ⟨[{}, {}, {}, {}, {sym := true}, {sym := true}, {sym := true}], 1, [1, 2, 6], []⟩)]),
  (152, [(0, ⟨[], 9, [9, 10, 11], []⟩), (1, ⟨[], 9, [9, 10, 11], []⟩), (2, ⟨[], 9, [9, 10, 11], []⟩), (3, ⟨[], 9, [9, 10, 11], []⟩), (4, ⟨[], 9, [9, 10, 11], []⟩), (5, ⟨[{}, {}, {}, {}, {fr := true}], 9, [9, 10, 11], []⟩), (6, ⟨[{nw := true}], 9, [9, 10, 11], []⟩), (7, ⟨[], 9, [9, 10, 11], []⟩)]),
  (153, [(0, ⟨[], 1, [1, 3], []⟩), (1, ⟨[], 1, [1, 3], []⟩)]),
  (154, [(0, ⟨[], 9, [9, 10, 11], []⟩), (1, ⟨[], 9, [9, 10, 11], []⟩), (2, ⟨[], 9, [9, 10, 11], []⟩), (3, ⟨[], 9, [9, 10, 11], []⟩), (4, ⟨[], 9, [9, 10, 11], [7]⟩), (5, ⟨[{}, {}, {}, {}, {fr := true}], 9, [9, 10, 11], []⟩), (6, ⟨[{nw := true}], 9, [9, 10, 11], []⟩), (7, ⟨[], 9, [9, 10, 11], []⟩)]),
  (155, [(0, ⟨[{fr := true}], 2, [2, 3, 4], []⟩), (1, ⟨[], 2, [2, 3, 4], []⟩)]),
  (156, [(0, ⟨[{fr := true}], 1, [1, 3, 4], []⟩), (1, ⟨[], 1, [1, 3, 4], []⟩)]),
  (157, [(0, ⟨[], 9, [9, 10, 11], []⟩), (1, ⟨[], 9, [9, 10, 11], []⟩), (2, ⟨[], 9, [9, 10, 11], []⟩), (3, ⟨[], 9, [9, 10, 11], []⟩), (4, ⟨[], 9, [9, 10, 11], [7]⟩), (5, ⟨[{}, {}, {}, {}, {fr := true}], 9, [9, 10, 11], []⟩), (6, ⟨[{nw := true}], 9, [9, 10, 11], []⟩), (7, ⟨[], 9, [9, 10, 11], []⟩)]),
  (158, [(0, ⟨[{fr := true}], 1, [1, 2], []⟩), (1, ⟨[], 1, [1, 2], []⟩)]),
  (159, [(0, ⟨[], 13, [13, 16, 19], []⟩), (1, ⟨[], 13, [13, 16, 19], []⟩), (2, ⟨[], 13, [13, 16, 19], []⟩), (3, ⟨[], 13, [13, 16, 19], []⟩), (4, ⟨[], 13, [13, 16, 19], []⟩), (5, ⟨[], 13, [13, 16, 19], []⟩), (6, ⟨[], 13, [13, 16, 19], []⟩), (7, ⟨[], 13, [13, 16, 19], []⟩), (8, ⟨[], 13, [13, 16, 19], []⟩), (9, ⟨[], 13, [13, 16, 19], []⟩), (10, ⟨[], 13, [13, 16, 19], []⟩), (11, ⟨[], 13, [13, 16, 19], []⟩), (12, ⟨[], 13, [13, 16, 19], []⟩), (13, ⟨[], 13, [13, 16, 19], []⟩)]),
  (160, [(0, ⟨[], 2, [4, 6, 16], []⟩), (1, ⟨[], 2, [4, 6, 16], []⟩), (2, ⟨[], 2, [4, 6, 16], []⟩), (3, ⟨[{}, {}, {}, {}, {}, {nw := true}, {nw := true}], 2, [4, 6, 16], []⟩), (4, ⟨[], 2, [4, 6, 16], []⟩), (5, ⟨[{}, {}, {}, {}, {}, {fz := true}], 2, [4, 6, 16], []⟩), (6, ⟨[], 2, [4, 6, 16], []⟩)]),
  (161, [(0, ⟨[], 64, [64, 65, 66], []⟩), (1, ⟨[], 64, [64, 65, 66], []⟩), (2, ⟨[], 64, [64, 65, 66], []⟩), (3, ⟨[], 64, [64, 65, 66], []⟩), (4, ⟨[], 64, [64, 65, 66], []⟩), (5, ⟨[], 64, [64, 65, 66], []⟩), (6, ⟨[], 64, [64, 65, 66], []⟩), (7, ⟨[], 64, [64, 65, 66], []⟩), (8, ⟨[{}, {}, {}, {}, {nw := true}, {nw := true}], 64, [64, 65, 66], []⟩), (9, ⟨[], 64, [64, 65, 66], []⟩), (10, ⟨[{}, {}, {}, {}, {}, {nw := true}, {nw := true}, {nw := true}], 64, [64, 65, 66], []⟩), (11, ⟨[], 64, [64, 65, 66], []⟩), (12, ⟨[], 64, [64, 65, 66], []⟩), (13, ⟨[], 64, [64, 65, 66], []⟩), (14, ⟨[{}, {}, {}, {nw := true}], 64, [64, 65, 66], []⟩), (15, ⟨[], 64, [64, 65, 66], []⟩), (16, ⟨[{}, {}, {}, {nw := true}], 64, [64, 65, 66], []⟩), (17, ⟨[{nw := true}], 64, [64, 65, 66], []⟩), (18, ⟨[], 64, [64, 65, 66], []⟩), (19, ⟨[], 64, [64, 65, 66], []⟩), (20, ⟨[], 64, [64, 65, 66], []⟩), (21, ⟨[], 64, [64, 65, 66], []⟩), (22, ⟨[], 64, [64, 65, 66], []⟩), (23, ⟨[], 64, [64, 65, 66], []⟩), (24, ⟨[], 64, [64, 65, 66], []⟩), (25, ⟨[], 64, [64, 65, 66], []⟩), (26, ⟨[{nw := true}], 64, [64, 65, 66], []⟩), (27, ⟨[], 64, [64, 65, 66], []⟩)]),
  (162, [(0, ⟨[], 9, [9, 10, 11], []⟩), (1, ⟨[], 9, [9, 10, 11], []⟩), (2, ⟨[], 9, [9, 10, 11], []⟩), (3, ⟨[], 9, [9, 10, 11], []⟩), (4, ⟨[], 9, [9, 10, 11], []⟩), (5, ⟨[{}, {}, {}, {}, {fr := true}], 9, [9, 10, 11], []⟩), (6, ⟨[{nw := true}], 9, [9, 10, 11], []⟩), (7, ⟨[], 9, [9, 10, 11], []⟩)]),
  (163, [(0, ⟨[], 1, [2], []⟩), (1, ⟨[], 1, [2], []⟩)]),
  (164, [(0, ⟨[], 5, [7, 11, 24], []⟩), (1, ⟨[], 5, [7, 11, 24], []⟩), (2, ⟨[], 5, [7, 11, 24], []⟩), (3, ⟨[], 5, [7, 11, 24], []⟩), (4, ⟨[{}, {}, {nw := true}, {}, {}, {}, {nw := true}], 5, [7, 11, 24], []⟩), (5, ⟨[], 5, [7, 11, 24], []⟩), (6, ⟨[], 5, [7, 11, 24], []⟩)]),
  (165, [(0, ⟨[], 1, [1, 4], []⟩), (1, ⟨[], 1, [1, 4], []⟩)]),
  (166, [(0, ⟨[], 2, [4, 5, 9], []⟩), (1, ⟨[], 2, [4, 5, 9], []⟩), (2, ⟨[], 2, [4, 5, 9], []⟩), (3, ⟨[{}, {}, {}, {}, {}, {nw := true}], 2, [4, 5, 9], []⟩)]),
  (167, [(0, ⟨[], 16, [20, 36, 41], []⟩), (1, ⟨[], 16, [20, 36, 41], []⟩), (2, ⟨[], 16, [20, 36, 41], []⟩), (3, ⟨[], 16, [20, 36, 41], []⟩), (4, ⟨[], 16, [20, 36, 41], []⟩), (5, ⟨[], 16, [20, 36, 41], []⟩), (6, ⟨[{}, {}, {}, {nw := true}], 16, [20, 36, 41], []⟩), (7, ⟨[{}, {}, {}, {nw := true}], 16, [20, 36, 41], []⟩), (8, ⟨[], 16, [20, 36, 41], []⟩), (9, ⟨[{}, {nw := true}], 16, [20, 36, 41], []⟩), (10, ⟨[], 16, [20, 36, 41], []⟩), (11, ⟨[], 16, [20, 36, 41], []⟩), (12, ⟨[], 16, [20, 36, 41], []⟩), (13, ⟨[], 16, [20, 36, 41], []⟩), (14, ⟨[{}, {}, {}, {}, {}, {nw := true}], 16, [20, 36, 41], []⟩), (15, ⟨[{}, {}, {}, {}, {nw := true}], 16, [20, 36, 41], []⟩), (16, ⟨[{}, {nw := true}], 16, [20, 36, 41], []⟩), (17, ⟨[], 16, [20, 36, 41], []⟩), (18, ⟨[{}, {}, {nw := true}], 16, [20, 36, 41], []⟩)]),
  (168, [(0, ⟨[], 5, [6, 9, 25], []⟩), (1, ⟨[], 5, [6, 9, 25], []⟩), (2, ⟨[], 5, [6, 9, 25], []⟩), (3, ⟨[], 5, [6, 9, 25], []⟩), (4, ⟨[], 5, [6, 9, 25], []⟩), (5, ⟨[], 5, [6, 9, 25], []⟩), (7, ⟨[{}, {}, {}, {}, {nw := true}, {}, {nw := true}, {}, {fr := true}, {}, {}, {nw := true}], 5, [6, 9, 25], []⟩), (6, ⟨[{}, {nw := true}], 5, [6, 9, 25], []⟩), (8, ⟨[], 5, [6, 9, 25], []⟩), (9, ⟨[{}, {nw := true}], 5, [6, 9, 25], []⟩), (10, ⟨[], 5, [6, 9, 25], []⟩)]),
  (169, [(0, ⟨[], 1, [1, 4, 5], []⟩), (1, ⟨[], 1, [1, 4, 5], []⟩), (2, ⟨[], 1, [1, 4, 5], []⟩), (3, ⟨[], 1, [1, 4, 5], []⟩)]),
  (170, [(0, ⟨[], 8, [8, 9, 16], []⟩), (1, ⟨[], 8, [8, 9, 16], []⟩), (2, ⟨[], 8, [8, 9, 16], []⟩), (3, ⟨[], 8, [8, 9, 16], []⟩), (4, ⟨[], 8, [8, 9, 16], []⟩), (5, ⟨[], 8, [8, 9, 16], []⟩), (6, ⟨[{nw := true}], 8, [8, 9, 16], []⟩), (7, ⟨[], 8, [8, 9, 16], []⟩)]),
  (171, [(0, ⟨[{fr := true}], 1, [1, 2, 3], []⟩), (1, ⟨[], 1, [1, 2, 3], []⟩)]),
  (172, [(0, ⟨[], 1, [2], []⟩), (1, ⟨[], 1, [2], []⟩)]),
  (173, [(0, ⟨[], 1, [1, 7, 21], []⟩), (1, ⟨[], 1, [1, 7, 21], []⟩), (2, ⟨[], 1, [1, 7, 21], []⟩), (3, ⟨[{}, {}, {}, {}, {}, {}, {}, {}, {}, {}, {nw := true}], 1, [1, 7, 21], []⟩), (4, ⟨[], 1, [1, 7, 21], []⟩)]),
  (174, [(0, ⟨[], 1, [1, 4, 5], []⟩), (1, ⟨[], 1, [1, 4, 5], []⟩), (2, ⟨[{}, {}, {}, {}, {}, {}, {fz := true}], 1, [1, 4, 5], []⟩), (3, ⟨[], 1, [1, 4, 5], []⟩)]),
  (175, [(0, ⟨[], 1, [2], []⟩), (1, ⟨[], 1, [2], []⟩)]),
  (176, [(0, ⟨[], 1, [2], []⟩), (1, ⟨[], 1, [2], []⟩)]),
  (177, [(0, ⟨[], 1, [1, 4], []⟩), (1, ⟨[], 1, [1, 4], []⟩)]),
  (178, [(0, ⟨[], 1, [1, 4], []⟩), (1, ⟨[{}, {}, {}, {}, {}, {}, {sym := true}, {sym := true}, {sym := true}, {sym := true}, {sym := true}, {nw := true, sym := true}, {sym := true}, {sym := true}, {sym := true}], 1, [1, 4], []⟩)]),
  (179, [(0, ⟨[], 10, [18, 25, 43], []⟩), (1, ⟨[], 10, [18, 25, 43], []⟩), (2, ⟨[{}, {}, {}, {sym := true}, {sym := true}, {sym := true}], 10, [18, 25, 43], []⟩), (3, ⟨[], 10, [18, 25, 43], []⟩), (4, ⟨[], 10, [18, 25, 43], []⟩), (5, ⟨[], 10, [18, 25, 43], []⟩), (6, ⟨[{}, {}, {nw := true}], 10, [18, 25, 43], []⟩), (8, ⟨[], 10, [18, 25, 43], []⟩), (9, ⟨[], 10, [18, 25, 43], []⟩), (10, ⟨[], 10, [18, 25, 43], []⟩), (7, ⟨[{}, {nw := true}], 10, [18, 25, 43], []⟩), (11, ⟨[], 10, [18, 25, 43], []⟩), (12, ⟨[{}, {}, {nw := true}], 10, [18, 25, 43], []⟩), (13, ⟨[], 10, [18, 25, 43], []⟩)]),
  (180, [(0, ⟨[], 7, [9, 15, 24], []⟩), (1, ⟨[], 7, [9, 15, 24], []⟩), (2, ⟨[{}, {}, {nw := true}], 7, [9, 15, 24], []⟩), (3, ⟨[], 7, [9, 15, 24], []⟩), (4, ⟨[], 7, [9, 15, 24], []⟩), (5, ⟨[], 7, [9, 15, 24], []⟩), (6, ⟨[], 7, [9, 15, 24], []⟩), (7, ⟨[], 7, [9, 15, 24], []⟩), (8, ⟨[], 7, [9, 15, 24], []⟩), (9, ⟨[{}, {nw := true}], 7, [9, 15, 24], []⟩), (10, ⟨[{}, {}, {}, {}, {nw := true}], 7, [9, 15, 24], []⟩)]),
  (181, [(0, ⟨[], 1, [1, 4], []⟩), (1, ⟨[], 1, [1, 4], []⟩)]),
  (182, [(0, ⟨[], 1, [6, 19], []⟩), (1, ⟨[], 1, [6, 19], []⟩), (2, ⟨[], 1, [6, 19], []⟩)]),
  (183, [(0, ⟨[{}, {}, {}, {}, {}, {nw := true}, {}, {nw := true}], 1, [1, 4], []⟩), (1, ⟨[], 1, [1, 4], []⟩), (2, ⟨[], 1, [1, 4], []⟩)]),
  (184, [(0, ⟨[], 12, [17, 23, 34], []⟩), (1, ⟨[], 12, [17, 23, 34], []⟩), (2, ⟨[{}, {}, {}, {sym := true}, {sym := true}], 12, [17, 23, 34], []⟩), (3, ⟨[], 12, [17, 23, 34], []⟩), (4, ⟨[], 12, [17, 23, 34], []⟩), (5, ⟨[], 12, [17, 23, 34], []⟩), (6, ⟨[], 12, [17, 23, 34], []⟩), (7, ⟨[{}, {nw := true}], 12, [17, 23, 34], []⟩), (8, ⟨[], 12, [17, 23, 34], []⟩), (9, ⟨[{}, {nw := true}], 12, [17, 23, 34], []⟩), (10, ⟨[], 12, [17, 23, 34], []⟩), (11, ⟨[], 12, [17, 23, 34], []⟩), (12, ⟨[{}, {nw := true}], 12, [17, 23, 34], []⟩), (13, ⟨[{}, {nw := true}], 12, [17, 23, 34], []⟩), (14, ⟨[], 12, [17, 23, 34], []⟩), (15, ⟨[], 12, [17, 23, 34], []⟩)]),
  (186, [(0, ⟨[], 1, [2, 4, 6], []⟩), (1, ⟨[], 1, [2, 4, 6], []⟩), (2, ⟨[], 1, [2, 4, 6], []⟩), (3, ⟨[{}, {nw := true}], 1, [2, 4, 6], []⟩), (4, ⟨[], 1, [2, 4, 6], []⟩)]),
  (187, [(0, ⟨[], 1, [2, 3, 10], []⟩), (1, ⟨[{}, {}, {}, {sym := true}, {sym := true}, {sym := true}], 1, [2, 3, 10], []⟩), (2, ⟨[], 1, [2, 3, 10], []⟩), (3, ⟨[], 1, [2, 3, 10], []⟩)]),
  (189, [(0, ⟨[], 108, [114, 132, 139], []⟩), (1, ⟨[], 108, [114, 132, 139], []⟩), (2, ⟨[{}, {}, {}, {sym := true}, {sym := true}, {sym := true}], 108, [114, 132, 139], []⟩), (3, ⟨[], 108, [114, 132, 139], []⟩), (4, ⟨[], 108, [114, 132, 139], []⟩), (5, ⟨[], 108, [114, 132, 139], []⟩), (6, ⟨[], 108, [114, 132, 139], []⟩), (7, ⟨[], 108, [114, 132, 139], []⟩), (8, ⟨[{}, {}, {}, {}, {sym := true}, {sym := true}, {sym := true}], 108, [114, 132, 139], []⟩), (9, ⟨[], 108, [114, 132, 139], []⟩), (10, ⟨[], 108, [114, 132, 139], []⟩), (11, ⟨[], 108, [114, 132, 139], []⟩), (12, ⟨[], 108, [114, 132, 139], []⟩), (13, ⟨[{}, {}, {}, {nw := true}, {nw := true}], 108, [114, 132, 139], []⟩), (14, ⟨[], 108, [114, 132, 139], []⟩), (15, ⟨[], 108, [114, 132, 139], []⟩), (16, ⟨[], 108, [114, 132, 139], []⟩), (17, ⟨[{}, {}, {nw := true}], 108, [114, 132, 139], []⟩), (18, ⟨[], 108, [114, 132, 139], []⟩), (19, ⟨[], 108, [114, 132, 139], []⟩), (20, ⟨[{}, {}, {nw := true}, {nw := true}], 108, [114, 132, 139], []⟩), (21, ⟨[{}, {}, {nw := true}, {}, {}, {}, {}, {sym := true}, {sym := true}, {sym := true}, {sym := true}, {nw := true, sym := true}, {sym := true}, {sym := true}, {sym := true}], 108, [114, 132, 139], []⟩), (22, ⟨[], 108, [114, 132, 139], []⟩), (23, ⟨[{}, {nw := true}], 108, [114, 132, 139], []⟩), (24, ⟨[{}, {nw := true}], 108, [114, 132, 139], []⟩), (25, ⟨[{}, {}, {}, {}, {sym := true}, {sym := true}, {sym := true}, {sym := true}], 108, [114, 132, 139], []⟩), (26, ⟨[], 108, [114, 132, 139], []⟩), (27, ⟨[], 108, [114, 132, 139], []⟩), (28, ⟨[{}, {}, {nw := true}], 108, [114, 132, 139], []⟩), (29, ⟨[], 108, [114, 132, 139], []⟩), (30, ⟨[{}, {}, {}, {}, {sym := true}, {sym := true}, {sym := true}, {nw := true, sym := true}, {sym := true}, {}, {}, {sym := true}, {sym := true}, {sym := true}], 108, [114, 132, 139], []⟩), (31, ⟨[], 108, [114, 132, 139], []⟩), (32, ⟨[], 108, [114, 132, 139], []⟩), (33, ⟨[], 108, [114, 132, 139], []⟩), (34, ⟨[{}, {}, {nw := true}], 108, [114, 132, 139], []⟩), (35, ⟨[], 108, [114, 132, 139], []⟩)]),
  (192, [(0, ⟨[], 1, [2, 4], []⟩), (1, ⟨[], 1, [2, 4], []⟩), (2, ⟨[{}, {}, {nw := true}], 1, [2, 4], []⟩), (3, ⟨[{}, {nw := true}, {}, {nw := true}, {nw := true}], 1, [2, 4], []⟩)]),
  (193, [(0, ⟨[], 1, [2, 3], []⟩), (1, ⟨[], 1, [2, 3], []⟩), (2, ⟨[{}, {}, {}, {}, {}, {}, {}, {nw := true}], 1, [2, 3], []⟩)]),
  (194, [(0, ⟨[], 21, [99, 139, 161], []⟩), (1, ⟨[], 21, [99, 139, 161], []⟩), (2, ⟨[], 21, [99, 139, 161], []⟩), (3, ⟨[{}, {nw := true}], 21, [99, 139, 161], []⟩), (4, ⟨[{}, {nw := true}], 21, [99, 139, 161], []⟩), (5, ⟨[{}, {nw := true}, {nw := true}, {}, {}, {nw := true}], 21, [99, 139, 161], []⟩), (6, ⟨[{}, {nw := true}, {nw := true}, {}, {}, {nw := true}], 21, [99, 139, 161], []⟩), (7, ⟨[{}, {}, {nw := true}, {}, {}, {nw := true}, {}, {nw := true}], 21, [99, 139, 161], []⟩), (8, ⟨[{}, {}, {nw := true}, {}, {}, {nw := true}, {}, {nw := true}], 21, [99, 139, 161], []⟩), (9, ⟨[{}, {}, {nw := true}, {}, {}, {nw := true}, {}, {nw := true}], 21, [99, 139, 161], []⟩), (10, ⟨[{}, {}, {nw := true}, {}, {}, {nw := true}, {}, {nw := true}], 21, [99, 139, 161], []⟩), (11, ⟨[{}, {nw := true}], 21, [99, 139, 161], []⟩), (12, ⟨[], 21, [99, 139, 161], []⟩), (13, ⟨[], 21, [99, 139, 161], []⟩), (14, ⟨[], 21, [99, 139, 161], []⟩), (15, ⟨[{}, {nw := true}], 21, [99, 139, 161], []⟩), (16, ⟨[{}, {nw := true}, {nw := true}, {}, {}, {nw := true}], 21, [99, 139, 161], []⟩), (17, ⟨[{}, {}, {nw := true}, {}, {}, {nw := true}, {}, {nw := true}], 21, [99, 139, 161], []⟩), (18, ⟨[{}, {}, {nw := true}, {}, {}, {nw := true}, {}, {nw := true}], 21, [99, 139, 161], []⟩), (19, ⟨[{}, {nw := true}], 21, [99, 139, 161], []⟩), (20, ⟨[], 21, [99, 139, 161], []⟩), (21, ⟨[{}, {}, {nw := true}], 21, [99, 139, 161], []⟩), (22, ⟨[{}, {nw := true}], 21, [99, 139, 161], []⟩), (23, ⟨[{}, {}, {nw := true}, {}, {}, {nw := true}, {}, {nw := true}], 21, [99, 139, 161], []⟩), (24, ⟨[{}, {nw := true}], 21, [99, 139, 161], []⟩), (25, ⟨[], 21, [99, 139, 161], []⟩), (26, ⟨[{}, {}, {nw := true}], 21, [99, 139, 161], []⟩)]),
  (195, [(0, ⟨[], 47, [68, 89, 94], []⟩), (1, ⟨[{}, {}, {}, {sym := true}, {sym := true}, {}, {}, {sym := true}, {sym := true}], 47, [68, 89, 94], []⟩), (2, ⟨[], 47, [68, 89, 94], []⟩), (3, ⟨[], 47, [68, 89, 94], []⟩), (4, ⟨[], 47, [68, 89, 94], []⟩), (5, ⟨[], 47, [68, 89, 94], []⟩), (6, ⟨[{}, {nw := true}], 47, [68, 89, 94], []⟩), (7, ⟨[], 47, [68, 89, 94], []⟩), (8, ⟨[], 47, [68, 89, 94], []⟩), (9, ⟨[], 47, [68, 89, 94], []⟩), (10, ⟨[{}, {}, {nw := true}], 47, [68, 89, 94], []⟩), (11, ⟨[], 47, [68, 89, 94], []⟩), (12, ⟨[{}, {nw := true}], 47, [68, 89, 94], []⟩), (13, ⟨[], 47, [68, 89, 94], []⟩), (14, ⟨[], 47, [68, 89, 94], []⟩), (15, ⟨[{}, {nw := true}], 47, [68, 89, 94], []⟩), (16, ⟨[], 47, [68, 89, 94], []⟩), (17, ⟨[], 47, [68, 89, 94], []⟩), (18, ⟨[], 47, [68, 89, 94], []⟩), (19, ⟨[{}, {nw := true}], 47, [68, 89, 94], []⟩), (20, ⟨[{}, {}, {nw := true}], 47, [68, 89, 94], []⟩), (21, ⟨[{}, {}, {}, {}, {nw := true}, {nw := true}], 47, [68, 89, 94], []⟩), (22, ⟨[], 47, [68, 89, 94], []⟩), (23, ⟨[{}, {nw := true}], 47, [68, 89, 94], []⟩), (24, ⟨[], 47, [68, 89, 94], []⟩), (25, ⟨[], 47, [68, 89, 94], []⟩), (26, ⟨[{}, {nw := true}], 47, [68, 89, 94], []⟩), (27, ⟨[], 47, [68, 89, 94], []⟩), (28, ⟨[], 47, [68, 89, 94], []⟩), (29, ⟨[{}, {}, {}, {fz := true}], 47, [68, 89, 94], []⟩), (30, ⟨[], 47, [68, 89, 94], []⟩)]),
  (196, [(0, ⟨[], 60, [75, 77, 98], []⟩), (1, ⟨[], 60, [75, 77, 98], []⟩), (2, ⟨[], 60, [75, 77, 98], []⟩), (3, ⟨[], 60, [75, 77, 98], []⟩), (4, ⟨[], 60, [75, 77, 98], []⟩), (5, ⟨[], 60, [75, 77, 98], []⟩), (6, ⟨[], 60, [75, 77, 98], []⟩), (7, ⟨[], 60, [75, 77, 98], []⟩), (8, ⟨[], 60, [75, 77, 98], []⟩), (9, ⟨[], 60, [75, 77, 98], []⟩), (10, ⟨[], 60, [75, 77, 98], [9]⟩), (11, ⟨[], 60, [75, 77, 98], []⟩), (12, ⟨[], 60, [75, 77, 98], []⟩), (13, ⟨[], 60, [75, 77, 98], []⟩), (14, ⟨[{}, {}, {}, {}, {}, {sym := true}, {sym := true}, {sym := true}, {sym := true}], 60, [75, 77, 98], []⟩), (15, ⟨[], 60, [75, 77, 98], []⟩), (16, ⟨[], 60, [75, 77, 98], []⟩), (17, ⟨[], 60, [75, 77, 98], []⟩), (18, ⟨[], 60, [75, 77, 98], []⟩), (19, ⟨[{}, {}, {}, {sym := true}, {sym := true}], 60, [75, 77, 98], []⟩), (20, ⟨[], 60, [75, 77, 98], []⟩), (21, ⟨[], 60, [75, 77, 98], []⟩), (22, ⟨[], 60, [75, 77, 98], []⟩), (23, ⟨[], 60, [75, 77, 98], []⟩), (24, ⟨[{}, {}, {}, {sym := true}, {sym := true}], 60, [75, 77, 98], []⟩), (25, ⟨[], 60, [75, 77, 98], []⟩), (26, ⟨[], 60, [75, 77, 98], []⟩)]),
  (198, [(0, ⟨[], 1, [2], []⟩), (1, ⟨[{}, {nw := true}, {nw := true}], 1, [2], []⟩)]),
  (199, [(0, ⟨[], 21, [39, 44, 77], []⟩), (1, ⟨[], 21, [39, 44, 77], []⟩), (2, ⟨[], 21, [39, 44, 77], []⟩), (3, ⟨[], 21, [39, 44, 77], []⟩), (4, ⟨[], 21, [39, 44, 77], []⟩), (5, ⟨[], 21, [39, 44, 77], []⟩), (7, ⟨[{}, {nw := true}, {}, {}, {}, {}, {nw := true}], 21, [39, 44, 77], []⟩), (6, ⟨[{}, {nw := true}], 21, [39, 44, 77], []⟩), (8, ⟨[{}, {}, {}, {}, {sym := true}, {sym := true}, {sym := true}, {sym := true}, {sym := true}], 21, [39, 44, 77], []⟩), (9, ⟨[], 21, [39, 44, 77], []⟩), (10, ⟨[], 21, [39, 44, 77], []⟩), (11, ⟨[], 21, [39, 44, 77], []⟩), (12, ⟨[{}, {nw := true}], 21, [39, 44, 77], []⟩), (13, ⟨[{}, {}, {}, {}, {}, {nw := true}], 21, [39, 44, 77], []⟩), (14, ⟨[{}, {}, {}, {}, {}, {nw := true}, {}, {}, {nw := true}, {nw := true}], 21, [39, 44, 77], []⟩), (15, ⟨[{}, {nw := true}], 21, [39, 44, 77], []⟩), (16, ⟨[{}, {}, {}, {}, {sym := true}, {sym := true}, {sym := true}, {nw := true, sym := true}, {sym := true}, {sym := true}, {sym := true}, {sym := true}], 21, [39, 44, 77], []⟩), (17, ⟨[{}, {}, {nw := true}], 21, [39, 44, 77], []⟩), (18, ⟨[], 21, [39, 44, 77], []⟩)]),
  (200, [(0, ⟨[], 1, [2], []⟩), (1, ⟨[{}, {nw := true}], 1, [2], []⟩)]),
  (201, [(0, ⟨[], 3, [4, 8, 14], []⟩), (1, ⟨[], 3, [4, 8, 14], []⟩), (2, ⟨[], 3, [4, 8, 14], []⟩), (3, ⟨[], 3, [4, 8, 14], []⟩), (4, ⟨[], 3, [4, 8, 14], []⟩), (5, ⟨[], 3, [4, 8, 14], []⟩), (6, ⟨[{}, {nw := true}], 3, [4, 8, 14], []⟩), (7, ⟨[], 3, [4, 8, 14], []⟩), (8, ⟨[], 3, [4, 8, 14], []⟩), (9, ⟨[{}, {nw := true}], 3, [4, 8, 14], []⟩), (10, ⟨[{}, {}, {}, {}, {}, {nw := true}], 3, [4, 8, 14], []⟩)]),
  (202, [(0, ⟨[], 1, [2, 3], []⟩), (1, ⟨[], 1, [2, 3], []⟩), (2, ⟨[], 1, [2, 3], []⟩), (3, ⟨[], 1, [2, 3], []⟩)]),
  (203, [(0, ⟨[], 1, [2], []⟩), (1, ⟨[{}, {}, {nw := true}], 1, [2], []⟩)]),
  (204, [(0, ⟨[], 1, [2], []⟩), (1, ⟨[], 1, [2], []⟩), (2, ⟨[], 1, [2], []⟩)]),
  (205, [(0, ⟨[], 9, [12, 25, 30], []⟩), (1, ⟨[], 9, [12, 25, 30], []⟩), (2, ⟨[], 9, [12, 25, 30], []⟩), (3, ⟨[], 9, [12, 25, 30], []⟩), (5, ⟨[{}, {nw := true}, {}, {}, {}, {}, {nw := true}], 9, [12, 25, 30], []⟩), (4, ⟨[{}, {nw := true}], 9, [12, 25, 30], []⟩), (6, ⟨[], 9, [12, 25, 30], []⟩), (7, ⟨[], 9, [12, 25, 30], []⟩), (8, ⟨[], 9, [12, 25, 30], []⟩), (10, ⟨[], 9, [12, 25, 30], []⟩), (11, ⟨[{}, {}, {nw := true}], 9, [12, 25, 30], []⟩), (12, ⟨[{}, {}, {nw := true}], 9, [12, 25, 30], []⟩), (9, ⟨[], 9, [12, 25, 30], []⟩), (13, ⟨[], 9, [12, 25, 30], []⟩)]),
  (206, [(0, ⟨[], 1, [2, 4], []⟩), (1, ⟨[], 1, [2, 4], []⟩), (2, ⟨[], 1, [2, 4], []⟩), (3, ⟨[{}, {}, {nw := true}, {}, {nw := true}], 1, [2, 4], []⟩)]),
  (207, [(0, ⟨[], 1, [2, 4], []⟩), (1, ⟨[], 1, [2, 4], []⟩), (2, ⟨[], 1, [2, 4], []⟩), (3, ⟨[{}, {}, {nw := true}, {}, {nw := true}], 1, [2, 4], []⟩)])]
/-- The package-level variables: turned, words, uint64pow10. -/
def G0 : List (Nat × List AV) := [(0, [.i 3, .i 1, .i 2, .i 2, .i 0, .i 5, .i (-2), .i 2, .i (-3), .i 0, .i (-1), .i (-1), .i 0, .i (-4), .i 2, .i (-2)]),
  (1, [.str [116, 121, 112, 101], .str [115, 104, 97, 114, 101, 115], .str [100, 105, 114, 101, 99, 116], .str [115, 113, 117, 97, 114, 101, 115], .str [112, 111, 119, 101, 114]]),
  (4, [.int .u64 1, .int .u64 10, .int .u64 100, .int .u64 1000, .int .u64 10000, .int .u64 100000, .int .u64 1000000, .int .u64 10000000, .int .u64 100000000, .int .u64 1000000000, .int .u64 10000000000, .int .u64 100000000000, .int .u64 1000000000000, .int .u64 10000000000000, .int .u64 100000000000000, .int .u64 1000000000000000, .int .u64 10000000000000000, .int .u64 100000000000000000, .int .u64 1000000000000000000, .int .u64 10000000000000000000])]
theorem tok : TOK Tryz.prog T0 := TOK.of_map (by kernel_rfl)
theorem mix : Tryz.prog.follows .mixedOrders = true := by kernel_rfl
def bodyOf (fn : Func) : Code := fn.body.getD .skip
theorem vc_of {p q : Prop} (hq : q) (h : p = q) : p := h ▸ hq

/-- A contract, from what is to be proved of the body. -/
theorem c_of {f : Nat} {args : List AV} {r : AV} (fn : Func) (B : BA) (hf : Tryz.prog.funcs[f]? = some fn) (hb : fn.body = some (bodyOf fn)) (hn : (fn.name == "runtime.NumGoroutine") = false) (hlen : Nat.ble args.length fn.ntmps = true)
    {q : Prop} (hq : q) (h : VC (bodyE Tryz.prog T0 G0 fn.ntmps []) B 10000 0 (bodyOf fn) (startS args) (retQ T0 fn fun v => v = r) = q) : PCall Tryz.prog G0 f args r :=
  call_of_VC tok mix hf hb hn (Nat.le_of_ble_eq_true hlen) B (vc_of hq h)

def setRd : Nat → (List AV → Option AV) → List An → List An
  | 0, f, [] => [{ rd := f }]
  | 0, f, a :: l => { a with rd := f } :: l
  | n + 1, f, [] => {} :: setRd n f []
  | n + 1, f, a :: l => a :: setRd n f l
def addRd : List (Nat × Nat × (List AV → Option AV)) → Nat → RA → RA
  | [], _, ra => ra
  | (i, k, f) :: l, j, ra => addRd l j (if i.beq j then { ra with ans := setRd k f ra.ans } else ra)

/-- How the body of function f is read. -/
def mkB (sp : Nat → List AV → Option AV) (f : Nat) (rds : List (Nat × Nat × (List AV → Option AV))) (la : Nat → Option LA) : BA :=
  { ra := fun i => addRd rds i ((lk i ((lk f F0).getD [])).getD {}), gs := fun _ => [], la := la, fa := none, spec := sp }
def noLa : Nat → Option LA := fun _ => none
end Go.Proofs.YtjhjmncjidbieaaGreatDoor
namespace Go.Proofs.YtjhjmncjidbieaaGreatDoor
open Go Go.Av Go.RowKit
/-- What is handed over for the first n ticks. -/
def hrL (a : Int) (H : Nat → Int) (n : Nat) : List (List AV) := (List.range n).map fun (i : Nat) => [.i (a + i), .i (H i)]
def la144 (l : Nat) (a b : Int) (tc : List AV) (tr : AV) (rx ry rz : Int) (H : Nat → Int) : LA := {
  pre := [.keep [0, 1, 2, 3, 4, 6] [0], .bound 1], post := [.keep [0, 1, 2, 3, 4, 6] [0], .bound 1]
  Gh := Nat
  st := fun i => ⟨[(0, .yld l), (1, .elt 2 [[.i a, .i b]] 0 0), (2, .elt 13 [tc] 0 0), (3, .elt 1 [[tr]] 0 0), (4, .elt 3 [[.i rx, .i ry, .i rz]] 0 0), (6, .i (a + i))], [(0, .ready l (hrL a H i))], 1⟩
  ok := fun i => i ≤ (b - a).toNat
  ms := fun i => (b - a).toNat - i }
def sp144 (a : Int) (S : Nat → List AV) (hd : List AV → Int) : Nat → List AV → Option AV
  | 126, [_, .int _ t] => some (.agg (S (t - a).toNat))
  | 117, [_, .agg s, _] => some (.i (hd s))
  | _, _ => none
def B144 (a b : Int) (tc : List AV) (tr : AV) (rx ry rz : Int) (S : Nat → List AV) (hd : List AV → Int) (l : Nat) : BA :=
  mkB (sp144 a S hd) 144 [] (fun i => if i.beq 0 then some (la144 l a b tc tr rx ry rz fun i => hd (S i)) else none)
theorem s_of {f : Nat} {cap : List AV} {L : List (List AV)} (fn : Func) (B : Nat → BA) (hf : Tryz.prog.funcs[f]? = some fn) (hb : fn.body = some (bodyOf fn)) (hn : (fn.name == "runtime.NumGoroutine") = false) (hlen : Nat.ble (cap.length + 1) fn.ntmps = true) (hres : fn.results.toList = [])
    {q : Nat → Prop} (hq : ∀ l, q l) (h : ∀ l, VC (bodyE Tryz.prog T0 G0 fn.ntmps L) (B l) 10000 0 (bodyOf fn) (startI l cap) (seqQ l L) = q l) : PSeq Tryz.prog G0 f cap L :=
  seq_of_VC tok mix hf hb hn (Nat.le_of_ble_eq_true hlen) hres B fun l => vc_of (hq l) (h l)
theorem hr_succ (a : Int) (H : Nat → Int) (n : Nat) : hrL a H n ++ [[.i (a + n), .i (H n)]] = hrL a H (n + 1) := by
  simp [hrL, List.range_succ]
theorem hr_post (a : Int) (H : Nat → Int) : ∀ {n m : Nat}, n < m → ∃ post, hrL a H m = hrL a H n ++ [.i (a + n), .i (H n)] :: post
  | n, m, h => by
    refine ⟨(List.range' (n + 1) (m - (n + 1))).map fun (i : Nat) => [.i (a + i), .i (H i)], ?_⟩
    rw [← List.singleton_append, ← List.append_assoc, hr_succ]
    unfold hrL
    rw [← List.map_append, List.range_eq_range', List.range_eq_range', show List.range' (n + 1) (m - (n + 1)) = List.range' (0 + (n + 1)) (m - (n + 1)) by rw [Nat.zero_add], List.range'_append_1, show n + 1 + (m - (n + 1)) = m by omega]
theorem s144 (a b : Int) (c0 c1 c2 c3 c4 c5 c6 c7 c8 c9 c10 c11 c12 : AV) (rows : List (List AV)) (rx ry rz : Int) (S : Nat → List AV) (hd : List AV → Int) (ha : -1000000000 ≤ a) (hb : b ≤ 1000000000)
    (h1 : ∀ i : Nat, i < (b - a).toNat → PCall Tryz.prog G0 126 [.sl 5 rows, .i (a + i)] (.agg (S i)))
    (h2 : ∀ i : Nat, i < (b - a).toNat → PCall Tryz.prog G0 117 [.agg [c0, c1, c2, c3, c4, c5, c6, c7, c8, c9, c10, c11, c12], .agg (S i), .agg [.i rx, .i ry, .i rz]] (.i (hd (S i)))) :
    PSeq Tryz.prog G0 144 [.elt 2 [[.i a, .i b]] 0 0, .elt 13 [[c0, c1, c2, c3, c4, c5, c6, c7, c8, c9, c10, c11, c12]] 0 0, .elt 1 [[.sl 5 rows]] 0 0, .elt 3 [[.i rx, .i ry, .i rz]] 0 0] (hrL a (fun i => hd (S i)) (b - a).toNat) := by
  have key : ∀ l : Nat,
      (∃ (g : Nat),
      g ≤ (b - a).toNat ∧
      AS.mk
      [((0 : Nat), AV.yld l),
      ((1 : Nat), AV.elt (2 : Nat) [[AV.int IntKind.i64 a, AV.int IntKind.i64 b]] (0 : Nat) (0 : Nat)),
      ((2 : Nat),
      AV.elt (13 : Nat) [[c0, c1, c2, c3, c4, c5, c6, c7, c8, c9, c10, c11, c12]] (0 : Nat) (0 : Nat)),
      ((3 : Nat), AV.elt (1 : Nat) [[AV.sl (5 : Nat) rows]] (0 : Nat) (0 : Nat)),
      ((4 : Nat),
      AV.elt (3 : Nat) [[AV.int IntKind.i64 rx, AV.int IntKind.i64 ry, AV.int IntKind.i64 rz]] (0 : Nat)
      (0 : Nat)),
      ((6 : Nat), AV.int IntKind.i64 a)]
      [((0 : Nat), ABlk.ready l [])] (1 : Nat) =
      AS.mk
      [((0 : Nat), AV.yld l),
      ((1 : Nat), AV.elt (2 : Nat) [[AV.int IntKind.i64 a, AV.int IntKind.i64 b]] (0 : Nat) (0 : Nat)),
      ((2 : Nat),
      AV.elt (13 : Nat) [[c0, c1, c2, c3, c4, c5, c6, c7, c8, c9, c10, c11, c12]] (0 : Nat) (0 : Nat)),
      ((3 : Nat), AV.elt (1 : Nat) [[AV.sl (5 : Nat) rows]] (0 : Nat) (0 : Nat)),
      ((4 : Nat),
      AV.elt (3 : Nat) [[AV.int IntKind.i64 rx, AV.int IntKind.i64 ry, AV.int IntKind.i64 rz]] (0 : Nat)
      (0 : Nat)),
      ((6 : Nat), AV.int IntKind.i64 (a + (↑g : Int)))]
      [((0 : Nat), ABlk.ready l (hrL a (fun (i : Nat) => hd (S i)) g))] (1 : Nat)) ∧
      ∀ (g : Nat),
      g ≤ (b - a).toNat →
      (decide (a + (↑g : Int) < b) = true →
      l = l ∧
      PCall Tryz.prog G0 (126 : Nat) [AV.sl (5 : Nat) rows, AV.int IntKind.i64 (a + (↑g : Int))]
      (AV.agg (S (a + (↑g : Int) - a).toNat)) ∧
      PCall Tryz.prog G0 (117 : Nat)
      [AV.agg [c0, c1, c2, c3, c4, c5, c6, c7, c8, c9, c10, c11, c12],
      AV.agg (S (a + (↑g : Int) - a).toNat),
      AV.agg [AV.int IntKind.i64 rx, AV.int IntKind.i64 ry, AV.int IntKind.i64 rz]]
      (AV.int IntKind.i64 (hd (S (a + (↑g : Int) - a).toNat))) ∧
      (∃ (post : List (List AV)),
      hrL a (fun (i : Nat) => hd (S i)) (b - a).toNat =
      hrL a (fun (i : Nat) => hd (S i)) g ++
      [AV.int IntKind.i64 (a + (↑g : Int)),
      AV.int IntKind.i64 (hd (S (a + (↑g : Int) - a).toNat))] ::
      post) ∧
      l = l ∧
      (hrL a (fun (i : Nat) => hd (S i)) g ++
      [[AV.int IntKind.i64 (a + (↑g : Int)),
      AV.int IntKind.i64 (hd (S (a + (↑g : Int) - a).toNat))]]).length =
      (hrL a (fun (i : Nat) => hd (S i)) g).length + (1 : Nat) ∧
      (In64 (a + (↑g : Int) + (1 : Int)) ∧
      ∃ (g' : Nat),
      g' ≤ (b - a).toNat ∧
      (b - a).toNat - g' < (b - a).toNat - g ∧
      AS.mk
      [((0 : Nat), AV.yld l),
      ((1 : Nat),
      AV.elt (2 : Nat) [[AV.int IntKind.i64 a, AV.int IntKind.i64 b]] (0 : Nat)
      (0 : Nat)),
      ((2 : Nat),
      AV.elt (13 : Nat) [[c0, c1, c2, c3, c4, c5, c6, c7, c8, c9, c10, c11, c12]]
      (0 : Nat) (0 : Nat)),
      ((3 : Nat), AV.elt (1 : Nat) [[AV.sl (5 : Nat) rows]] (0 : Nat) (0 : Nat)),
      ((4 : Nat),
      AV.elt (3 : Nat)
      [[AV.int IntKind.i64 rx, AV.int IntKind.i64 ry, AV.int IntKind.i64 rz]]
      (0 : Nat) (0 : Nat)),
      ((6 : Nat), AV.int IntKind.i64 (a + (↑g : Int) + (1 : Int)))]
      [((0 : Nat),
      ABlk.ready l
      (hrL a (fun (i : Nat) => hd (S i)) g ++
      [[AV.int IntKind.i64 (a + (↑g : Int)),
      AV.int IntKind.i64 (hd (S (a + (↑g : Int) - a).toNat))]]))]
      (1 : Nat) =
      AS.mk
      [((0 : Nat), AV.yld l),
      ((1 : Nat),
      AV.elt (2 : Nat) [[AV.int IntKind.i64 a, AV.int IntKind.i64 b]] (0 : Nat)
      (0 : Nat)),
      ((2 : Nat),
      AV.elt (13 : Nat) [[c0, c1, c2, c3, c4, c5, c6, c7, c8, c9, c10, c11, c12]]
      (0 : Nat) (0 : Nat)),
      ((3 : Nat), AV.elt (1 : Nat) [[AV.sl (5 : Nat) rows]] (0 : Nat) (0 : Nat)),
      ((4 : Nat),
      AV.elt (3 : Nat)
      [[AV.int IntKind.i64 rx, AV.int IntKind.i64 ry, AV.int IntKind.i64 rz]]
      (0 : Nat) (0 : Nat)),
      ((6 : Nat), AV.int IntKind.i64 (a + (↑g' : Int)))]
      [((0 : Nat), ABlk.ready l (hrL a (fun (i : Nat) => hd (S i)) g'))] (1 : Nat)) ∧
      (ABlk.stop l = ABlk.ready l (hrL a (fun (i : Nat) => hd (S i)) (b - a).toNat) ∨
      ABlk.stop l = ABlk.stop l)) ∧
      (decide (a + (↑g : Int) < b) = false →
      ABlk.ready l (hrL a (fun (i : Nat) => hd (S i)) g) =
      ABlk.ready l (hrL a (fun (i : Nat) => hd (S i)) (b - a).toNat) ∨
      ABlk.ready l (hrL a (fun (i : Nat) => hd (S i)) g) = ABlk.stop l) := by
    intro l
    refine ⟨⟨0, by omega, by simp [hrL]⟩, fun g hg => ⟨fun hlt => ?_, fun hge => ?_⟩⟩
    · simp only [decide_eq_true_eq] at hlt
      have hl : g < (b - a).toNat := by omega
      have e : (a + (g : Int) - a).toNat = g := by omega
      simp only [e]
      have hs := hr_succ a (fun i => hd (S i)) g
      refine ⟨trivial, h1 g hl, h2 g hl, hr_post a (fun i => hd (S i)) hl, trivial, by simp, ⟨by unfold In64; omega, g + 1, hl, by omega, ?_⟩, .inr trivial⟩
      rw [hs, show a + (g : Int) + 1 = a + ((g + 1 : Nat) : Int) by omega]
    · simp only [decide_eq_false_iff_not] at hge
      have : g = (b - a).toNat := by omega
      subst this
      exact .inl rfl
  exact s_of Tryz.f144 (B144 a b [c0, c1, c2, c3, c4, c5, c6, c7, c8, c9, c10, c11, c12] (.sl 5 rows) rx ry rz S hd) (by kernel_rfl) (by kernel_rfl) (by kernel_rfl) (by kernel_rfl) (by kernel_rfl) key (fun l => by kernel_rfl)
end Go.Proofs.YtjhjmncjidbieaaGreatDoor
namespace Go.Proofs.YtjhjmncjidbieaaGreatDoor
open Go Go.Av Go.RowKit
def aggOf : Option AV → Option (List AV)
  | some (.agg s) => some s
  | _ => none
def intOf : Option AV → Option Int
  | some (.int .i64 n) => some n
  | _ => none
theorem aggOf_ok {x : Option AV} {s : List AV} (h : aggOf x = some s) : x = some (.agg s) := by
  cases x with
  | none => cases h
  | some v => cases v <;> simp [aggOf] at h; rw [h]
theorem intOf_ok {x : Option AV} {n : Int} (h : intOf x = some n) : x = some (.i n) := by
  cases x with
  | none => cases h
  | some v => cases v <;> simp [intOf] at h; rename_i k m; cases k <;> simp at h; rw [h]
def stOf (rec : Nat → List AV → Option AV) (rows : List (List AV)) (a : Int) (i : Nat) : Option (List AV) := aggOf (rec 126 [.sl 5 rows, .i (a + i)])
def hrOf (rec : Nat → List AV → Option AV) (tc r : List AV) (s : List AV) : Option Int := intOf (rec 117 [.agg tc, .agg s, .agg r])
def sqH (rec : Nat → List AV → Option AV) (f : Nat) (cap : List AV) : Option (List (List AV)) :=
  match cap with
  | [.elt 2 [[.int .i64 a, .int .i64 b]] 0 0, .elt 13 [[c0, c1, c2, c3, c4, c5, c6, c7, c8, c9, c10, c11, c12]] 0 0, .elt 1 [[.sl 5 rows]] 0 0, .elt 3 [[.int .i64 rx, .int .i64 ry, .int .i64 rz]] 0 0] =>
    if Nat.beq f 144 && (decide (-1000000000 ≤ a) && (decide (b ≤ 1000000000) && (List.range (b - a).toNat).all fun i => match stOf rec rows a i with
        | some s => (hrOf rec [c0, c1, c2, c3, c4, c5, c6, c7, c8, c9, c10, c11, c12] [.i rx, .i ry, .i rz] s).isSome
        | none => false)) then
      some (hrL a (fun i => (hrOf rec [c0, c1, c2, c3, c4, c5, c6, c7, c8, c9, c10, c11, c12] [.i rx, .i ry, .i rz] ((stOf rec rows a i).getD [])).getD 0) (b - a).toNat)
    else none
  | _ => none
theorem sqH_ok (rec : Nat → List AV → Option AV) (hrec : ∀ f args r, rec f args = some r → PCall Tryz.prog G0 f args r) (f : Nat) (cap : List AV) (L : List (List AV)) (h : sqH rec f cap = some L) : PSeq Tryz.prog G0 f cap L := by
  unfold sqH at h
  split at h
  · rename_i a b c0 c1 c2 c3 c4 c5 c6 c7 c8 c9 c10 c11 c12 rows rx ry rz
    split at h
    · rename_i hb
      simp only [Bool.and_eq_true, decide_eq_true_eq, List.all_eq_true, List.mem_range] at hb
      obtain ⟨h1, h2, h3, h4⟩ := hb
      have := Nat.eq_of_beq_eq_true h1
      subst this
      cases h
      have key : ∀ i : Nat, i < (b - a).toNat → ∃ s n, stOf rec rows a i = some s ∧ hrOf rec [c0, c1, c2, c3, c4, c5, c6, c7, c8, c9, c10, c11, c12] [.i rx, .i ry, .i rz] s = some n := fun i hi => by
        have := h4 i hi
        split at this
        · rename_i s hs
          obtain ⟨n, hn⟩ := Option.isSome_iff_exists.1 this
          exact ⟨s, n, hs, hn⟩
        · cases this
      refine s144 a b c0 c1 c2 c3 c4 c5 c6 c7 c8 c9 c10 c11 c12 rows rx ry rz (fun i => (stOf rec rows a i).getD []) (fun s => (hrOf rec [c0, c1, c2, c3, c4, c5, c6, c7, c8, c9, c10, c11, c12] [.i rx, .i ry, .i rz] s).getD 0) h2 h3 (fun i hi => ?_) (fun i hi => ?_)
      · obtain ⟨s, n, hs, hn⟩ := key i hi
        rw [hs]
        exact hrec _ _ _ (aggOf_ok hs)
      · obtain ⟨s, n, hs, hn⟩ := key i hi
        simp only [hs, Option.getD_some, hn]
        exact hrec _ _ _ (intOf_ok hn)
    · cases h
  · cases h
end Go.Proofs.YtjhjmncjidbieaaGreatDoor
namespace Go.Proofs
open Go.Shelf
def Tryz.lays169_ren : Go.Shelf.Ren := ⟨fun | 169 => 175 | n => n, fun | 70 => 258 | 9 => 9 | 0 => 0 | 72 => 261 | 37 => 259 | 127 => 270 | 3 => 3 | 5 => 5 | n => n, fun | n => n⟩
theorem Tryz.lays169 : Go.Proofs.Lays.n169 Tryz.prog Tryz.lays169_ren := {
  mixed := by kernel_rfl
  f169 := Tryz.func175.trans (congrArg some (by kernel_rfl))
  t0 := Tryz.underlying0
  a0 := Tryz.isAgg0
  z0 := Tryz.sizeOf0
  v0 := Tryz.zeroValue0
  t3 := Tryz.underlying3
  a3 := Tryz.isAgg3
  z3 := Tryz.sizeOf3
  v3 := Tryz.zeroValue3
  t9 := Tryz.underlying9
  a9 := Tryz.isAgg9
  z9 := Tryz.sizeOf9
  v9 := Tryz.zeroValue9
  t37 := Tryz.underlying259
  a37 := Tryz.isAgg259
  z37 := Tryz.sizeOf259
  v37 := Tryz.zeroValue259
  t70 := Tryz.underlying258
  a70 := Tryz.isAgg258
  z70 := Tryz.sizeOf258
  v70 := Tryz.zeroValue258
  t72 := Tryz.underlying261
  a72 := Tryz.isAgg261
  z72 := Tryz.sizeOf261
  v72 := Tryz.zeroValue261
  t127 := Tryz.underlying270
  a127 := Tryz.isAgg270
  z127 := Tryz.sizeOf270
  v127 := Tryz.zeroValue270 }
theorem Tryz.Builder_Extra_169 : Builder.Extra Tryz.prog Tryz.lays169_ren := {
  sizeBuilder := by kernel_rfl
  liesBuilder := by kernel_rfl
  t5 := Tryz.underlying5
  a5 := Tryz.isAgg5
  z5 := Tryz.sizeOf5
  v5 := Tryz.zeroValue5
  infoByte := by kernel_rfl
  cellsByte := by kernel_rfl
  sizeByte := by kernel_rfl
  neB5 := by decide }
open Go.RowKit in
/-- (*strings.Builder).String: "String returns the accumulated string.": OF A BUILDER THAT HOLDS AT LEAST ONE BYTE. ✋ THE MODEL FREEZES THOSE BYTES IN THE BUFFER (unsafe.String): a later write INTO them ends the model's run without an answer; a later append BEHIND them goes on. The statement's order of evaluation is drawn: one draw. (LAID: no walk: one application.) -/
theorem Tryz.Builder_String (B b : Nat) (l : List UInt8) (w : World) (h : Lib.IsBuilder 261 5 B b (Lib.byteCells l) w) (h0 : l ≠ []) :
    Calls Tryz.prog 175 #[.pointer (some ⟨b, 0, none⟩)] w fun e w' => e = .returned (.string ⟨l.toArray⟩) ∧ Below B w w' := Any.Builder_String Tryz.lays169 Tryz.Builder_Extra_169 B b l w h h0
open Go.RowKit in
/-- (*strings.Builder).String OF A BUILDER THAT HOLDS NO BYTE: the empty string. (Its buffer is nil, or a row of which it has taken nothing yet; where that row has NO capacity the model lays one new block for unsafe.SliceData's 'some address'.) One draw. (LAID: no walk: one application.) -/
theorem Tryz.Builder_String_empty (B b : Nat) (w : World) (h : Lib.IsBuilder 261 5 B b [] w) (hBw : B ≤ w.heap.size) :
    Calls Tryz.prog 175 #[.pointer (some ⟨b, 0, none⟩)] w fun e w' => e = .returned (.string ⟨#[]⟩) ∧ Below B w w' := Any.Builder_String_empty Tryz.lays169 Tryz.Builder_Extra_169 B b w h hBw
open Go.RowKit in
/-- (*strings.Builder).String: "String returns the accumulated string.": WHATEVER THE BUILDER HOLDS. (LAID: no walk: one application.) -/
theorem Tryz.Builder_String_any (B b : Nat) (l : List UInt8) (w : World) (h : Lib.IsBuilder 261 5 B b (Lib.byteCells l) w) (hBw : B ≤ w.heap.size) :
    Calls Tryz.prog 175 #[.pointer (some ⟨b, 0, none⟩)] w fun e w' => e = .returned (.string ⟨l.toArray⟩) ∧ Below B w w' := Any.Builder_String_any Tryz.lays169 Tryz.Builder_Extra_169 B b l w h hBw
def Tryz.lays241_ren : Go.Shelf.Ren := ⟨fun | 241 => 183 | 277 => 191 | n => n, fun | 70 => 258 | 3 => 3 | 0 => 0 | 72 => 261 | 37 => 259 | 5 => 5 | n => n, fun | n => n⟩
theorem Tryz.lays241 : Go.Proofs.Lays.n241 Tryz.prog Tryz.lays241_ren := {
  mixed := by kernel_rfl
  f241 := Tryz.func183.trans (congrArg some (by kernel_rfl))
  f277 := Tryz.func191.trans (congrArg some (by kernel_rfl))
  t0 := Tryz.underlying0
  a0 := Tryz.isAgg0
  z0 := Tryz.sizeOf0
  v0 := Tryz.zeroValue0
  t3 := Tryz.underlying3
  a3 := Tryz.isAgg3
  z3 := Tryz.sizeOf3
  v3 := Tryz.zeroValue3
  t37 := Tryz.underlying259
  a37 := Tryz.isAgg259
  z37 := Tryz.sizeOf259
  v37 := Tryz.zeroValue259
  t70 := Tryz.underlying258
  a70 := Tryz.isAgg258
  z70 := Tryz.sizeOf258
  v70 := Tryz.zeroValue258
  t72 := Tryz.underlying261
  a72 := Tryz.isAgg261
  z72 := Tryz.sizeOf261
  v72 := Tryz.zeroValue261 }
theorem Tryz.Builder_Extra_241 : Builder.Extra Tryz.prog Tryz.lays241_ren := {
  sizeBuilder := by kernel_rfl
  liesBuilder := by kernel_rfl
  t5 := Tryz.underlying5
  a5 := Tryz.isAgg5
  z5 := Tryz.sizeOf5
  v5 := Tryz.zeroValue5
  infoByte := by kernel_rfl
  cellsByte := by kernel_rfl
  sizeByte := by kernel_rfl
  neB5 := by decide }
open Go.RowKit in
/-- (*strings.Builder).grow (no doc but "grow copies the buffer to a new, larger buffer so that there are at least n bytes of capacity beyond len(b.buf)."): AT A BUILDER WITHOUT A BUFFER: a new row of whatever bytes for its buffer, none of them its own yet. Three draws. (LAID: no walk: one application.) -/
theorem Tryz.Builder_grow_fresh (B b n : Nat) (w : World) (hB : B ≤ b) (hbk : w.heap[b]? = some (.cells #[.pointer (some ⟨b, 0, none⟩), .slice none 0 0] 261 (0, 0))) (hBw : B ≤ w.heap.size) (hn : n ≤ 281474976710656) :
    Calls Tryz.prog 183 #[.pointer (some ⟨b, 0, none⟩), .int .i64 n] w fun e w' => e = .returned (.tuple #[]) ∧ (Lib.BuilderAt 261 5 B b (.pointer (some ⟨b, 0, none⟩)) [] w' ∧ Below B w w') := Any.Builder_grow_fresh Tryz.lays241 Tryz.Builder_Extra_241 B b n w hB hbk hBw hn
def Tryz.lays165_ren : Go.Shelf.Ren := ⟨fun | 165 => 173 | 240 => 182 | 241 => 183 | 276 => 190 | 277 => 191 | n => n, fun | 70 => 258 | 3 => 3 | 0 => 0 | 4 => 4 | 9 => 9 | 20 => 20 | 72 => 261 | 37 => 259 | 164 => 274 | 5 => 5 | n => n, fun | n => n⟩
theorem Tryz.lays165 : Go.Proofs.Lays.n165 Tryz.prog Tryz.lays165_ren := {
  mixed := by kernel_rfl
  f165 := Tryz.func173.trans (congrArg some (by kernel_rfl))
  f240 := Tryz.func182.trans (congrArg some (by kernel_rfl))
  f241 := Tryz.func183.trans (congrArg some (by kernel_rfl))
  f276 := Tryz.func190.trans (congrArg some (by kernel_rfl))
  f277 := Tryz.func191.trans (congrArg some (by kernel_rfl))
  t0 := Tryz.underlying0
  a0 := Tryz.isAgg0
  z0 := Tryz.sizeOf0
  v0 := Tryz.zeroValue0
  t3 := Tryz.underlying3
  a3 := Tryz.isAgg3
  z3 := Tryz.sizeOf3
  v3 := Tryz.zeroValue3
  t4 := Tryz.underlying4
  a4 := Tryz.isAgg4
  z4 := Tryz.sizeOf4
  v4 := Tryz.zeroValue4
  t9 := Tryz.underlying9
  a9 := Tryz.isAgg9
  z9 := Tryz.sizeOf9
  v9 := Tryz.zeroValue9
  t20 := Tryz.underlying20
  a20 := Tryz.isAgg20
  z20 := Tryz.sizeOf20
  v20 := Tryz.zeroValue20
  t37 := Tryz.underlying259
  a37 := Tryz.isAgg259
  z37 := Tryz.sizeOf259
  v37 := Tryz.zeroValue259
  t70 := Tryz.underlying258
  a70 := Tryz.isAgg258
  z70 := Tryz.sizeOf258
  v70 := Tryz.zeroValue258
  t72 := Tryz.underlying261
  a72 := Tryz.isAgg261
  z72 := Tryz.sizeOf261
  v72 := Tryz.zeroValue261
  t164 := Tryz.underlying274
  a164 := Tryz.isAgg274
  z164 := Tryz.sizeOf274
  v164 := Tryz.zeroValue274 }
theorem Tryz.Builder_Extra_165 : Builder.Extra Tryz.prog Tryz.lays165_ren := {
  sizeBuilder := by kernel_rfl
  liesBuilder := by kernel_rfl
  t5 := Tryz.underlying5
  a5 := Tryz.isAgg5
  z5 := Tryz.sizeOf5
  v5 := Tryz.zeroValue5
  infoByte := by kernel_rfl
  cellsByte := by kernel_rfl
  sizeByte := by kernel_rfl
  neB5 := by decide }
open Go.RowKit in
/-- (*strings.Builder).Grow AT A BUILDER THAT HAS NOT BEEN WRITTEN ('var b strings.Builder; b.Grow(n)'): "Grow grows b's capacity, if necessary, to guarantee space for another n bytes.": it holds no byte behind it as before it. (LAID: no walk: one application.) -/
theorem Tryz.Builder_Grow_fresh (B b n : Nat) (w : World) (hB : B ≤ b) (hbk : w.heap[b]? = some (.cells #[.pointer none, .slice none 0 0] 261 (0, 0))) (hBw : B ≤ w.heap.size) (hn : n ≤ 281474976710656) :
    Calls Tryz.prog 173 #[.pointer (some ⟨b, 0, none⟩), .int .i64 n] w fun e w' => e = .returned (.tuple #[]) ∧ (Lib.BuilderAt 261 5 B b (.pointer (some ⟨b, 0, none⟩)) [] w' ∧ Below B w w') := Any.Builder_Grow_fresh Tryz.lays165 Tryz.Builder_Extra_165 B b n w hB hbk hBw hn
def Tryz.lays156_ren : Go.Shelf.Ren := ⟨fun | 156 => 161 | 165 => 173 | 166 => 174 | 169 => 175 | 240 => 182 | 241 => 183 | 276 => 190 | 277 => 191 | n => n, fun | 31 => 160 | 9 => 9 | 3 => 3 | 4 => 4 | 0 => 0 | 20 => 20 | 72 => 261 | 76 => 265 | 70 => 258 | 37 => 259 | 75 => 264 | 127 => 270 | 164 => 274 | 5 => 5 | 80 => 229 | n => n, fun | n => n⟩
theorem Tryz.lays156 : Go.Proofs.Lays.n156 Tryz.prog Tryz.lays156_ren := {
  mixed := by kernel_rfl
  f156 := Tryz.func161.trans (congrArg some (by kernel_rfl))
  f165 := Tryz.func173.trans (congrArg some (by kernel_rfl))
  f166 := Tryz.func174.trans (congrArg some (by kernel_rfl))
  f169 := Tryz.func175.trans (congrArg some (by kernel_rfl))
  f240 := Tryz.func182.trans (congrArg some (by kernel_rfl))
  f241 := Tryz.func183.trans (congrArg some (by kernel_rfl))
  f276 := Tryz.func190.trans (congrArg some (by kernel_rfl))
  f277 := Tryz.func191.trans (congrArg some (by kernel_rfl))
  t0 := Tryz.underlying0
  a0 := Tryz.isAgg0
  z0 := Tryz.sizeOf0
  v0 := Tryz.zeroValue0
  t3 := Tryz.underlying3
  a3 := Tryz.isAgg3
  z3 := Tryz.sizeOf3
  v3 := Tryz.zeroValue3
  t4 := Tryz.underlying4
  a4 := Tryz.isAgg4
  z4 := Tryz.sizeOf4
  v4 := Tryz.zeroValue4
  t9 := Tryz.underlying9
  a9 := Tryz.isAgg9
  z9 := Tryz.sizeOf9
  v9 := Tryz.zeroValue9
  t20 := Tryz.underlying20
  a20 := Tryz.isAgg20
  z20 := Tryz.sizeOf20
  v20 := Tryz.zeroValue20
  t31 := Tryz.underlying160
  a31 := Tryz.isAgg160
  z31 := Tryz.sizeOf160
  v31 := Tryz.zeroValue160
  t37 := Tryz.underlying259
  a37 := Tryz.isAgg259
  z37 := Tryz.sizeOf259
  v37 := Tryz.zeroValue259
  t70 := Tryz.underlying258
  a70 := Tryz.isAgg258
  z70 := Tryz.sizeOf258
  v70 := Tryz.zeroValue258
  t72 := Tryz.underlying261
  a72 := Tryz.isAgg261
  z72 := Tryz.sizeOf261
  v72 := Tryz.zeroValue261
  t75 := Tryz.underlying264
  a75 := Tryz.isAgg264
  z75 := Tryz.sizeOf264
  v75 := Tryz.zeroValue264
  t76 := Tryz.underlying265
  a76 := Tryz.isAgg265
  z76 := Tryz.sizeOf265
  v76 := Tryz.zeroValue265
  t127 := Tryz.underlying270
  a127 := Tryz.isAgg270
  z127 := Tryz.sizeOf270
  v127 := Tryz.zeroValue270
  t164 := Tryz.underlying274
  a164 := Tryz.isAgg274
  z164 := Tryz.sizeOf274
  v164 := Tryz.zeroValue274 }
theorem Tryz.Builder_Extra_156 : Builder.Extra Tryz.prog Tryz.lays156_ren := {
  sizeBuilder := by kernel_rfl
  liesBuilder := by kernel_rfl
  t5 := Tryz.underlying5
  a5 := Tryz.isAgg5
  z5 := Tryz.sizeOf5
  v5 := Tryz.zeroValue5
  infoByte := by kernel_rfl
  cellsByte := by kernel_rfl
  sizeByte := by kernel_rfl
  neB5 := by decide }
open Go.RowKit in
/-- No element: the empty string; the world is as it was. (Whatever the slice's address and capacity: a nil slice too.) (LAID: no walk: one application.) -/
theorem Tryz.strings_Join_none (a : Option Addr) (c : Nat) (sep : ByteArray) (w : World) :
    Calls Tryz.prog 161 #[.slice a 0 c, .string sep] w fun e w' => e = .returned (.string ⟨#[]⟩) ∧ w' = w := Any.strings_Join_none Tryz.lays156 Tryz.Builder_Extra_156 a c sep w
open Go.RowKit in
/-- strings.Join: "Join concatenates the elements of its first argument to create a single string. The separator string sep is placed between elements in the resulting string.": HOWEVER MANY ELEMENTS. Below the heap's end the world is as it was. (LAID: no walk: one application.) -/
theorem Tryz.strings_Join (bk o c : Nat) (xs : List ByteArray) (sep : ByteArray) (w : World) (hcells : ∀ (j : Nat) x, xs[j]? = some x → w.cell? ⟨bk, o + j, none⟩ = some (.string x)) (hbk : bk < w.heap.size) (hN : xs.length ≤ 140737488355328) (hcap : xs.length ≤ c) (hlen : (Lib.join (xs.map (·.data.toList)) sep.data.toList).length ≤ 140737488355328) :
    Calls Tryz.prog 161 #[.slice (some ⟨bk, o, none⟩) xs.length c, .string sep] w fun e w' => e = .returned (.string ⟨(Lib.join (xs.map (·.data.toList)) sep.data.toList).toArray⟩) ∧ Below w.heap.size w w' := Any.strings_Join Tryz.lays156 Tryz.Builder_Extra_156 bk o c xs sep w hcells hbk hN hcap hlen
def Tryz.lays137_ren : Go.Shelf.Ren := ⟨fun | 137 => 165 | 217 => 177 | 266 => 185 | n => n, fun | 9 => 9 | 5 => 5 | 3 => 3 | n => n, fun | n => n⟩
theorem Tryz.lays137 : Go.Proofs.Lays.n137 Tryz.prog Tryz.lays137_ren := {
  mixed := by kernel_rfl
  f137 := Tryz.func165.trans (congrArg some (by kernel_rfl))
  f217 := Tryz.func177.trans (congrArg some (by kernel_rfl))
  f266 := Tryz.func185.trans (congrArg some (by kernel_rfl))
  t3 := Tryz.underlying3
  a3 := Tryz.isAgg3
  z3 := Tryz.sizeOf3
  v3 := Tryz.zeroValue3
  t5 := Tryz.underlying5
  a5 := Tryz.isAgg5
  z5 := Tryz.sizeOf5
  v5 := Tryz.zeroValue5
  t9 := Tryz.underlying9
  a9 := Tryz.isAgg9
  z9 := Tryz.sizeOf9
  v9 := Tryz.zeroValue9 }
open Go.RowKit in
/-- strings.IndexByte: "IndexByte returns the index of the first instance of c in s, or -1 if c is not present in s.": IT RETURNS 'Lib.indexByte s c'; the world is as it was. (LAID: no walk: one application.) -/
theorem Tryz.strings_IndexByte (s : ByteArray) (c : Int) (w : World) :
    Calls Tryz.prog 165 #[.string s, .int .u8 c] w fun e w' => e = .returned (.int .i64 (Lib.indexByte s.data.toList c.toNat.toUInt8)) ∧ w' = w := Any.strings_IndexByte Tryz.lays137 s c w
def Tryz.lays129_ren : Go.Shelf.Ren := ⟨fun | 129 => 201 | n => n, fun | 53 => 278 | 3 => 3 | 4 => 4 | 46 => 283 | 5 => 5 | 9 => 9 | n => n, fun | n => n⟩
theorem Tryz.lays129 : Go.Proofs.Lays.n129 Tryz.prog Tryz.lays129_ren := {
  mixed := by kernel_rfl
  f129 := Tryz.func201.trans (congrArg some (by kernel_rfl))
  t3 := Tryz.underlying3
  a3 := Tryz.isAgg3
  z3 := Tryz.sizeOf3
  v3 := Tryz.zeroValue3
  t4 := Tryz.underlying4
  a4 := Tryz.isAgg4
  z4 := Tryz.sizeOf4
  v4 := Tryz.zeroValue4
  t5 := Tryz.underlying5
  a5 := Tryz.isAgg5
  z5 := Tryz.sizeOf5
  v5 := Tryz.zeroValue5
  t9 := Tryz.underlying9
  a9 := Tryz.isAgg9
  z9 := Tryz.sizeOf9
  v9 := Tryz.zeroValue9
  t46 := Tryz.underlying283
  a46 := Tryz.isAgg283
  z46 := Tryz.sizeOf283
  v46 := Tryz.zeroValue283
  t53 := Tryz.underlying278
  a53 := Tryz.isAgg278
  z53 := Tryz.sizeOf278
  v53 := Tryz.zeroValue278 }
/-- bits.Len64: "Len64 returns the minimum number of bits required to represent x; the result is 0 for x == 0.": IT RETURNS 'Lib.bitLen x'; the world is as it was. ('h0', 'h1': x is a uint64.) (LAID: no walk: one application.) -/
theorem Tryz.bits_Len64 (x : Int) (w : World) (h0 : 0 ≤ x) (h1 : x ≤ 18446744073709551615) :
    Calls Tryz.prog 201 #[.int .u64 x] w fun e w' => e = .returned (.int .i64 (Lib.bitLen x.toNat)) ∧ w' = w := Any.bits_Len64 Tryz.lays129 x w h0 h1
def Tryz.lays317_ren : Go.Shelf.Ren := ⟨fun | 317 => 200 | n => n, fun | 3 => 3 | 46 => 283 | n => n, fun | n => n⟩
theorem Tryz.lays317 : Go.Proofs.Lays.n317 Tryz.prog Tryz.lays317_ren := {
  mixed := by kernel_rfl
  f317 := Tryz.func200.trans (congrArg some (by kernel_rfl))
  t3 := Tryz.underlying3
  a3 := Tryz.isAgg3
  z3 := Tryz.sizeOf3
  v3 := Tryz.zeroValue3
  t46 := Tryz.underlying283
  a46 := Tryz.isAgg283
  z46 := Tryz.sizeOf283
  v46 := Tryz.zeroValue283 }
open Go.Lib in
/-- internal/strconv.log10Pow2: "log10Pow2(x) returns ⌊log₁₀ 2**x⌋ = ⌊x * log₁₀ 2⌋.": '(x * 78913) >> 18', at an x up to 64 (a length in bits). The world is as it was. (LAID: no walk: one application.) -/
theorem Tryz.internal_strconv_log10Pow2 (x : Nat) (h : x ≤ 64) (w : World) :
    Calls Tryz.prog 200 #[.int .i64 x] w fun e w' => e = .returned (.int .i64 (Lib.l10 x)) ∧ w' = w := Any.internal_strconv_log10Pow2 Tryz.lays317 x h w
def Tryz.lays318_ren : Go.Shelf.Ren := ⟨fun | 318 => 202 | n => n, fun | 3 => 3 | 4 => 4 | n => n, fun | n => n⟩
theorem Tryz.lays318 : Go.Proofs.Lays.n318 Tryz.prog Tryz.lays318_ren := {
  mixed := by kernel_rfl
  f318 := Tryz.func202.trans (congrArg some (by kernel_rfl))
  t3 := Tryz.underlying3
  a3 := Tryz.isAgg3
  z3 := Tryz.sizeOf3
  v3 := Tryz.zeroValue3
  t4 := Tryz.underlying4
  a4 := Tryz.isAgg4
  z4 := Tryz.sizeOf4
  v4 := Tryz.zeroValue4 }
open Go.Lib in
/-- internal/strconv.bool2: "bool2 converts b to an integer: 1 for true, 0 for false." The world is as it was. (LAID: no walk: one application.) -/
theorem Tryz.internal_strconv_bool2_int (b : Bool) (w : World) :
    Calls Tryz.prog 202 #[.bool b] w fun e w' => e = .returned (.int .i64 (if b then 1 else 0)) ∧ w' = w := Any.internal_strconv_bool2_int Tryz.lays318 b w
def Tryz.lays283_ren : Go.Shelf.Ren := ⟨fun | 283 => 192 | n => n, fun | 3 => 3 | 9 => 9 | 4 => 4 | n => n, fun | n => n⟩
theorem Tryz.lays283 : Go.Proofs.Lays.n283 Tryz.prog Tryz.lays283_ren := {
  mixed := by kernel_rfl
  f283 := Tryz.func192.trans (congrArg some (by kernel_rfl))
  t3 := Tryz.underlying3
  a3 := Tryz.isAgg3
  z3 := Tryz.sizeOf3
  v3 := Tryz.zeroValue3
  t4 := Tryz.underlying4
  a4 := Tryz.isAgg4
  z4 := Tryz.sizeOf4
  v4 := Tryz.zeroValue4
  t9 := Tryz.underlying9
  a9 := Tryz.isAgg9
  z9 := Tryz.sizeOf9
  v9 := Tryz.zeroValue9 }
open Go.Lib in
/-- internal/strconv.small: "small returns the string for an i with 0 <= i < nSmalls.": i's decimal numeral. The world is as it was. (LAID: no walk: one application.) -/
theorem Tryz.internal_strconv_small (i : Nat) (h : i < 100) (w : World) :
    Calls Tryz.prog 192 #[.int .i64 i] w fun e w' => e = .returned (.string ⟨(Lib.decDigits i).toArray⟩) ∧ w' = w := Any.internal_strconv_small Tryz.lays283 i h w
def Tryz.laysM284_ren : Go.Shelf.Ren := ⟨fun | 284 => 193 | 129 => 201 | 317 => 200 | 318 => 202 | n => n, fun | 53 => 278 | 3 => 3 | 212 => 285 | 0 => 0 | 4 => 4 | 46 => 283 | 5 => 5 | 9 => 9 | n => n, fun | 17 => 4 | n => n⟩
theorem Tryz.laysM284 : Go.Proofs.LaysM.n284 Tryz.prog Tryz.laysM284_ren := {
  mixed := by kernel_rfl
  f129 := Tryz.func201.trans (congrArg some (by kernel_rfl))
  f284 := Tryz.func193.trans (congrArg some (by kernel_rfl))
  f317 := Tryz.func200.trans (congrArg some (by kernel_rfl))
  f318 := Tryz.func202.trans (congrArg some (by kernel_rfl))
  t0 := Tryz.underlying0
  a0 := Tryz.isAgg0
  z0 := Tryz.sizeOf0
  v0 := Tryz.zeroValue0
  t3 := Tryz.underlying3
  a3 := Tryz.isAgg3
  z3 := Tryz.sizeOf3
  v3 := Tryz.zeroValue3
  t4 := Tryz.underlying4
  a4 := Tryz.isAgg4
  z4 := Tryz.sizeOf4
  v4 := Tryz.zeroValue4
  t5 := Tryz.underlying5
  a5 := Tryz.isAgg5
  z5 := Tryz.sizeOf5
  v5 := Tryz.zeroValue5
  t9 := Tryz.underlying9
  a9 := Tryz.isAgg9
  z9 := Tryz.sizeOf9
  v9 := Tryz.zeroValue9
  t46 := Tryz.underlying283
  a46 := Tryz.isAgg283
  z46 := Tryz.sizeOf283
  v46 := Tryz.zeroValue283
  t53 := Tryz.underlying278
  a53 := Tryz.isAgg278
  z53 := Tryz.sizeOf278
  v53 := Tryz.zeroValue278
  t212 := Tryz.underlying285
  a212 := Tryz.isAgg285
  z212 := Tryz.sizeOf285
  v212 := Tryz.zeroValue285
  g17 := by kernel_rfl
  i0 := by kernel_rfl
  i3 := by kernel_rfl
  i4 := by kernel_rfl
  i5 := by kernel_rfl
  i9 := by kernel_rfl
  i46 := by kernel_rfl
  i53 := by kernel_rfl
  i212 := by kernel_rfl
  m17 := by kernel_rfl }
open Go.Lib in
/-- internal/strconv.numDigits, at a d that is not 0: THE NUMBER OF d's DECIMAL DIGITS. The world is as it was. (LAID: no walk: one application.) -/
theorem Tryz.internal_strconv_numDigits (u : Nat) (h1 : 1 ≤ u) (h2 : u < 18446744073709551616) (w : World) (htab : Lib.TabIs Tryz.prog w "internal/strconv.uint64pow10" .u64 Lib.pow10Tab) :
    Calls Tryz.prog 193 #[.int .u64 u] w fun e w' => e = .returned (.int .i64 (Lib.nDigits u)) ∧ w' = w := Any.internal_strconv_numDigits Tryz.laysM284 u h1 h2 w htab
def Tryz.lays285_ren : Go.Shelf.Ren := ⟨fun | 285 => 194 | n => n, fun | 37 => 259 | 53 => 278 | 3 => 3 | 4 => 4 | 51 => 78 | 9 => 9 | 5 => 5 | 0 => 0 | n => n, fun | n => n⟩
theorem Tryz.lays285 : Go.Proofs.Lays.n285 Tryz.prog Tryz.lays285_ren := {
  mixed := by kernel_rfl
  f285 := Tryz.func194.trans (congrArg some (by kernel_rfl))
  t0 := Tryz.underlying0
  a0 := Tryz.isAgg0
  z0 := Tryz.sizeOf0
  v0 := Tryz.zeroValue0
  t3 := Tryz.underlying3
  a3 := Tryz.isAgg3
  z3 := Tryz.sizeOf3
  v3 := Tryz.zeroValue3
  t4 := Tryz.underlying4
  a4 := Tryz.isAgg4
  z4 := Tryz.sizeOf4
  v4 := Tryz.zeroValue4
  t5 := Tryz.underlying5
  a5 := Tryz.isAgg5
  z5 := Tryz.sizeOf5
  v5 := Tryz.zeroValue5
  t9 := Tryz.underlying9
  a9 := Tryz.isAgg9
  z9 := Tryz.sizeOf9
  v9 := Tryz.zeroValue9
  t37 := Tryz.underlying259
  a37 := Tryz.isAgg259
  z37 := Tryz.sizeOf259
  v37 := Tryz.zeroValue259
  t51 := Tryz.underlying78
  a51 := Tryz.isAgg78
  z51 := Tryz.sizeOf78
  v51 := Tryz.zeroValue78
  t53 := Tryz.underlying278
  a53 := Tryz.isAgg278
  z53 := Tryz.sizeOf278
  v53 := Tryz.zeroValue278 }
open Go.RowKit Go.Sort Go.Lib in
/-- internal/strconv.formatBase10: "formatBase10 formats the decimal representation of u into a. The caller is responsible for ensuring that a is big enough to hold u. If a is too big, leading zeros will be filled in as needed.": THE ROW HOLDS u's DIGITS ('FmtInv .. 0 ..': every place t holds 'dg u (len - 1 - t)'); all else is as it was but for the count of draws. (LAID: no walk: one application.) -/
theorem Tryz.internal_strconv_formatBase10 (blk off cap : Nat) (u : Nat) (d : Array UInt8) (w : World) (hH : Holds (fun (b : UInt8) => Value.int .u8 (b.toNat : Int)) w blk off d) (hu : u < 10 ^ d.size) (hu64 : u < 18446744073709551616) (hsz : d.size < 4611686018427387904) :
    Calls Tryz.prog 194 #[.slice (some ⟨blk, off, none⟩) d.size cap, .int .u64 u] w fun e w' =>
      e = .returned (.tuple #[]) ∧ ∃ (n v' : Nat) (dk : Array UInt8), w' = (putRow (fun (b : UInt8) => Value.int .u8 (b.toNat : Int)) w blk off dk).drewN n ∧ FmtInv d.size u 0 v' dk := Any.internal_strconv_formatBase10 Tryz.lays285 blk off cap u d w hH hu hu64 hsz
def Tryz.laysM246_ren : Go.Shelf.Ren := ⟨fun | 246 => 184 | 283 => 192 | 284 => 193 | 285 => 194 | 286 => 195 | 129 => 201 | 317 => 200 | 318 => 202 | 319 => 203 | 320 => 204 | 337 => 206 | 338 => 207 | n => n, fun | 2 => 2 | 3 => 3 | 9 => 9 | 4 => 4 | 171 => 277 | 0 => 0 | 53 => 278 | 37 => 259 | 5 => 5 | 173 => 281 | 212 => 285 | 51 => 78 | 20 => 20 | 213 => 286 | 46 => 283 | 232 => 295 | 233 => 296 | n => n, fun | 17 => 4 | 18 => 7 | 19 => 8 | n => n⟩
theorem Tryz.laysM246 : Go.Proofs.LaysM.n246 Tryz.prog Tryz.laysM246_ren := {
  mixed := by kernel_rfl
  f129 := Tryz.func201.trans (congrArg some (by kernel_rfl))
  f246 := Tryz.func184.trans (congrArg some (by kernel_rfl))
  f283 := Tryz.func192.trans (congrArg some (by kernel_rfl))
  f284 := Tryz.func193.trans (congrArg some (by kernel_rfl))
  f285 := Tryz.func194.trans (congrArg some (by kernel_rfl))
  f286 := Tryz.func195.trans (congrArg some (by kernel_rfl))
  f317 := Tryz.func200.trans (congrArg some (by kernel_rfl))
  f318 := Tryz.func202.trans (congrArg some (by kernel_rfl))
  f319 := Tryz.func203.trans (congrArg some (by kernel_rfl))
  f320 := Tryz.func204.trans (congrArg some (by kernel_rfl))
  f337 := Tryz.func206.trans (congrArg some (by kernel_rfl))
  f338 := Tryz.func207.trans (congrArg some (by kernel_rfl))
  t0 := Tryz.underlying0
  a0 := Tryz.isAgg0
  z0 := Tryz.sizeOf0
  v0 := Tryz.zeroValue0
  t2 := Tryz.underlying2
  a2 := Tryz.isAgg2
  z2 := Tryz.sizeOf2
  v2 := Tryz.zeroValue2
  t3 := Tryz.underlying3
  a3 := Tryz.isAgg3
  z3 := Tryz.sizeOf3
  v3 := Tryz.zeroValue3
  t4 := Tryz.underlying4
  a4 := Tryz.isAgg4
  z4 := Tryz.sizeOf4
  v4 := Tryz.zeroValue4
  t5 := Tryz.underlying5
  a5 := Tryz.isAgg5
  z5 := Tryz.sizeOf5
  v5 := Tryz.zeroValue5
  t9 := Tryz.underlying9
  a9 := Tryz.isAgg9
  z9 := Tryz.sizeOf9
  v9 := Tryz.zeroValue9
  t20 := Tryz.underlying20
  a20 := Tryz.isAgg20
  z20 := Tryz.sizeOf20
  v20 := Tryz.zeroValue20
  t37 := Tryz.underlying259
  a37 := Tryz.isAgg259
  z37 := Tryz.sizeOf259
  v37 := Tryz.zeroValue259
  t46 := Tryz.underlying283
  a46 := Tryz.isAgg283
  z46 := Tryz.sizeOf283
  v46 := Tryz.zeroValue283
  t51 := Tryz.underlying78
  a51 := Tryz.isAgg78
  z51 := Tryz.sizeOf78
  v51 := Tryz.zeroValue78
  t53 := Tryz.underlying278
  a53 := Tryz.isAgg278
  z53 := Tryz.sizeOf278
  v53 := Tryz.zeroValue278
  t171 := Tryz.underlying277
  a171 := Tryz.isAgg277
  z171 := Tryz.sizeOf277
  v171 := Tryz.zeroValue277
  t173 := Tryz.underlying281
  a173 := Tryz.isAgg281
  z173 := Tryz.sizeOf281
  v173 := Tryz.zeroValue281
  t212 := Tryz.underlying285
  a212 := Tryz.isAgg285
  z212 := Tryz.sizeOf285
  v212 := Tryz.zeroValue285
  t213 := Tryz.underlying286
  a213 := Tryz.isAgg286
  z213 := Tryz.sizeOf286
  t232 := Tryz.underlying295
  a232 := Tryz.isAgg295
  z232 := Tryz.sizeOf295
  v232 := Tryz.zeroValue295
  t233 := Tryz.underlying296
  a233 := Tryz.isAgg296
  z233 := Tryz.sizeOf296
  v233 := Tryz.zeroValue296
  g17 := by kernel_rfl
  g18 := by kernel_rfl
  g19 := by kernel_rfl
  i0 := by kernel_rfl
  i2 := by kernel_rfl
  i3 := by kernel_rfl
  i4 := by kernel_rfl
  i5 := by kernel_rfl
  i9 := by kernel_rfl
  i20 := by kernel_rfl
  i37 := by kernel_rfl
  i46 := by kernel_rfl
  i51 := by kernel_rfl
  i53 := by kernel_rfl
  i171 := by kernel_rfl
  i173 := by kernel_rfl
  i212 := by kernel_rfl
  i232 := by kernel_rfl
  i233 := by kernel_rfl
  m17 := by kernel_rfl
  m18 := by kernel_rfl
  m19 := by kernel_rfl }
open Go.RowKit Go.Sort Go.Lib in
/-- internal/strconv.FormatInt: "FormatInt returns the string representation of i in the given base": AT BASE 10: i's decimal numeral, for every int64. The world behind the call: the world before it, new blocks behind the heap, draws. (LAID: no walk: one application.) -/
theorem Tryz.internal_strconv_FormatInt_10 (n : Int) (h0 : -9223372036854775808 ≤ n) (h1 : n ≤ 9223372036854775807) (w : World) (htab : Lib.TabIs Tryz.prog w "internal/strconv.uint64pow10" .u64 Lib.pow10Tab) :
    Calls Tryz.prog 184 #[.int .i64 n, .int .i64 10] w fun e w' => e = .returned (.string ⟨(Lib.itoa n).toArray⟩) ∧ ∃ k os, w' = grow (w.drewN k) os := Any.internal_strconv_FormatInt_10 Tryz.laysM246 n h0 h1 w htab
def Tryz.lays246_ren : Go.Shelf.Ren := ⟨fun | 246 => 184 | 283 => 192 | 284 => 193 | 285 => 194 | 286 => 195 | 129 => 201 | 317 => 200 | 318 => 202 | 319 => 203 | 320 => 204 | 337 => 206 | 338 => 207 | n => n, fun | 2 => 2 | 3 => 3 | 9 => 9 | 4 => 4 | 171 => 277 | 0 => 0 | 53 => 278 | 37 => 259 | 5 => 5 | 173 => 281 | 212 => 285 | 51 => 78 | 20 => 20 | 213 => 286 | 46 => 283 | 232 => 295 | 233 => 296 | n => n, fun | 17 => 4 | 18 => 7 | 19 => 8 | n => n⟩
theorem Tryz.lays246 : Go.Proofs.Lays.n246 Tryz.prog Tryz.lays246_ren := {
  mixed := by kernel_rfl
  f129 := Tryz.func201.trans (congrArg some (by kernel_rfl))
  f246 := Tryz.func184.trans (congrArg some (by kernel_rfl))
  f283 := Tryz.func192.trans (congrArg some (by kernel_rfl))
  f284 := Tryz.func193.trans (congrArg some (by kernel_rfl))
  f285 := Tryz.func194.trans (congrArg some (by kernel_rfl))
  f286 := Tryz.func195.trans (congrArg some (by kernel_rfl))
  f317 := Tryz.func200.trans (congrArg some (by kernel_rfl))
  f318 := Tryz.func202.trans (congrArg some (by kernel_rfl))
  f319 := Tryz.func203.trans (congrArg some (by kernel_rfl))
  f320 := Tryz.func204.trans (congrArg some (by kernel_rfl))
  f337 := Tryz.func206.trans (congrArg some (by kernel_rfl))
  f338 := Tryz.func207.trans (congrArg some (by kernel_rfl))
  t0 := Tryz.underlying0
  a0 := Tryz.isAgg0
  z0 := Tryz.sizeOf0
  v0 := Tryz.zeroValue0
  t2 := Tryz.underlying2
  a2 := Tryz.isAgg2
  z2 := Tryz.sizeOf2
  v2 := Tryz.zeroValue2
  t3 := Tryz.underlying3
  a3 := Tryz.isAgg3
  z3 := Tryz.sizeOf3
  v3 := Tryz.zeroValue3
  t4 := Tryz.underlying4
  a4 := Tryz.isAgg4
  z4 := Tryz.sizeOf4
  v4 := Tryz.zeroValue4
  t5 := Tryz.underlying5
  a5 := Tryz.isAgg5
  z5 := Tryz.sizeOf5
  v5 := Tryz.zeroValue5
  t9 := Tryz.underlying9
  a9 := Tryz.isAgg9
  z9 := Tryz.sizeOf9
  v9 := Tryz.zeroValue9
  t20 := Tryz.underlying20
  a20 := Tryz.isAgg20
  z20 := Tryz.sizeOf20
  v20 := Tryz.zeroValue20
  t37 := Tryz.underlying259
  a37 := Tryz.isAgg259
  z37 := Tryz.sizeOf259
  v37 := Tryz.zeroValue259
  t46 := Tryz.underlying283
  a46 := Tryz.isAgg283
  z46 := Tryz.sizeOf283
  v46 := Tryz.zeroValue283
  t51 := Tryz.underlying78
  a51 := Tryz.isAgg78
  z51 := Tryz.sizeOf78
  v51 := Tryz.zeroValue78
  t53 := Tryz.underlying278
  a53 := Tryz.isAgg278
  z53 := Tryz.sizeOf278
  v53 := Tryz.zeroValue278
  t171 := Tryz.underlying277
  a171 := Tryz.isAgg277
  z171 := Tryz.sizeOf277
  v171 := Tryz.zeroValue277
  t173 := Tryz.underlying281
  a173 := Tryz.isAgg281
  z173 := Tryz.sizeOf281
  v173 := Tryz.zeroValue281
  t212 := Tryz.underlying285
  a212 := Tryz.isAgg285
  z212 := Tryz.sizeOf285
  v212 := Tryz.zeroValue285
  t213 := Tryz.underlying286
  a213 := Tryz.isAgg286
  z213 := Tryz.sizeOf286
  t232 := Tryz.underlying295
  a232 := Tryz.isAgg295
  z232 := Tryz.sizeOf295
  v232 := Tryz.zeroValue295
  t233 := Tryz.underlying296
  a233 := Tryz.isAgg296
  z233 := Tryz.sizeOf296
  v233 := Tryz.zeroValue296
  g17 := by kernel_rfl
  g18 := by kernel_rfl
  g19 := by kernel_rfl }
open Go.RowKit Go.Sort Go.Lib in
/-- THE ROAD WITHOUT THE TABLE: 0 <= i < 100: two constants are read, nothing is laid: no premise on the world, and the world is as it was. (LAID: no walk: one application.) -/
theorem Tryz.internal_strconv_FormatInt_10_small (i : Nat) (hi : i < 100) (w : World) :
    Calls Tryz.prog 184 #[.int .i64 i, .int .i64 10] w fun e w' => e = .returned (.string ⟨(Lib.decDigits i).toArray⟩) ∧ w' = w := Any.internal_strconv_FormatInt_10_small Tryz.lays246 i hi w
def Tryz.laysM243_ren : Go.Shelf.Ren := ⟨fun | 243 => 176 | 246 => 184 | 283 => 192 | 284 => 193 | 285 => 194 | 286 => 195 | 129 => 201 | 317 => 200 | 318 => 202 | 319 => 203 | 320 => 204 | 337 => 206 | 338 => 207 | n => n, fun | 3 => 3 | 9 => 9 | 2 => 2 | 4 => 4 | 171 => 277 | 0 => 0 | 53 => 278 | 37 => 259 | 5 => 5 | 173 => 281 | 212 => 285 | 51 => 78 | 20 => 20 | 213 => 286 | 46 => 283 | 232 => 295 | 233 => 296 | n => n, fun | 17 => 4 | 18 => 7 | 19 => 8 | n => n⟩
theorem Tryz.laysM243 : Go.Proofs.LaysM.n243 Tryz.prog Tryz.laysM243_ren := {
  mixed := by kernel_rfl
  f129 := Tryz.func201.trans (congrArg some (by kernel_rfl))
  f243 := Tryz.func176.trans (congrArg some (by kernel_rfl))
  f246 := Tryz.func184.trans (congrArg some (by kernel_rfl))
  f283 := Tryz.func192.trans (congrArg some (by kernel_rfl))
  f284 := Tryz.func193.trans (congrArg some (by kernel_rfl))
  f285 := Tryz.func194.trans (congrArg some (by kernel_rfl))
  f286 := Tryz.func195.trans (congrArg some (by kernel_rfl))
  f317 := Tryz.func200.trans (congrArg some (by kernel_rfl))
  f318 := Tryz.func202.trans (congrArg some (by kernel_rfl))
  f319 := Tryz.func203.trans (congrArg some (by kernel_rfl))
  f320 := Tryz.func204.trans (congrArg some (by kernel_rfl))
  f337 := Tryz.func206.trans (congrArg some (by kernel_rfl))
  f338 := Tryz.func207.trans (congrArg some (by kernel_rfl))
  t0 := Tryz.underlying0
  a0 := Tryz.isAgg0
  z0 := Tryz.sizeOf0
  v0 := Tryz.zeroValue0
  t2 := Tryz.underlying2
  a2 := Tryz.isAgg2
  z2 := Tryz.sizeOf2
  v2 := Tryz.zeroValue2
  t3 := Tryz.underlying3
  a3 := Tryz.isAgg3
  z3 := Tryz.sizeOf3
  v3 := Tryz.zeroValue3
  t4 := Tryz.underlying4
  a4 := Tryz.isAgg4
  z4 := Tryz.sizeOf4
  v4 := Tryz.zeroValue4
  t5 := Tryz.underlying5
  a5 := Tryz.isAgg5
  z5 := Tryz.sizeOf5
  v5 := Tryz.zeroValue5
  t9 := Tryz.underlying9
  a9 := Tryz.isAgg9
  z9 := Tryz.sizeOf9
  v9 := Tryz.zeroValue9
  t20 := Tryz.underlying20
  a20 := Tryz.isAgg20
  z20 := Tryz.sizeOf20
  v20 := Tryz.zeroValue20
  t37 := Tryz.underlying259
  a37 := Tryz.isAgg259
  z37 := Tryz.sizeOf259
  v37 := Tryz.zeroValue259
  t46 := Tryz.underlying283
  a46 := Tryz.isAgg283
  z46 := Tryz.sizeOf283
  v46 := Tryz.zeroValue283
  t51 := Tryz.underlying78
  a51 := Tryz.isAgg78
  z51 := Tryz.sizeOf78
  v51 := Tryz.zeroValue78
  t53 := Tryz.underlying278
  a53 := Tryz.isAgg278
  z53 := Tryz.sizeOf278
  v53 := Tryz.zeroValue278
  t171 := Tryz.underlying277
  a171 := Tryz.isAgg277
  z171 := Tryz.sizeOf277
  v171 := Tryz.zeroValue277
  t173 := Tryz.underlying281
  a173 := Tryz.isAgg281
  z173 := Tryz.sizeOf281
  v173 := Tryz.zeroValue281
  t212 := Tryz.underlying285
  a212 := Tryz.isAgg285
  z212 := Tryz.sizeOf285
  v212 := Tryz.zeroValue285
  t213 := Tryz.underlying286
  a213 := Tryz.isAgg286
  z213 := Tryz.sizeOf286
  t232 := Tryz.underlying295
  a232 := Tryz.isAgg295
  z232 := Tryz.sizeOf295
  v232 := Tryz.zeroValue295
  t233 := Tryz.underlying296
  a233 := Tryz.isAgg296
  z233 := Tryz.sizeOf296
  v233 := Tryz.zeroValue296
  g17 := by kernel_rfl
  g18 := by kernel_rfl
  g19 := by kernel_rfl
  i0 := by kernel_rfl
  i2 := by kernel_rfl
  i3 := by kernel_rfl
  i4 := by kernel_rfl
  i5 := by kernel_rfl
  i9 := by kernel_rfl
  i20 := by kernel_rfl
  i37 := by kernel_rfl
  i46 := by kernel_rfl
  i51 := by kernel_rfl
  i53 := by kernel_rfl
  i171 := by kernel_rfl
  i173 := by kernel_rfl
  i212 := by kernel_rfl
  i232 := by kernel_rfl
  i233 := by kernel_rfl
  m17 := by kernel_rfl
  m18 := by kernel_rfl
  m19 := by kernel_rfl }
open Go.RowKit Go.Sort Go.Lib in
/-- internal/strconv.Itoa: "Itoa is equivalent to FormatInt(int64(i), 10).": i's decimal numeral, for every int. (LAID: no walk: one application.) -/
theorem Tryz.internal_strconv_Itoa (n : Int) (h0 : -9223372036854775808 ≤ n) (h1 : n ≤ 9223372036854775807) (w : World) (htab : Lib.TabIs Tryz.prog w "internal/strconv.uint64pow10" .u64 Lib.pow10Tab) :
    Calls Tryz.prog 176 #[.int .i64 n] w fun e w' => e = .returned (.string ⟨(Lib.itoa n).toArray⟩) ∧ ∃ k os, w' = grow (w.drewN k) os := Any.internal_strconv_Itoa Tryz.laysM243 n h0 h1 w htab
def Tryz.lays243_ren : Go.Shelf.Ren := ⟨fun | 243 => 176 | 246 => 184 | 283 => 192 | 284 => 193 | 285 => 194 | 286 => 195 | 129 => 201 | 317 => 200 | 318 => 202 | 319 => 203 | 320 => 204 | 337 => 206 | 338 => 207 | n => n, fun | 3 => 3 | 9 => 9 | 2 => 2 | 4 => 4 | 171 => 277 | 0 => 0 | 53 => 278 | 37 => 259 | 5 => 5 | 173 => 281 | 212 => 285 | 51 => 78 | 20 => 20 | 213 => 286 | 46 => 283 | 232 => 295 | 233 => 296 | n => n, fun | 17 => 4 | 18 => 7 | 19 => 8 | n => n⟩
theorem Tryz.lays243 : Go.Proofs.Lays.n243 Tryz.prog Tryz.lays243_ren := {
  mixed := by kernel_rfl
  f129 := Tryz.func201.trans (congrArg some (by kernel_rfl))
  f243 := Tryz.func176.trans (congrArg some (by kernel_rfl))
  f246 := Tryz.func184.trans (congrArg some (by kernel_rfl))
  f283 := Tryz.func192.trans (congrArg some (by kernel_rfl))
  f284 := Tryz.func193.trans (congrArg some (by kernel_rfl))
  f285 := Tryz.func194.trans (congrArg some (by kernel_rfl))
  f286 := Tryz.func195.trans (congrArg some (by kernel_rfl))
  f317 := Tryz.func200.trans (congrArg some (by kernel_rfl))
  f318 := Tryz.func202.trans (congrArg some (by kernel_rfl))
  f319 := Tryz.func203.trans (congrArg some (by kernel_rfl))
  f320 := Tryz.func204.trans (congrArg some (by kernel_rfl))
  f337 := Tryz.func206.trans (congrArg some (by kernel_rfl))
  f338 := Tryz.func207.trans (congrArg some (by kernel_rfl))
  t0 := Tryz.underlying0
  a0 := Tryz.isAgg0
  z0 := Tryz.sizeOf0
  v0 := Tryz.zeroValue0
  t2 := Tryz.underlying2
  a2 := Tryz.isAgg2
  z2 := Tryz.sizeOf2
  v2 := Tryz.zeroValue2
  t3 := Tryz.underlying3
  a3 := Tryz.isAgg3
  z3 := Tryz.sizeOf3
  v3 := Tryz.zeroValue3
  t4 := Tryz.underlying4
  a4 := Tryz.isAgg4
  z4 := Tryz.sizeOf4
  v4 := Tryz.zeroValue4
  t5 := Tryz.underlying5
  a5 := Tryz.isAgg5
  z5 := Tryz.sizeOf5
  v5 := Tryz.zeroValue5
  t9 := Tryz.underlying9
  a9 := Tryz.isAgg9
  z9 := Tryz.sizeOf9
  v9 := Tryz.zeroValue9
  t20 := Tryz.underlying20
  a20 := Tryz.isAgg20
  z20 := Tryz.sizeOf20
  v20 := Tryz.zeroValue20
  t37 := Tryz.underlying259
  a37 := Tryz.isAgg259
  z37 := Tryz.sizeOf259
  v37 := Tryz.zeroValue259
  t46 := Tryz.underlying283
  a46 := Tryz.isAgg283
  z46 := Tryz.sizeOf283
  v46 := Tryz.zeroValue283
  t51 := Tryz.underlying78
  a51 := Tryz.isAgg78
  z51 := Tryz.sizeOf78
  v51 := Tryz.zeroValue78
  t53 := Tryz.underlying278
  a53 := Tryz.isAgg278
  z53 := Tryz.sizeOf278
  v53 := Tryz.zeroValue278
  t171 := Tryz.underlying277
  a171 := Tryz.isAgg277
  z171 := Tryz.sizeOf277
  v171 := Tryz.zeroValue277
  t173 := Tryz.underlying281
  a173 := Tryz.isAgg281
  z173 := Tryz.sizeOf281
  v173 := Tryz.zeroValue281
  t212 := Tryz.underlying285
  a212 := Tryz.isAgg285
  z212 := Tryz.sizeOf285
  v212 := Tryz.zeroValue285
  t213 := Tryz.underlying286
  a213 := Tryz.isAgg286
  z213 := Tryz.sizeOf286
  t232 := Tryz.underlying295
  a232 := Tryz.isAgg295
  z232 := Tryz.sizeOf295
  v232 := Tryz.zeroValue295
  t233 := Tryz.underlying296
  a233 := Tryz.isAgg296
  z233 := Tryz.sizeOf296
  v233 := Tryz.zeroValue296
  g17 := by kernel_rfl
  g18 := by kernel_rfl
  g19 := by kernel_rfl }
open Go.RowKit Go.Sort Go.Lib in
/-- THE ROAD WITHOUT THE TABLE: 0 <= i < 100. (LAID: no walk: one application.) -/
theorem Tryz.internal_strconv_Itoa_small (i : Nat) (hi : i < 100) (w : World) :
    Calls Tryz.prog 176 #[.int .i64 i] w fun e w' => e = .returned (.string ⟨(Lib.decDigits i).toArray⟩) ∧ w' = w := Any.internal_strconv_Itoa_small Tryz.lays243 i hi w
def Tryz.laysM171_ren : Go.Shelf.Ren := ⟨fun | 171 => 163 | 243 => 176 | 246 => 184 | 283 => 192 | 284 => 193 | 285 => 194 | 286 => 195 | 129 => 201 | 317 => 200 | 318 => 202 | 319 => 203 | 320 => 204 | 337 => 206 | 338 => 207 | n => n, fun | 3 => 3 | 9 => 9 | 2 => 2 | 4 => 4 | 171 => 277 | 0 => 0 | 53 => 278 | 37 => 259 | 5 => 5 | 173 => 281 | 212 => 285 | 51 => 78 | 20 => 20 | 213 => 286 | 46 => 283 | 232 => 295 | 233 => 296 | n => n, fun | 17 => 4 | 18 => 7 | 19 => 8 | n => n⟩
theorem Tryz.laysM171 : Go.Proofs.LaysM.n171 Tryz.prog Tryz.laysM171_ren := {
  mixed := by kernel_rfl
  f129 := Tryz.func201.trans (congrArg some (by kernel_rfl))
  f171 := Tryz.func163.trans (congrArg some (by kernel_rfl))
  f243 := Tryz.func176.trans (congrArg some (by kernel_rfl))
  f246 := Tryz.func184.trans (congrArg some (by kernel_rfl))
  f283 := Tryz.func192.trans (congrArg some (by kernel_rfl))
  f284 := Tryz.func193.trans (congrArg some (by kernel_rfl))
  f285 := Tryz.func194.trans (congrArg some (by kernel_rfl))
  f286 := Tryz.func195.trans (congrArg some (by kernel_rfl))
  f317 := Tryz.func200.trans (congrArg some (by kernel_rfl))
  f318 := Tryz.func202.trans (congrArg some (by kernel_rfl))
  f319 := Tryz.func203.trans (congrArg some (by kernel_rfl))
  f320 := Tryz.func204.trans (congrArg some (by kernel_rfl))
  f337 := Tryz.func206.trans (congrArg some (by kernel_rfl))
  f338 := Tryz.func207.trans (congrArg some (by kernel_rfl))
  t0 := Tryz.underlying0
  a0 := Tryz.isAgg0
  z0 := Tryz.sizeOf0
  v0 := Tryz.zeroValue0
  t2 := Tryz.underlying2
  a2 := Tryz.isAgg2
  z2 := Tryz.sizeOf2
  v2 := Tryz.zeroValue2
  t3 := Tryz.underlying3
  a3 := Tryz.isAgg3
  z3 := Tryz.sizeOf3
  v3 := Tryz.zeroValue3
  t4 := Tryz.underlying4
  a4 := Tryz.isAgg4
  z4 := Tryz.sizeOf4
  v4 := Tryz.zeroValue4
  t5 := Tryz.underlying5
  a5 := Tryz.isAgg5
  z5 := Tryz.sizeOf5
  v5 := Tryz.zeroValue5
  t9 := Tryz.underlying9
  a9 := Tryz.isAgg9
  z9 := Tryz.sizeOf9
  v9 := Tryz.zeroValue9
  t20 := Tryz.underlying20
  a20 := Tryz.isAgg20
  z20 := Tryz.sizeOf20
  v20 := Tryz.zeroValue20
  t37 := Tryz.underlying259
  a37 := Tryz.isAgg259
  z37 := Tryz.sizeOf259
  v37 := Tryz.zeroValue259
  t46 := Tryz.underlying283
  a46 := Tryz.isAgg283
  z46 := Tryz.sizeOf283
  v46 := Tryz.zeroValue283
  t51 := Tryz.underlying78
  a51 := Tryz.isAgg78
  z51 := Tryz.sizeOf78
  v51 := Tryz.zeroValue78
  t53 := Tryz.underlying278
  a53 := Tryz.isAgg278
  z53 := Tryz.sizeOf278
  v53 := Tryz.zeroValue278
  t171 := Tryz.underlying277
  a171 := Tryz.isAgg277
  z171 := Tryz.sizeOf277
  v171 := Tryz.zeroValue277
  t173 := Tryz.underlying281
  a173 := Tryz.isAgg281
  z173 := Tryz.sizeOf281
  v173 := Tryz.zeroValue281
  t212 := Tryz.underlying285
  a212 := Tryz.isAgg285
  z212 := Tryz.sizeOf285
  v212 := Tryz.zeroValue285
  t213 := Tryz.underlying286
  a213 := Tryz.isAgg286
  z213 := Tryz.sizeOf286
  t232 := Tryz.underlying295
  a232 := Tryz.isAgg295
  z232 := Tryz.sizeOf295
  v232 := Tryz.zeroValue295
  t233 := Tryz.underlying296
  a233 := Tryz.isAgg296
  z233 := Tryz.sizeOf296
  v233 := Tryz.zeroValue296
  g17 := by kernel_rfl
  g18 := by kernel_rfl
  g19 := by kernel_rfl
  i0 := by kernel_rfl
  i2 := by kernel_rfl
  i3 := by kernel_rfl
  i4 := by kernel_rfl
  i5 := by kernel_rfl
  i9 := by kernel_rfl
  i20 := by kernel_rfl
  i37 := by kernel_rfl
  i46 := by kernel_rfl
  i51 := by kernel_rfl
  i53 := by kernel_rfl
  i171 := by kernel_rfl
  i173 := by kernel_rfl
  i212 := by kernel_rfl
  i232 := by kernel_rfl
  i233 := by kernel_rfl
  m17 := by kernel_rfl
  m18 := by kernel_rfl
  m19 := by kernel_rfl }
open Go.RowKit Go.Sort Go.Lib in
/-- strconv.Itoa: "Itoa is equivalent to FormatInt(int64(i), 10).": i's DECIMAL NUMERAL ('Lib.itoa': a '-' where i is negative, then the digits), FOR EVERY int. The world behind the call: the world before it, new blocks behind the heap (the library's 'var a [24]byte'), draws. (LAID: no walk: one application.) -/
theorem Tryz.strconv_Itoa (n : Int) (h0 : -9223372036854775808 ≤ n) (h1 : n ≤ 9223372036854775807) (w : World) (htab : Lib.TabIs Tryz.prog w "internal/strconv.uint64pow10" .u64 Lib.pow10Tab) :
    Calls Tryz.prog 163 #[.int .i64 n] w fun e w' => e = .returned (.string ⟨(Lib.itoa n).toArray⟩) ∧ ∃ k os, w' = grow (w.drewN k) os := Any.strconv_Itoa Tryz.laysM171 n h0 h1 w htab
def Tryz.lays171_ren : Go.Shelf.Ren := ⟨fun | 171 => 163 | 243 => 176 | 246 => 184 | 283 => 192 | 284 => 193 | 285 => 194 | 286 => 195 | 129 => 201 | 317 => 200 | 318 => 202 | 319 => 203 | 320 => 204 | 337 => 206 | 338 => 207 | n => n, fun | 3 => 3 | 9 => 9 | 2 => 2 | 4 => 4 | 171 => 277 | 0 => 0 | 53 => 278 | 37 => 259 | 5 => 5 | 173 => 281 | 212 => 285 | 51 => 78 | 20 => 20 | 213 => 286 | 46 => 283 | 232 => 295 | 233 => 296 | n => n, fun | 17 => 4 | 18 => 7 | 19 => 8 | n => n⟩
theorem Tryz.lays171 : Go.Proofs.Lays.n171 Tryz.prog Tryz.lays171_ren := {
  mixed := by kernel_rfl
  f129 := Tryz.func201.trans (congrArg some (by kernel_rfl))
  f171 := Tryz.func163.trans (congrArg some (by kernel_rfl))
  f243 := Tryz.func176.trans (congrArg some (by kernel_rfl))
  f246 := Tryz.func184.trans (congrArg some (by kernel_rfl))
  f283 := Tryz.func192.trans (congrArg some (by kernel_rfl))
  f284 := Tryz.func193.trans (congrArg some (by kernel_rfl))
  f285 := Tryz.func194.trans (congrArg some (by kernel_rfl))
  f286 := Tryz.func195.trans (congrArg some (by kernel_rfl))
  f317 := Tryz.func200.trans (congrArg some (by kernel_rfl))
  f318 := Tryz.func202.trans (congrArg some (by kernel_rfl))
  f319 := Tryz.func203.trans (congrArg some (by kernel_rfl))
  f320 := Tryz.func204.trans (congrArg some (by kernel_rfl))
  f337 := Tryz.func206.trans (congrArg some (by kernel_rfl))
  f338 := Tryz.func207.trans (congrArg some (by kernel_rfl))
  t0 := Tryz.underlying0
  a0 := Tryz.isAgg0
  z0 := Tryz.sizeOf0
  v0 := Tryz.zeroValue0
  t2 := Tryz.underlying2
  a2 := Tryz.isAgg2
  z2 := Tryz.sizeOf2
  v2 := Tryz.zeroValue2
  t3 := Tryz.underlying3
  a3 := Tryz.isAgg3
  z3 := Tryz.sizeOf3
  v3 := Tryz.zeroValue3
  t4 := Tryz.underlying4
  a4 := Tryz.isAgg4
  z4 := Tryz.sizeOf4
  v4 := Tryz.zeroValue4
  t5 := Tryz.underlying5
  a5 := Tryz.isAgg5
  z5 := Tryz.sizeOf5
  v5 := Tryz.zeroValue5
  t9 := Tryz.underlying9
  a9 := Tryz.isAgg9
  z9 := Tryz.sizeOf9
  v9 := Tryz.zeroValue9
  t20 := Tryz.underlying20
  a20 := Tryz.isAgg20
  z20 := Tryz.sizeOf20
  v20 := Tryz.zeroValue20
  t37 := Tryz.underlying259
  a37 := Tryz.isAgg259
  z37 := Tryz.sizeOf259
  v37 := Tryz.zeroValue259
  t46 := Tryz.underlying283
  a46 := Tryz.isAgg283
  z46 := Tryz.sizeOf283
  v46 := Tryz.zeroValue283
  t51 := Tryz.underlying78
  a51 := Tryz.isAgg78
  z51 := Tryz.sizeOf78
  v51 := Tryz.zeroValue78
  t53 := Tryz.underlying278
  a53 := Tryz.isAgg278
  z53 := Tryz.sizeOf278
  v53 := Tryz.zeroValue278
  t171 := Tryz.underlying277
  a171 := Tryz.isAgg277
  z171 := Tryz.sizeOf277
  v171 := Tryz.zeroValue277
  t173 := Tryz.underlying281
  a173 := Tryz.isAgg281
  z173 := Tryz.sizeOf281
  v173 := Tryz.zeroValue281
  t212 := Tryz.underlying285
  a212 := Tryz.isAgg285
  z212 := Tryz.sizeOf285
  v212 := Tryz.zeroValue285
  t213 := Tryz.underlying286
  a213 := Tryz.isAgg286
  z213 := Tryz.sizeOf286
  t232 := Tryz.underlying295
  a232 := Tryz.isAgg295
  z232 := Tryz.sizeOf295
  v232 := Tryz.zeroValue295
  t233 := Tryz.underlying296
  a233 := Tryz.isAgg296
  z233 := Tryz.sizeOf296
  v233 := Tryz.zeroValue296
  g17 := by kernel_rfl
  g18 := by kernel_rfl
  g19 := by kernel_rfl }
open Go.RowKit Go.Sort Go.Lib in
/-- THE ROAD WITHOUT THE TABLE: 0 <= i < 100: NO PREMISE ON THE WORLD, AND THE WORLD IS AS IT WAS: a row that keeps its argument in that range need list no table ('laid = []'). (LAID: no walk: one application.) -/
theorem Tryz.strconv_Itoa_small (i : Nat) (hi : i < 100) (w : World) :
    Calls Tryz.prog 163 #[.int .i64 i] w fun e w' => e = .returned (.string ⟨(Lib.decDigits i).toArray⟩) ∧ w' = w := Any.strconv_Itoa_small Tryz.lays171 i hi w
def Tryz.lays217_ren : Go.Shelf.Ren := ⟨fun | 217 => 177 | 266 => 185 | n => n, fun | 9 => 9 | 5 => 5 | 3 => 3 | n => n, fun | n => n⟩
theorem Tryz.lays217 : Go.Proofs.Lays.n217 Tryz.prog Tryz.lays217_ren := {
  mixed := by kernel_rfl
  f217 := Tryz.func177.trans (congrArg some (by kernel_rfl))
  f266 := Tryz.func185.trans (congrArg some (by kernel_rfl))
  t3 := Tryz.underlying3
  a3 := Tryz.isAgg3
  z3 := Tryz.sizeOf3
  v3 := Tryz.zeroValue3
  t5 := Tryz.underlying5
  a5 := Tryz.isAgg5
  z5 := Tryz.sizeOf5
  v5 := Tryz.zeroValue5
  t9 := Tryz.underlying9
  a9 := Tryz.isAgg9
  z9 := Tryz.sizeOf9
  v9 := Tryz.zeroValue9 }
open Go.RowKit Go.Lib in
/-- internal/stringslite.IndexByte (what strings.IndexByte calls): IT RETURNS 'Lib.indexByte s c'; the world is as it was. (LAID: no walk: one application.) -/
theorem Tryz.stringslite_IndexByte (s : ByteArray) (c : Int) (w : World) :
    Calls Tryz.prog 177 #[.string s, .int .u8 c] w fun e w' => e = .returned (.int .i64 (Lib.indexByte s.data.toList c.toNat.toUInt8)) ∧ w' = w := Any.stringslite_IndexByte Tryz.lays217 s c w
def Tryz.lays224_ren : Go.Shelf.Ren := ⟨fun | 224 => 198 | n => n, fun | 3 => 3 | n => n, fun | n => n⟩
theorem Tryz.lays224 : Go.Proofs.Lays.n224 Tryz.prog Tryz.lays224_ren := {
  mixed := by kernel_rfl
  f224 := Tryz.func198.trans (congrArg some (by kernel_rfl))
  t3 := Tryz.underlying3
  a3 := Tryz.isAgg3
  z3 := Tryz.sizeOf3
  v3 := Tryz.zeroValue3 }
open Go.RowKit Go.Lib in
/-- internal/bytealg.Cutover: "Cutover reports the number of failures of IndexByte we should tolerate before switching over to Index. n is the number of bytes processed so far.": on amd64: (n + 16) / 8. (LAID: no walk: one application.) -/
theorem Tryz.bytealg_Cutover (n : Int) (h0 : 0 ≤ n) (h1 : n < 4611686018427387904) (w : World) :
    Calls Tryz.prog 198 #[.int .i64 n] w fun e w' => e = .returned (.int .i64 ((n + 16) / 8)) ∧ w' = w := Any.bytealg_Cutover Tryz.lays224 n h0 h1 w
def Tryz.lays314_ren : Go.Shelf.Ren := ⟨fun | 314 => 205 | n => n, fun | 9 => 9 | 51 => 78 | 3 => 3 | 4 => 4 | 5 => 5 | 46 => 283 | n => n, fun | n => n⟩
theorem Tryz.lays314 : Go.Proofs.Lays.n314 Tryz.prog Tryz.lays314_ren := {
  mixed := by kernel_rfl
  f314 := Tryz.func205.trans (congrArg some (by kernel_rfl))
  t3 := Tryz.underlying3
  a3 := Tryz.isAgg3
  z3 := Tryz.sizeOf3
  v3 := Tryz.zeroValue3
  t4 := Tryz.underlying4
  a4 := Tryz.isAgg4
  z4 := Tryz.sizeOf4
  v4 := Tryz.zeroValue4
  t5 := Tryz.underlying5
  a5 := Tryz.isAgg5
  z5 := Tryz.sizeOf5
  v5 := Tryz.zeroValue5
  t9 := Tryz.underlying9
  a9 := Tryz.isAgg9
  z9 := Tryz.sizeOf9
  v9 := Tryz.zeroValue9
  t46 := Tryz.underlying283
  a46 := Tryz.isAgg283
  z46 := Tryz.sizeOf283
  v46 := Tryz.zeroValue283
  t51 := Tryz.underlying78
  a51 := Tryz.isAgg78
  z51 := Tryz.sizeOf78
  v51 := Tryz.zeroValue78 }
open Go.RowKit Go.Lib in
/-- hashStr: "returns the hash and the appropriate multiplicative factor for use in Rabin-Karp algorithm": THE HASH OF ALL OF sep, AND 16777619 ^ len(sep), both in uint32. (LAID: no walk: one application.) -/
theorem Tryz.bytealg_hashStr (sep : ByteArray) (hs : sep.size < 4294967281) (w : World) :
    Calls Tryz.prog 205 #[.string sep] w fun e w' => e = .returned (.tuple #[.int .u32 (RK.H sep.data.toList % 4294967296), .int .u32 (16777619 ^ sep.size % 4294967296)]) ∧ w' = w := Any.bytealg_hashStr Tryz.lays314 sep hs w
def Tryz.lays267_ren : Go.Shelf.Ren := ⟨fun | 267 => 199 | 314 => 205 | n => n, fun | 9 => 9 | 3 => 3 | 146 => 292 | 51 => 78 | 4 => 4 | 5 => 5 | 46 => 283 | n => n, fun | n => n⟩
theorem Tryz.lays267 : Go.Proofs.Lays.n267 Tryz.prog Tryz.lays267_ren := {
  mixed := by kernel_rfl
  f267 := Tryz.func199.trans (congrArg some (by kernel_rfl))
  f314 := Tryz.func205.trans (congrArg some (by kernel_rfl))
  t3 := Tryz.underlying3
  a3 := Tryz.isAgg3
  z3 := Tryz.sizeOf3
  v3 := Tryz.zeroValue3
  t4 := Tryz.underlying4
  a4 := Tryz.isAgg4
  z4 := Tryz.sizeOf4
  v4 := Tryz.zeroValue4
  t5 := Tryz.underlying5
  a5 := Tryz.isAgg5
  z5 := Tryz.sizeOf5
  v5 := Tryz.zeroValue5
  t9 := Tryz.underlying9
  a9 := Tryz.isAgg9
  z9 := Tryz.sizeOf9
  v9 := Tryz.zeroValue9
  t46 := Tryz.underlying283
  a46 := Tryz.isAgg283
  z46 := Tryz.sizeOf283
  v46 := Tryz.zeroValue283
  t51 := Tryz.underlying78
  a51 := Tryz.isAgg78
  z51 := Tryz.sizeOf78
  v51 := Tryz.zeroValue78
  t146 := Tryz.underlying292
  a146 := Tryz.isAgg292
  z146 := Tryz.sizeOf292
  v146 := Tryz.zeroValue292 }
open Go.RowKit Go.Lib in
theorem Tryz.bytealg_IndexRabinKarp (s sep : ByteArray) (h1 : 1 ≤ sep.size) (h2 : sep.size ≤ s.size) (hs : s.size < 4294967281) (w : World) :
    Calls Tryz.prog 199 #[.string s, .string sep] w fun e w' => e = .returned (.int .i64 (Lib.index s.data.toList sep.data.toList)) ∧ w' = w := Any.bytealg_IndexRabinKarp Tryz.lays267 s sep h1 h2 hs w
def Tryz.lays219_ren : Go.Shelf.Ren := ⟨fun | 219 => 189 | 217 => 177 | 225 => 197 | 224 => 198 | 267 => 199 | 266 => 185 | 314 => 205 | n => n, fun | 9 => 9 | 3 => 3 | 4 => 4 | 5 => 5 | 46 => 283 | 146 => 292 | 51 => 78 | n => n, fun | 1 => 3 | n => n⟩
theorem Tryz.lays219 : Go.Proofs.Lays.n219 Tryz.prog Tryz.lays219_ren := {
  mixed := by kernel_rfl
  f217 := Tryz.func177.trans (congrArg some (by kernel_rfl))
  f219 := Tryz.func189.trans (congrArg some (by kernel_rfl))
  f224 := Tryz.func198.trans (congrArg some (by kernel_rfl))
  f225 := Tryz.func197.trans (congrArg some (by kernel_rfl))
  f266 := Tryz.func185.trans (congrArg some (by kernel_rfl))
  f267 := Tryz.func199.trans (congrArg some (by kernel_rfl))
  f314 := Tryz.func205.trans (congrArg some (by kernel_rfl))
  t3 := Tryz.underlying3
  a3 := Tryz.isAgg3
  z3 := Tryz.sizeOf3
  v3 := Tryz.zeroValue3
  t4 := Tryz.underlying4
  a4 := Tryz.isAgg4
  z4 := Tryz.sizeOf4
  v4 := Tryz.zeroValue4
  t5 := Tryz.underlying5
  a5 := Tryz.isAgg5
  z5 := Tryz.sizeOf5
  v5 := Tryz.zeroValue5
  t9 := Tryz.underlying9
  a9 := Tryz.isAgg9
  z9 := Tryz.sizeOf9
  v9 := Tryz.zeroValue9
  t46 := Tryz.underlying283
  a46 := Tryz.isAgg283
  z46 := Tryz.sizeOf283
  v46 := Tryz.zeroValue283
  t51 := Tryz.underlying78
  a51 := Tryz.isAgg78
  z51 := Tryz.sizeOf78
  v51 := Tryz.zeroValue78
  t146 := Tryz.underlying292
  a146 := Tryz.isAgg292
  z146 := Tryz.sizeOf292
  v146 := Tryz.zeroValue292
  g1 := by kernel_rfl }
open Go.RowKit Go.Lib in
/-- internal/stringslite.Index (what strings.Index calls) AT A substr OF ONE BYTE c: IT RETURNS 'Lib.indexByte s c'; the world is as it was. (LAID: no walk: one application.) -/
theorem Tryz.stringslite_Index_one (s : ByteArray) (c : UInt8) (w : World) :
    Calls Tryz.prog 189 #[.string s, .string ⟨#[c]⟩] w fun e w' => e = .returned (.int .i64 (Lib.indexByte s.data.toList c)) ∧ w' = w := Any.stringslite_Index_one Tryz.lays219 s c w
open Go.RowKit Go.Lib in
/-- internal/stringslite.Index (what strings.Index calls) AT A substr OF WHATEVER LENGTH: IT RETURNS 'Lib.index s substr'; the world is as it was. 'm': what internal/bytealg.MaxLen holds: whatever. (LAID: no walk: one application.) -/
theorem Tryz.stringslite_Index (s sub : ByteArray) (m : Int) (w : World) (hs : s.size < 4294967281) (hm : w.cell? ⟨3, 0, none⟩ = some (.int .i64 m)) :
    Calls Tryz.prog 189 #[.string s, .string sub] w fun e w' => e = .returned (.int .i64 (Lib.index s.data.toList sub.data.toList)) ∧ w' = w := Any.stringslite_Index Tryz.lays219 s sub m w hs hm
def Tryz.lays143_ren : Go.Shelf.Ren := ⟨fun | 143 => 181 | 219 => 189 | 217 => 177 | 225 => 197 | 224 => 198 | 267 => 199 | 266 => 185 | 314 => 205 | n => n, fun | 9 => 9 | 3 => 3 | 4 => 4 | 5 => 5 | 46 => 283 | 146 => 292 | 51 => 78 | n => n, fun | 1 => 3 | n => n⟩
theorem Tryz.lays143 : Go.Proofs.Lays.n143 Tryz.prog Tryz.lays143_ren := {
  mixed := by kernel_rfl
  f143 := Tryz.func181.trans (congrArg some (by kernel_rfl))
  f217 := Tryz.func177.trans (congrArg some (by kernel_rfl))
  f219 := Tryz.func189.trans (congrArg some (by kernel_rfl))
  f224 := Tryz.func198.trans (congrArg some (by kernel_rfl))
  f225 := Tryz.func197.trans (congrArg some (by kernel_rfl))
  f266 := Tryz.func185.trans (congrArg some (by kernel_rfl))
  f267 := Tryz.func199.trans (congrArg some (by kernel_rfl))
  f314 := Tryz.func205.trans (congrArg some (by kernel_rfl))
  t3 := Tryz.underlying3
  a3 := Tryz.isAgg3
  z3 := Tryz.sizeOf3
  v3 := Tryz.zeroValue3
  t4 := Tryz.underlying4
  a4 := Tryz.isAgg4
  z4 := Tryz.sizeOf4
  v4 := Tryz.zeroValue4
  t5 := Tryz.underlying5
  a5 := Tryz.isAgg5
  z5 := Tryz.sizeOf5
  v5 := Tryz.zeroValue5
  t9 := Tryz.underlying9
  a9 := Tryz.isAgg9
  z9 := Tryz.sizeOf9
  v9 := Tryz.zeroValue9
  t46 := Tryz.underlying283
  a46 := Tryz.isAgg283
  z46 := Tryz.sizeOf283
  v46 := Tryz.zeroValue283
  t51 := Tryz.underlying78
  a51 := Tryz.isAgg78
  z51 := Tryz.sizeOf78
  v51 := Tryz.zeroValue78
  t146 := Tryz.underlying292
  a146 := Tryz.isAgg292
  z146 := Tryz.sizeOf292
  v146 := Tryz.zeroValue292
  g1 := by kernel_rfl }
open Go.RowKit Go.Lib in
/-- strings.Index: "Index returns the index of the first instance of substr in s, or -1 if substr is not present in s.": AT A substr OF ONE BYTE c: IT RETURNS 'Lib.indexByte s c'; the world is as it was. (LAID: no walk: one application.) -/
theorem Tryz.strings_Index_one (s : ByteArray) (c : UInt8) (w : World) :
    Calls Tryz.prog 181 #[.string s, .string ⟨#[c]⟩] w fun e w' => e = .returned (.int .i64 (Lib.indexByte s.data.toList c)) ∧ w' = w := Any.strings_Index_one Tryz.lays143 s c w
open Go.RowKit Go.Lib in
/-- strings.Index: "Index returns the index of the first instance of substr in s, or -1 if substr is not present in s.": IT RETURNS 'Lib.index s substr'; the world is as it was. (LAID: no walk: one application.) -/
theorem Tryz.strings_Index (s sub : ByteArray) (m : Int) (w : World) (hs : s.size < 4294967281) (hm : w.cell? ⟨3, 0, none⟩ = some (.int .i64 m)) :
    Calls Tryz.prog 181 #[.string s, .string sub] w fun e w' => e = .returned (.int .i64 (Lib.index s.data.toList sub.data.toList)) ∧ w' = w := Any.strings_Index Tryz.lays143 s sub m w hs hm
def Tryz.lays138_ren : Go.Shelf.Ren := ⟨fun | 138 => 180 | 195 => 186 | 218 => 188 | 143 => 181 | 219 => 189 | 217 => 177 | 225 => 197 | 224 => 198 | 267 => 199 | 266 => 185 | 314 => 205 | n => n, fun | 9 => 9 | 3 => 3 | 4 => 4 | 5 => 5 | 0 => 0 | 46 => 283 | 146 => 292 | 51 => 78 | n => n, fun | 1 => 3 | n => n⟩
theorem Tryz.lays138 : Go.Proofs.Lays.n138 Tryz.prog Tryz.lays138_ren := {
  mixed := by kernel_rfl
  f138 := Tryz.func180.trans (congrArg some (by kernel_rfl))
  f143 := Tryz.func181.trans (congrArg some (by kernel_rfl))
  f195 := Tryz.func186.trans (congrArg some (by kernel_rfl))
  f217 := Tryz.func177.trans (congrArg some (by kernel_rfl))
  f218 := Tryz.func188.trans (congrArg some (by kernel_rfl))
  f219 := Tryz.func189.trans (congrArg some (by kernel_rfl))
  f224 := Tryz.func198.trans (congrArg some (by kernel_rfl))
  f225 := Tryz.func197.trans (congrArg some (by kernel_rfl))
  f266 := Tryz.func185.trans (congrArg some (by kernel_rfl))
  f267 := Tryz.func199.trans (congrArg some (by kernel_rfl))
  f314 := Tryz.func205.trans (congrArg some (by kernel_rfl))
  t0 := Tryz.underlying0
  a0 := Tryz.isAgg0
  z0 := Tryz.sizeOf0
  v0 := Tryz.zeroValue0
  t3 := Tryz.underlying3
  a3 := Tryz.isAgg3
  z3 := Tryz.sizeOf3
  v3 := Tryz.zeroValue3
  t4 := Tryz.underlying4
  a4 := Tryz.isAgg4
  z4 := Tryz.sizeOf4
  v4 := Tryz.zeroValue4
  t5 := Tryz.underlying5
  a5 := Tryz.isAgg5
  z5 := Tryz.sizeOf5
  v5 := Tryz.zeroValue5
  t9 := Tryz.underlying9
  a9 := Tryz.isAgg9
  z9 := Tryz.sizeOf9
  v9 := Tryz.zeroValue9
  t46 := Tryz.underlying283
  a46 := Tryz.isAgg283
  z46 := Tryz.sizeOf283
  v46 := Tryz.zeroValue283
  t51 := Tryz.underlying78
  a51 := Tryz.isAgg78
  z51 := Tryz.sizeOf78
  v51 := Tryz.zeroValue78
  t146 := Tryz.underlying292
  a146 := Tryz.isAgg292
  z146 := Tryz.sizeOf292
  v146 := Tryz.zeroValue292
  g1 := by kernel_rfl }
open Go.RowKit Go.Lib in
/-- strings.Count AT A substr OF ONE BYTE ('hp'): "Count counts the number of non-overlapping instances of substr in s.": IT RETURNS 'Lib.countByte s (that byte)'; the world is as it was. ✋ NO CONTRACT HERE YET at an empty substr (utf8.RuneCountInString) or at a longer one (a loop over strings.Index). (LAID: no walk: one application.) -/
theorem Tryz.strings_Count_one (s : ByteArray) (c : UInt8) (w : World) :
    Calls Tryz.prog 180 #[.string s, .string ⟨#[c]⟩] w fun e w' => e = .returned (.int .i64 (Lib.countByte s.data.toList c)) ∧ w' = w := Any.strings_Count_one Tryz.lays138 s c w
open Go.RowKit Go.Lib in
/-- strings.Count AT A substr OF TWO BYTES OR MORE: "Count counts the number of non-overlapping instances of substr in s.": IT RETURNS 'Lib.count s substr'; the world is as it was. (LAID: no walk: one application.) -/
theorem Tryz.strings_Count (s sub : ByteArray) (m : Int) (w : World) (hs : s.size < 4294967281) (hm : w.cell? ⟨3, 0, none⟩ = some (.int .i64 m)) (h2 : 2 ≤ sub.size) :
    Calls Tryz.prog 180 #[.string s, .string sub] w fun e w' => e = .returned (.int .i64 (Lib.countB s sub)) ∧ w' = w := Any.strings_Count Tryz.lays138 s sub m w hs hm h2
def Tryz.laysM219_ren : Go.Shelf.Ren := ⟨fun | 219 => 189 | 217 => 177 | 225 => 197 | 224 => 198 | 267 => 199 | 266 => 185 | 314 => 205 | n => n, fun | 9 => 9 | 3 => 3 | 4 => 4 | 5 => 5 | 46 => 283 | 146 => 292 | 51 => 78 | n => n, fun | 1 => 3 | n => n⟩
theorem Tryz.laysM219 : Go.Proofs.LaysM.n219 Tryz.prog Tryz.laysM219_ren := {
  mixed := by kernel_rfl
  f217 := Tryz.func177.trans (congrArg some (by kernel_rfl))
  f219 := Tryz.func189.trans (congrArg some (by kernel_rfl))
  f224 := Tryz.func198.trans (congrArg some (by kernel_rfl))
  f225 := Tryz.func197.trans (congrArg some (by kernel_rfl))
  f266 := Tryz.func185.trans (congrArg some (by kernel_rfl))
  f267 := Tryz.func199.trans (congrArg some (by kernel_rfl))
  f314 := Tryz.func205.trans (congrArg some (by kernel_rfl))
  t3 := Tryz.underlying3
  a3 := Tryz.isAgg3
  z3 := Tryz.sizeOf3
  v3 := Tryz.zeroValue3
  t4 := Tryz.underlying4
  a4 := Tryz.isAgg4
  z4 := Tryz.sizeOf4
  v4 := Tryz.zeroValue4
  t5 := Tryz.underlying5
  a5 := Tryz.isAgg5
  z5 := Tryz.sizeOf5
  v5 := Tryz.zeroValue5
  t9 := Tryz.underlying9
  a9 := Tryz.isAgg9
  z9 := Tryz.sizeOf9
  v9 := Tryz.zeroValue9
  t46 := Tryz.underlying283
  a46 := Tryz.isAgg283
  z46 := Tryz.sizeOf283
  v46 := Tryz.zeroValue283
  t51 := Tryz.underlying78
  a51 := Tryz.isAgg78
  z51 := Tryz.sizeOf78
  v51 := Tryz.zeroValue78
  t146 := Tryz.underlying292
  a146 := Tryz.isAgg292
  z146 := Tryz.sizeOf292
  v146 := Tryz.zeroValue292
  g1 := by kernel_rfl
  i3 := by kernel_rfl
  i4 := by kernel_rfl
  i5 := by kernel_rfl
  i9 := by kernel_rfl
  i46 := by kernel_rfl
  i51 := by kernel_rfl
  i146 := by kernel_rfl
  m1 := by kernel_rfl
  s1_3 := fun w h => Go.Proofs.cell_of_shapedOpen_int (zero := #[.int .i64 0]) (t := 3) h (of_decide_eq_true (by kernel_rfl)) (by kernel_rfl) rfl (by kernel_rfl) (by kernel_rfl) Tryz.underlying3 }
open Go.RowKit Go.Lib in
theorem Tryz.stringslite_Index_shaped (s sub : ByteArray) (w : World) (h : w.ShapedOpen Tryz.prog) (hs : s.size < 4294967281) :
    Calls Tryz.prog 189 #[.string s, .string sub] w fun e w' => e = .returned (.int .i64 (Lib.index s.data.toList sub.data.toList)) ∧ w' = w := Any.stringslite_Index_shaped Tryz.laysM219 s sub w h hs
def Tryz.laysM143_ren : Go.Shelf.Ren := ⟨fun | 143 => 181 | 219 => 189 | 217 => 177 | 225 => 197 | 224 => 198 | 267 => 199 | 266 => 185 | 314 => 205 | n => n, fun | 9 => 9 | 3 => 3 | 4 => 4 | 5 => 5 | 46 => 283 | 146 => 292 | 51 => 78 | n => n, fun | 1 => 3 | n => n⟩
theorem Tryz.laysM143 : Go.Proofs.LaysM.n143 Tryz.prog Tryz.laysM143_ren := {
  mixed := by kernel_rfl
  f143 := Tryz.func181.trans (congrArg some (by kernel_rfl))
  f217 := Tryz.func177.trans (congrArg some (by kernel_rfl))
  f219 := Tryz.func189.trans (congrArg some (by kernel_rfl))
  f224 := Tryz.func198.trans (congrArg some (by kernel_rfl))
  f225 := Tryz.func197.trans (congrArg some (by kernel_rfl))
  f266 := Tryz.func185.trans (congrArg some (by kernel_rfl))
  f267 := Tryz.func199.trans (congrArg some (by kernel_rfl))
  f314 := Tryz.func205.trans (congrArg some (by kernel_rfl))
  t3 := Tryz.underlying3
  a3 := Tryz.isAgg3
  z3 := Tryz.sizeOf3
  v3 := Tryz.zeroValue3
  t4 := Tryz.underlying4
  a4 := Tryz.isAgg4
  z4 := Tryz.sizeOf4
  v4 := Tryz.zeroValue4
  t5 := Tryz.underlying5
  a5 := Tryz.isAgg5
  z5 := Tryz.sizeOf5
  v5 := Tryz.zeroValue5
  t9 := Tryz.underlying9
  a9 := Tryz.isAgg9
  z9 := Tryz.sizeOf9
  v9 := Tryz.zeroValue9
  t46 := Tryz.underlying283
  a46 := Tryz.isAgg283
  z46 := Tryz.sizeOf283
  v46 := Tryz.zeroValue283
  t51 := Tryz.underlying78
  a51 := Tryz.isAgg78
  z51 := Tryz.sizeOf78
  v51 := Tryz.zeroValue78
  t146 := Tryz.underlying292
  a146 := Tryz.isAgg292
  z146 := Tryz.sizeOf292
  v146 := Tryz.zeroValue292
  g1 := by kernel_rfl
  i3 := by kernel_rfl
  i4 := by kernel_rfl
  i5 := by kernel_rfl
  i9 := by kernel_rfl
  i46 := by kernel_rfl
  i51 := by kernel_rfl
  i146 := by kernel_rfl
  m1 := by kernel_rfl
  s1_3 := fun w h => Go.Proofs.cell_of_shapedOpen_int (zero := #[.int .i64 0]) (t := 3) h (of_decide_eq_true (by kernel_rfl)) (by kernel_rfl) rfl (by kernel_rfl) (by kernel_rfl) Tryz.underlying3 }
open Go.RowKit Go.Lib in
theorem Tryz.strings_Index_shaped (s sub : ByteArray) (w : World) (h : w.ShapedOpen Tryz.prog) (hs : s.size < 4294967281) :
    Calls Tryz.prog 181 #[.string s, .string sub] w fun e w' => e = .returned (.int .i64 (Lib.index s.data.toList sub.data.toList)) ∧ w' = w := Any.strings_Index_shaped Tryz.laysM143 s sub w h hs
def Tryz.laysM138_ren : Go.Shelf.Ren := ⟨fun | 138 => 180 | 195 => 186 | 218 => 188 | 143 => 181 | 219 => 189 | 217 => 177 | 225 => 197 | 224 => 198 | 267 => 199 | 266 => 185 | 314 => 205 | n => n, fun | 9 => 9 | 3 => 3 | 4 => 4 | 5 => 5 | 0 => 0 | 46 => 283 | 146 => 292 | 51 => 78 | n => n, fun | 1 => 3 | n => n⟩
theorem Tryz.laysM138 : Go.Proofs.LaysM.n138 Tryz.prog Tryz.laysM138_ren := {
  mixed := by kernel_rfl
  f138 := Tryz.func180.trans (congrArg some (by kernel_rfl))
  f143 := Tryz.func181.trans (congrArg some (by kernel_rfl))
  f195 := Tryz.func186.trans (congrArg some (by kernel_rfl))
  f217 := Tryz.func177.trans (congrArg some (by kernel_rfl))
  f218 := Tryz.func188.trans (congrArg some (by kernel_rfl))
  f219 := Tryz.func189.trans (congrArg some (by kernel_rfl))
  f224 := Tryz.func198.trans (congrArg some (by kernel_rfl))
  f225 := Tryz.func197.trans (congrArg some (by kernel_rfl))
  f266 := Tryz.func185.trans (congrArg some (by kernel_rfl))
  f267 := Tryz.func199.trans (congrArg some (by kernel_rfl))
  f314 := Tryz.func205.trans (congrArg some (by kernel_rfl))
  t0 := Tryz.underlying0
  a0 := Tryz.isAgg0
  z0 := Tryz.sizeOf0
  v0 := Tryz.zeroValue0
  t3 := Tryz.underlying3
  a3 := Tryz.isAgg3
  z3 := Tryz.sizeOf3
  v3 := Tryz.zeroValue3
  t4 := Tryz.underlying4
  a4 := Tryz.isAgg4
  z4 := Tryz.sizeOf4
  v4 := Tryz.zeroValue4
  t5 := Tryz.underlying5
  a5 := Tryz.isAgg5
  z5 := Tryz.sizeOf5
  v5 := Tryz.zeroValue5
  t9 := Tryz.underlying9
  a9 := Tryz.isAgg9
  z9 := Tryz.sizeOf9
  v9 := Tryz.zeroValue9
  t46 := Tryz.underlying283
  a46 := Tryz.isAgg283
  z46 := Tryz.sizeOf283
  v46 := Tryz.zeroValue283
  t51 := Tryz.underlying78
  a51 := Tryz.isAgg78
  z51 := Tryz.sizeOf78
  v51 := Tryz.zeroValue78
  t146 := Tryz.underlying292
  a146 := Tryz.isAgg292
  z146 := Tryz.sizeOf292
  v146 := Tryz.zeroValue292
  g1 := by kernel_rfl
  i0 := by kernel_rfl
  i3 := by kernel_rfl
  i4 := by kernel_rfl
  i5 := by kernel_rfl
  i9 := by kernel_rfl
  i46 := by kernel_rfl
  i51 := by kernel_rfl
  i146 := by kernel_rfl
  m1 := by kernel_rfl
  s1_3 := fun w h => Go.Proofs.cell_of_shapedOpen_int (zero := #[.int .i64 0]) (t := 3) h (of_decide_eq_true (by kernel_rfl)) (by kernel_rfl) rfl (by kernel_rfl) (by kernel_rfl) Tryz.underlying3 }
open Go.RowKit Go.Lib in
theorem Tryz.strings_Count_shaped (s sub : ByteArray) (w : World) (h : w.ShapedOpen Tryz.prog) (hs : s.size < 4294967281) (h2 : 2 ≤ sub.size) :
    Calls Tryz.prog 180 #[.string s, .string sub] w fun e w' => e = .returned (.int .i64 (Lib.countB s sub)) ∧ w' = w := Any.strings_Count_shaped Tryz.laysM138 s sub w h hs h2
def Tryz.lays260_ren : Go.Shelf.Ren := ⟨fun | 260 => 196 | n => n, fun | 9 => 9 | 21 => 21 | 3 => 3 | 4 => 4 | 5 => 5 | 119 => 288 | 0 => 0 | 46 => 283 | 139 => 291 | 138 => 290 | n => n, fun | 3 => 5 | 4 => 6 | n => n⟩
theorem Tryz.lays260 : Go.Proofs.Lays.n260 Tryz.prog Tryz.lays260_ren := {
  mixed := by kernel_rfl
  f260 := Tryz.func196.trans (congrArg some (by kernel_rfl))
  t0 := Tryz.underlying0
  a0 := Tryz.isAgg0
  z0 := Tryz.sizeOf0
  v0 := Tryz.zeroValue0
  t3 := Tryz.underlying3
  a3 := Tryz.isAgg3
  z3 := Tryz.sizeOf3
  v3 := Tryz.zeroValue3
  t4 := Tryz.underlying4
  a4 := Tryz.isAgg4
  z4 := Tryz.sizeOf4
  v4 := Tryz.zeroValue4
  t5 := Tryz.underlying5
  a5 := Tryz.isAgg5
  z5 := Tryz.sizeOf5
  v5 := Tryz.zeroValue5
  t9 := Tryz.underlying9
  a9 := Tryz.isAgg9
  z9 := Tryz.sizeOf9
  v9 := Tryz.zeroValue9
  t21 := Tryz.underlying21
  a21 := Tryz.isAgg21
  z21 := Tryz.sizeOf21
  v21 := Tryz.zeroValue21
  t46 := Tryz.underlying283
  a46 := Tryz.isAgg283
  z46 := Tryz.sizeOf283
  v46 := Tryz.zeroValue283
  t119 := Tryz.underlying288
  a119 := Tryz.isAgg288
  z119 := Tryz.sizeOf288
  t138 := Tryz.underlying290
  a138 := Tryz.isAgg290
  z138 := Tryz.sizeOf290
  v138 := Tryz.zeroValue290
  t139 := Tryz.underlying291
  a139 := Tryz.isAgg291
  z139 := Tryz.sizeOf291
  v139 := Tryz.zeroValue291
  g3 := by kernel_rfl
  g4 := by kernel_rfl }
open Go.RowKit Go.Lib in
theorem Tryz.utf8_decodeRuneInStringSlow (s : ByteArray) (w : World) (hT : Lib.Utf8Tabs 5 6 w) :
    Calls Tryz.prog 196 #[.string s] w fun e w' => e = .returned (.tuple #[.int .i32 (Lib.decodeGo s).1, .int .i64 (Lib.decodeGo s).2]) ∧ Below w.heap.size w w' := Any.utf8_decodeRuneInStringSlow Tryz.lays260 s w hT
end Go.Proofs
namespace Go.Proofs.YtjhjmncjidbieaaGreatDoor
open Go Go.Av Go.RowKit
theorem rep_int {X : Nat → Prop} {w : World} {v : Value} {k : IntKind} {n : Int} (h : Rep X w v (.int k n)) : v = .int k n := by cases h; rfl
theorem rep_str {X : Nat → Prop} {w : World} {v : Value} {l : List UInt8} (h : Rep X w v (.str l)) : v = .string ⟨l.toArray⟩ := by cases h; rfl
theorem elt_cells {X : Nat → Prop} {w : World} {pv : Value} {k i0 j0 : Nat} {rows : List (List AV)} (h : Rep X w pv (.elt k rows i0 j0)) : ∃ b o, pv = .pointer (some ⟨b, o + i0 * k + j0, none⟩) ∧ ∃ cv : Nat → Nat → Value,
    (∀ i, i < rows.length → ∀ j, j < k → w.cell? ⟨b, o + i * k + j, none⟩ = some (cv i j)) ∧ ∀ i, i < rows.length → ∀ j, j < k → Rep X w (cv i j) (nth (nthR rows i) j) := by
  cases h with
  | elt b o k rows i0 j0 cv hb hX hi hk hc hr h1 => exact ⟨b, o, rfl, cv, hc, hr⟩
theorem glob_ints {X : Nat → Prop} {w : World} {g : Nat} {zs : List Int} {q : IntKind} (h : GlobOK X w g (zs.map fun z => AV.int q z)) : ∃ cs T z, w.heap[g]? = some (.cells cs T z) ∧ cs = (zs.map fun z => Value.int q z).toArray := by
  obtain ⟨h1, cs, T, z, h2, h3⟩ := h
  refine ⟨cs, T, z, h2, ?_⟩
  rw [List.length_map] at h3
  obtain ⟨b, o, hp, cv, hc, hr⟩ := elt_cells h1
  simp only [Value.pointer.injEq, Option.some.injEq, Addr.mk.injEq, Nat.zero_mul, Nat.add_zero] at hp
  obtain ⟨rfl, rfl, -⟩ := hp
  refine Array.ext (by simp [h3]) fun i hi1 hi2 => ?_
  have hik : i < zs.length := by omega
  have e1 := hc 0 (by simp) i (by simpa using hik)
  have e2 := hr 0 (by simp) i (by simpa using hik)
  have e3 : nth (nthR [zs.map fun z => AV.int q z] 0) i = .int q zs[i] := by
    simp [nthR, nth, List.getD_eq_getElem?_getD, hik]
  rw [e3] at e2
  have e4 := rep_int e2
  rw [e4] at e1
  simp only [Nat.zero_mul, Nat.add_zero, Nat.zero_add] at e1
  have e5 : w.cell? ⟨g, i, none⟩ = cs[i]? := by unfold World.cell?; simp [h2]
  rw [e5, Array.getElem?_eq_getElem hi1] at e1
  simp only [Option.some.injEq] at e1
  rw [e1]
  simp
theorem tab_of {w : World} {X : Nat → Prop} (h : GlobOK X w 4 (Lib.pow10Tab.map fun z => AV.int .u64 z)) : Lib.TabIs Tryz.prog w "internal/strconv.uint64pow10" .u64 Lib.pow10Tab := by
  obtain ⟨cs, T, z, h2, h3⟩ := glob_ints h
  unfold Lib.TabIs World.var?
  rw [show Tryz.prog.globalNamed "internal/strconv.uint64pow10" = some 4 by kernel_rfl]
  simp only [Option.bind_some, h2, h3]
theorem c163 (n : Int) (h : In64 n) : PCall Tryz.prog G0 163 [.i n] (.str (Lib.itoa n)) := by
  refine ⟨⟨Tryz.f163, bodyOf Tryz.f163, by kernel_rfl, by kernel_rfl, by kernel_rfl⟩, fun w X vs hX hG hz => ?_⟩
  obtain ⟨h1, h2⟩ := hz
  obtain ⟨v, rfl⟩ : ∃ v, vs = #[v] := by
    obtain ⟨l⟩ := vs
    match l, h1 with
    | [v], _ => exact ⟨v, rfl⟩
  have hv := rep_int (h2 0 v (.i n) rfl rfl)
  subst hv
  refine (Tryz.strconv_Itoa n h.1 h.2 w (tab_of (hG 4 _ (by kernel_rfl)))).mono fun e w' ⟨he, k, os, hw⟩ => ⟨_, he, ?_, .str _⟩
  subst hw
  exact ⟨rfl, rfl, rfl, by show w.heap.size ≤ (w.heap ++ os).size; simp, fun i hi => by
    show (w.heap ++ os)[i]? = _
    rw [Array.getElem?_append_left hi]⟩
theorem map_toList {α β : Type} (f : α → β) (n : Nat) (g : Nat → α) : ((List.range n).map g).map f = (List.range n).map fun i => f (g i) := by rw [List.map_map]; rfl
theorem c161 (xs : List (List UInt8)) (sep : List UInt8) (hn : xs.length ≤ 140737488355328) (hl : (Lib.join xs sep).length ≤ 140737488355328) : PCall Tryz.prog G0 161 [.sl 1 (xs.map fun x => [.str x]), .str sep] (.str (Lib.join xs sep)) := by
  refine ⟨⟨Tryz.f161, bodyOf Tryz.f161, by kernel_rfl, by kernel_rfl, by kernel_rfl⟩, fun w X vs hX hG hz => ?_⟩
  obtain ⟨h1, h2⟩ := hz
  obtain ⟨v, s, rfl⟩ : ∃ v s, vs = #[v, s] := by
    obtain ⟨l⟩ := vs
    match l, h1 with
    | [v, s], _ => exact ⟨v, s, rfl⟩
  have hs := rep_str (h2 1 s (.str sep) rfl rfl)
  subst hs
  have hv := h2 0 v _ rfl rfl
  clear h1 h2
  generalize hr : (xs.map fun x => [AV.str x]) = rows at hv
  have hlen : rows.length = xs.length := by rw [← hr]; simp
  cases hv with
  | slE a cap =>
    have : xs = [] := by simpa using hr
    subst this
    exact (Tryz.strings_Join_none a cap _ w).mono fun e w' ⟨he, hw⟩ => ⟨_, he, by rw [hw]; exact Below.refl _ _, .str _⟩
  | sl b o cap k rows cv hb hX2 hcap hmax hk hc hrr h1 =>
    have key := Tryz.strings_Join b o cap (xs.map fun x => ⟨x.toArray⟩) ⟨sep.toArray⟩ w (fun j x hx => ?_) hb (by simpa using hn) (by simp; omega) (by
      rw [List.map_map, show ((fun x : ByteArray => x.data.toList) ∘ fun x : List UInt8 => (⟨x.toArray⟩ : ByteArray)) = id by funext x; simp, List.map_id]
      exact hl)
    · rw [List.map_map, show ((fun x : ByteArray => x.data.toList) ∘ fun x : List UInt8 => (⟨x.toArray⟩ : ByteArray)) = id by funext x; simp, List.map_id] at key
      rw [List.length_map] at key
      rw [hlen]
      exact key.mono fun e w' ⟨he, hw⟩ => ⟨_, he, hw, .str _⟩
    · obtain ⟨y, hy, rfl⟩ : ∃ y, xs[j]? = some y ∧ (⟨y.toArray⟩ : ByteArray) = x := by
        rw [List.getElem?_map] at hx
        simpa using hx
      have hj : j < xs.length := (List.getElem?_eq_some_iff.1 hy).1
      have e1 := hc j (by omega) 0 (by omega)
      have e2 := hrr j (by omega) 0 (by omega)
      have e3 : nth (nthR rows j) 0 = .str y := by
        rw [← hr]
        simp [nthR, nth, List.getD_eq_getElem?_getD, hy]
      rw [e3] at e2
      rw [rep_str e2] at e1
      simpa using e1
end Go.Proofs.YtjhjmncjidbieaaGreatDoor
namespace Go.Proofs.YtjhjmncjidbieaaGreatDoor
open Go Go.Av Go.RowKit
/-- The decimal digits of a number below 10 ^ (k + 1). -/
def ddF : Nat → Nat → List UInt8
  | 0, u => [UInt8.ofNat (48 + u)]
  | k + 1, u => if u < 10 then [UInt8.ofNat (48 + u)] else ddF k (u / 10) ++ [UInt8.ofNat (48 + u % 10)]
theorem ddF_eq : ∀ (k u : Nat), u < 10 ^ (k + 1) → ddF k u = Lib.decDigits u
  | 0, u, h => by
    rw [Lib.decDigits, dif_pos (by simpa using h)]
    rfl
  | k + 1, u, h => by
    rw [Lib.decDigits, ddF]
    by_cases h10 : u < 10
    · rw [if_pos h10, dif_pos h10]
    · rw [if_neg h10, dif_neg h10, ddF_eq k (u / 10) (by rw [Nat.pow_succ] at h; omega)]
def strsOf : List (List AV) → Option (List (List UInt8))
  | [] => some []
  | [.str x] :: l => match strsOf l with
    | some m => some (x :: m)
    | none => none
  | _ => none
theorem strsOf_ok : ∀ {rows : List (List AV)} {xs : List (List UInt8)}, strsOf rows = some xs → rows = xs.map fun x => [.str x]
  | [], xs, h => by cases h; rfl
  | row :: l, xs, h => by
    unfold strsOf at h
    split at h
    · rename_i h1; cases h1
    · rename_i x m h1
      cases h1
      split at h
      · rename_i m hm
        cases h
        rw [strsOf_ok hm]
        rfl
      · cases h
    · cases h
/-- What the library returns. -/
def libO (f : Nat) : List AV → Option AV
  | [.int .i64 n] => if Nat.beq f 163 && (decide (0 ≤ n) && decide (n < 1000000000)) then some (.str (ddF 9 n.toNat)) else none
  | [.sl 1 rows, .str sep] => if Nat.beq f 161 then match strsOf rows with
      | some xs => if decide (xs.length ≤ 1000) && decide ((Lib.join xs sep).length ≤ 1000000) then some (.str (Lib.join xs sep)) else none
      | none => none
    else none
  | _ => none
theorem libO_ok (f : Nat) (a : List AV) (r : AV) (h : libO f a = some r) : PCall Tryz.prog G0 f a r := by
  unfold libO at h
  split at h
  · rename_i n
    split at h
    · rename_i hb
      simp only [Bool.and_eq_true, decide_eq_true_eq] at hb
      obtain ⟨h1, h2, h3⟩ := hb
      have := Nat.eq_of_beq_eq_true h1
      subst this
      cases h
      have := c163 n (by unfold In64; omega)
      rw [Lib.itoa, if_neg (by omega), ← ddF_eq 9 n.toNat (by omega)] at this
      exact this
    · cases h
  · rename_i rows sep
    split at h
    · rename_i h1
      have := Nat.eq_of_beq_eq_true h1
      subst this
      split at h
      · rename_i xs hxs
        split at h
        · rename_i hb
          simp only [Bool.and_eq_true, decide_eq_true_eq] at hb
          cases h
          rw [strsOf_ok hxs]
          exact c161 xs sep (by omega) (by omega)
        · cases h
      · cases h
    · cases h
  · cases h
def orcL (l : List Mem) (f : Nat) (a : List AV) : Option AV := match libO f a with
  | some r => some r
  | none => orcM l f a
theorem orcL_ok {l : List Mem} (hl : KnownM Tryz.prog G0 l) (f : Nat) (a : List AV) (r : AV) (h : orcL l f a = some r) : PCall Tryz.prog G0 f a r := by
  unfold orcL at h
  split at h
  · rename_i r' hr
    cases h
    exact libO_ok f a _ hr
  · exact orcM_ok hl f a r h
theorem ftok : FTOK Tryz.prog F0 := by unfold FTOK; kernel_rfl
/-- A call on concrete values. -/
theorem run_c {l : List Mem} (hl : KnownM Tryz.prog G0 l) {f : Nat} {a : List AV} {r : AV} (h : callM Tryz.prog T0 G0 F0 (orcL l) sqH 10000 60 f a = some r) : PCall Tryz.prog G0 f a r :=
  callM_ok tok mix ftok (orcL_ok hl) sqH_ok _ _ _ _ h
end Go.Proofs.YtjhjmncjidbieaaGreatDoor
