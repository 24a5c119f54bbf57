/-
  Calls on concrete values. No condition: runs in the kernel. What the small functions of chapter 2 return. No condition but the theorems' own. What chapter 2's functions on paths, procedures and tracks return. No condition but the theorems' own. The arguments of chapter 2's statements, and the way from a contract of a statement to its row. No condition but the theorems' own. What chapter 2's functions that walk along lists return: steps, copies, sameness. No condition but the theorems' own.
-/
import Derived.Test.YtjhjmncjidbieaaGreatDoorPA
import Derived.Test.YtjhjmncjidbieaaGreatDoorAvC
import Derived.Test.YtjhjmncjidbieaaGreatDoorCards
import Derived.Test.YtjhjmncjidbieaaGreatDoorTie
import Derived.LaidMore
import Derived.LaidOnce
import Derived.Stop.Joined
import Derived.SevenTiedAt
namespace Go.Proofs.YtjhjmncjidbieaaGreatDoor
open Go Go.Av Go.RowKit
def awv0 : List (List AV) := [[.i 5, .i 0, .i 0, .i 0, .i 10], [.i 9, .i 8, .i 0, .i 0, .i 20]]
def awv1 : List (List AV) := [[.i 10, .sl 1 [[.i 1000], [.i 400]]], [.i 20, .sl 1 [[.i 2000], [.i 600]]]]
def awv2 : List AV := [.sl 5 awv0, .i 6]
def awv3 : List (List AV) := [[.i 1000], [.i 1000], [.i 1000], [.i 1000], [.i 500], [.i 500], [.i 500], [.i 500]]
def awv4 : List AV := [.sl 1 awv3]
def awv5 : List (List AV) := [[.i 100, .i 0, .i 0, .i 0, .i 100], [.i 103, .i 10, .i 0, .i 50, .i 80], [.i 104, .i 10, .i 5, .i 50, .i 80]]
def awv6 : List AV := [.str [111, 110, 101], .str [106, 101, 116], .sl 5 awv0]
def awv7 : List AV := [.str [116, 119, 111], .str [106, 101, 116], .sl 5 awv0]
def awv8 : List AV := [.str [111, 110, 101], .str [106, 101, 116], .sl 5 awv0, .i 2700]
def awv9 : List AV := [.str [116, 119, 111], .str [106, 101, 116], .sl 5 awv0, .i 2700]
def awv10 : List AV := [.str [106, 101, 116], .sl 1 [[.i 600], [.i 400]], .i 1000, .i 1000, .i 1000, .i 1000, .i 500, .i 500, .i 500, .i 500, .i 500, .sl 1 [[.i 0], [.i 100]], .sl 2 awv1]
def awv11 : List (List AV) := [awv10]
def awv12 : List (List AV) := [awv6, awv7]
def awv13 : List AV := [.agg awv10]
def awv14 : List AV := [.sl 13 awv11]
def awv15 : List (List AV) := [awv14]
def awv16 : List AV := [.agg awv10, .i 30, .i 0]
def awv17 : List AV := [.agg awv10, .i 15, .i 99]
def awv18 : List AV := [.agg awv10, .i 15, .i 100]
def awv19 : List (List AV) := [awv8, awv9]
def awv20 : List AV := [.agg awv10, .sl 5 awv0, .agg [.i 6, .i 8], .agg [.i 4, .i 2, .i 0]]
def awv21 : List AV := [.agg awv10, .sl 5 awv0, .agg [.i 0, .i 100000000], .agg [.i 4, .i 2, .i 0]]
def awv22 : List AV := [.sl 13 awv11, .sl 3 awv12, .agg [.i 4, .i 2, .i 0]]
def awM0 : List Mem := []
theorem awK0 : KnownM Tryz.prog G0 awM0 := KnownM.nil
theorem awc1 : PCall Tryz.prog G0 122 ([.str [106, 101, 116]]) (.bool true) := run_c awK0 (by kernel_rfl)
def awM1 : List Mem := ⟨122, [.str [106, 101, 116]], .bool true⟩ :: awM0
theorem awK1 : KnownM Tryz.prog G0 awM1 := KnownM.cons awc1 awK0
theorem awc2 : PCall Tryz.prog G0 123 ([.i 2, .i 8]) (.i 0) := run_c awK1 (by kernel_rfl)
def awM2 : List Mem := ⟨123, [.i 2, .i 8], .i 0⟩ :: awM1
theorem awK2 : KnownM Tryz.prog G0 awM2 := KnownM.cons awc2 awK1
theorem awc3 : PCall Tryz.prog G0 124 ([.sl 1 [[.i 600], [.i 400]], .i 1000]) (.i 0) := run_c awK2 (by kernel_rfl)
def awM3 : List Mem := ⟨124, [.sl 1 [[.i 600], [.i 400]], .i 1000], .i 0⟩ :: awM2
theorem awK3 : KnownM Tryz.prog G0 awM3 := KnownM.cons awc3 awK2
theorem awc4 : PCall Tryz.prog G0 87 ([.sl 1 [[.i 0], [.i 0], [.i 0], [.i 0]]]) (.i 0) := run_c awK3 (by kernel_rfl)
def awM4 : List Mem := ⟨87, [.sl 1 [[.i 0], [.i 0], [.i 0], [.i 0]]], .i 0⟩ :: awM3
theorem awK4 : KnownM Tryz.prog G0 awM4 := KnownM.cons awc4 awK3
theorem awc5 : PCall Tryz.prog G0 87 ([.sl 1 [[.i 0], [.i 0], [.i 0], [.i 0], [.i 0], [.i 0], [.i 0], [.i 0]]]) (.i 0) := run_c awK4 (by kernel_rfl)
def awM5 : List Mem := ⟨87, [.sl 1 [[.i 0], [.i 0], [.i 0], [.i 0], [.i 0], [.i 0], [.i 0], [.i 0]]], .i 0⟩ :: awM4
theorem awK5 : KnownM Tryz.prog G0 awM5 := KnownM.cons awc5 awK4
theorem awc6 : PCall Tryz.prog G0 124 ([.sl 1 awv3, .i 2000]) (.i 0) := run_c awK5 (by kernel_rfl)
def awM6 : List Mem := ⟨124, [.sl 1 awv3, .i 2000], .i 0⟩ :: awM5
theorem awK6 : KnownM Tryz.prog G0 awM6 := KnownM.cons awc6 awK5
theorem awc7 : PCall Tryz.prog G0 124 ([.sl 1 [[.i 0], [.i 100]], .i 100000000000]) (.i 0) := run_c awK6 (by kernel_rfl)
def awM7 : List Mem := ⟨124, [.sl 1 [[.i 0], [.i 100]], .i 100000000000], .i 0⟩ :: awM6
theorem awK7 : KnownM Tryz.prog G0 awM7 := KnownM.cons awc7 awK6
theorem awc8 : PCall Tryz.prog G0 123 ([.i 2, .i 6]) (.i 0) := run_c awK7 (by kernel_rfl)
def awM8 : List Mem := ⟨123, [.i 2, .i 6], .i 0⟩ :: awM7
theorem awK8 : KnownM Tryz.prog G0 awM8 := KnownM.cons awc8 awK7
theorem awc9 : PCall Tryz.prog G0 124 ([.sl 1 [[.i 1000], [.i 400]], .i 100000000]) (.i 0) := run_c awK8 (by kernel_rfl)
def awM9 : List Mem := ⟨124, [.sl 1 [[.i 1000], [.i 400]], .i 100000000], .i 0⟩ :: awM8
theorem awK9 : KnownM Tryz.prog G0 awM9 := KnownM.cons awc9 awK8
theorem awc10 : PCall Tryz.prog G0 124 ([.sl 1 [[.i 2000], [.i 600]], .i 100000000]) (.i 0) := run_c awK9 (by kernel_rfl)
def awM10 : List Mem := ⟨124, [.sl 1 [[.i 2000], [.i 600]], .i 100000000], .i 0⟩ :: awM9
theorem awK10 : KnownM Tryz.prog G0 awM10 := KnownM.cons awc10 awK9
theorem awc11 : PCall Tryz.prog G0 125 (awv13) (.i 0) := run_c awK10 (by kernel_rfl)
def awM11 : List Mem := ⟨125, awv13, .i 0⟩ :: awM10
theorem awK11 : KnownM Tryz.prog G0 awM11 := KnownM.cons awc11 awK10
theorem awc12 : PCall Tryz.prog G0 53 (awv13) (.i 0) := run_c awK11 (by kernel_rfl)
def awM12 : List Mem := ⟨53, awv13, .i 0⟩ :: awM11
theorem awK12 : KnownM Tryz.prog G0 awM12 := KnownM.cons awc12 awK11
theorem awc13 : PCall Tryz.prog G0 87 ([.sl 1 [[.i 0], [.i 0], [.i 0]]]) (.i 0) := run_c awK12 (by kernel_rfl)
def awM13 : List Mem := ⟨87, [.sl 1 [[.i 0], [.i 0], [.i 0]]], .i 0⟩ :: awM12
theorem awK13 : KnownM Tryz.prog G0 awM13 := KnownM.cons awc13 awK12
theorem awc14 : PCall Tryz.prog G0 114 (awv17) (.i 1500) := run_c awK13 (by kernel_rfl)
def awM14 : List Mem := ⟨114, awv17, .i 1500⟩ :: awM13
theorem awK14 : KnownM Tryz.prog G0 awM14 := KnownM.cons awc14 awK13
theorem awc15 : PCall Tryz.prog G0 40 (awv17) (.tup [.i 1500, .i 0]) := run_c awK14 (by kernel_rfl)
def awM15 : List Mem := ⟨40, awv17, .tup [.i 1500, .i 0]⟩ :: awM14
theorem awK15 : KnownM Tryz.prog G0 awM15 := KnownM.cons awc15 awK14
theorem awc16 : PCall Tryz.prog G0 114 (awv18) (.i 500) := run_c awK15 (by kernel_rfl)
def awM16 : List Mem := ⟨114, awv18, .i 500⟩ :: awM15
theorem awK16 : KnownM Tryz.prog G0 awM16 := KnownM.cons awc16 awK15
theorem awc17 : PCall Tryz.prog G0 40 (awv18) (.tup [.i 500, .i 0]) := run_c awK16 (by kernel_rfl)
def awM17 : List Mem := ⟨40, awv18, .tup [.i 500, .i 0]⟩ :: awM16
theorem awK17 : KnownM Tryz.prog G0 awM17 := KnownM.cons awc17 awK16
theorem awc18 : PCall Tryz.prog G0 114 (awv16) (.i 2000) := run_c awK17 (by kernel_rfl)
def awM18 : List Mem := ⟨114, awv16, .i 2000⟩ :: awM17
theorem awK18 : KnownM Tryz.prog G0 awM18 := KnownM.cons awc18 awK17
theorem awc19 : PCall Tryz.prog G0 40 (awv16) (.tup [.i 2000, .i 0]) := run_c awK18 (by kernel_rfl)
def awM19 : List Mem := ⟨40, awv16, .tup [.i 2000, .i 0]⟩ :: awM18
theorem awK19 : KnownM Tryz.prog G0 awM19 := KnownM.cons awc19 awK18
theorem awc20 : PCall Tryz.prog G0 104 ([.agg [.i 0, .i 0, .i 0]]) (.i 0) := run_c awK19 (by kernel_rfl)
def awM20 : List Mem := ⟨104, [.agg [.i 0, .i 0, .i 0]], .i 0⟩ :: awM19
theorem awK20 : KnownM Tryz.prog G0 awM20 := KnownM.cons awc20 awK19
theorem awc21 : PCall Tryz.prog G0 134 ([.agg [.i 5, .i 0, .i 0, .i 0, .i 10]]) (.i 0) := run_c awK20 (by kernel_rfl)
def awM21 : List Mem := ⟨134, [.agg [.i 5, .i 0, .i 0, .i 0, .i 10]], .i 0⟩ :: awM20
theorem awK21 : KnownM Tryz.prog G0 awM21 := KnownM.cons awc21 awK20
theorem awc22 : PCall Tryz.prog G0 104 ([.agg [.i 8, .i 0, .i 0]]) (.i 0) := run_c awK21 (by kernel_rfl)
def awM22 : List Mem := ⟨104, [.agg [.i 8, .i 0, .i 0]], .i 0⟩ :: awM21
theorem awK22 : KnownM Tryz.prog G0 awM22 := KnownM.cons awc22 awK21
theorem awc23 : PCall Tryz.prog G0 134 ([.agg [.i 9, .i 8, .i 0, .i 0, .i 20]]) (.i 0) := run_c awK22 (by kernel_rfl)
def awM23 : List Mem := ⟨134, [.agg [.i 9, .i 8, .i 0, .i 0, .i 20]], .i 0⟩ :: awM22
theorem awK23 : KnownM Tryz.prog G0 awM23 := KnownM.cons awc23 awK22
theorem awc24 : PCall Tryz.prog G0 76 ([.sl 5 awv0]) (.i 0) := run_c awK23 (by kernel_rfl)
def awM24 : List Mem := ⟨76, [.sl 5 awv0], .i 0⟩ :: awM23
theorem awK24 : KnownM Tryz.prog G0 awM24 := KnownM.cons awc24 awK23
theorem awc25 : PCall Tryz.prog G0 126 (awv2) (.agg [.i 2, .i 0, .i 0, .i 8, .i 0, .i 12]) := run_c awK24 (by kernel_rfl)
def awM25 : List Mem := ⟨126, awv2, .agg [.i 2, .i 0, .i 0, .i 8, .i 0, .i 12]⟩ :: awM24
theorem awK25 : KnownM Tryz.prog G0 awM25 := KnownM.cons awc25 awK24
theorem awc26 : PCall Tryz.prog G0 56 (awv2) (.tup [.agg [.i 2, .i 0, .i 0, .i 8, .i 0, .i 12], .i 0]) := run_c awK25 (by kernel_rfl)
def awM26 : List Mem := ⟨56, awv2, .tup [.agg [.i 2, .i 0, .i 0, .i 8, .i 0, .i 12], .i 0]⟩ :: awM25
theorem awK26 : KnownM Tryz.prog G0 awM26 := KnownM.cons awc26 awK25
theorem awc27 : PCall Tryz.prog G0 104 ([.agg [.i 4, .i 2, .i 0]]) (.i 0) := run_c awK26 (by kernel_rfl)
def awM27 : List Mem := ⟨104, [.agg [.i 4, .i 2, .i 0]], .i 0⟩ :: awM26
theorem awK27 : KnownM Tryz.prog G0 awM27 := KnownM.cons awc27 awK26
theorem awc28 : PCall Tryz.prog G0 99 (awv21) (.i 0) := run_c awK27 (by kernel_rfl)
def awM28 : List Mem := ⟨99, awv21, .i 0⟩ :: awM27
theorem awK28 : KnownM Tryz.prog G0 awM28 := KnownM.cons awc28 awK27
theorem awc29 : PCall Tryz.prog G0 126 ([.sl 5 awv0, .i 5]) (.agg [.i 0, .i 0, .i 0, .i 8, .i 0, .i 10]) := run_c awK28 (by kernel_rfl)
def awM29 : List Mem := ⟨126, [.sl 5 awv0, .i 5], .agg [.i 0, .i 0, .i 0, .i 8, .i 0, .i 10]⟩ :: awM28
theorem awK29 : KnownM Tryz.prog G0 awM29 := KnownM.cons awc29 awK28
theorem awc30 : PCall Tryz.prog G0 116 ([.agg [.i 8, .i 0], .agg [.i 4, .i 2]]) (.i 0) := run_c awK29 (by kernel_rfl)
def awM30 : List Mem := ⟨116, [.agg [.i 8, .i 0], .agg [.i 4, .i 2]], .i 0⟩ :: awM29
theorem awK30 : KnownM Tryz.prog G0 awM30 := KnownM.cons awc30 awK29
theorem awc31 : PCall Tryz.prog G0 114 ([.agg awv10, .i 10, .i 20]) (.i 1000) := run_c awK30 (by kernel_rfl)
def awM31 : List Mem := ⟨114, [.agg awv10, .i 10, .i 20], .i 1000⟩ :: awM30
theorem awK31 : KnownM Tryz.prog G0 awM31 := KnownM.cons awc31 awK30
theorem awc32 : PCall Tryz.prog G0 117 ([.agg awv10, .agg [.i 0, .i 0, .i 0, .i 8, .i 0, .i 10], .agg [.i 4, .i 2, .i 0]]) (.i 500) := run_c awK31 (by kernel_rfl)
def awM32 : List Mem := ⟨117, [.agg awv10, .agg [.i 0, .i 0, .i 0, .i 8, .i 0, .i 10], .agg [.i 4, .i 2, .i 0]], .i 500⟩ :: awM31
theorem awK32 : KnownM Tryz.prog G0 awM32 := KnownM.cons awc32 awK31
theorem awc33 : PCall Tryz.prog G0 116 ([.agg [.i 8, .i 0], .agg [.i 2, .i 2]]) (.i 1) := run_c awK32 (by kernel_rfl)
def awM33 : List Mem := ⟨116, [.agg [.i 8, .i 0], .agg [.i 2, .i 2]], .i 1⟩ :: awM32
theorem awK33 : KnownM Tryz.prog G0 awM33 := KnownM.cons awc33 awK32
theorem awc34 : PCall Tryz.prog G0 114 ([.agg awv10, .i 12, .i 8]) (.i 1200) := run_c awK33 (by kernel_rfl)
def awM34 : List Mem := ⟨114, [.agg awv10, .i 12, .i 8], .i 1200⟩ :: awM33
theorem awK34 : KnownM Tryz.prog G0 awM34 := KnownM.cons awc34 awK33
theorem awc35 : PCall Tryz.prog G0 117 ([.agg awv10, .agg [.i 2, .i 0, .i 0, .i 8, .i 0, .i 12], .agg [.i 4, .i 2, .i 0]]) (.i 600) := run_c awK34 (by kernel_rfl)
def awM35 : List Mem := ⟨117, [.agg awv10, .agg [.i 2, .i 0, .i 0, .i 8, .i 0, .i 12], .agg [.i 4, .i 2, .i 0]], .i 600⟩ :: awM34
theorem awK35 : KnownM Tryz.prog G0 awM35 := KnownM.cons awc35 awK34
theorem awc36 : PCall Tryz.prog G0 126 ([.sl 5 awv0, .i 7]) (.agg [.i 4, .i 0, .i 0, .i 8, .i 0, .i 15]) := run_c awK35 (by kernel_rfl)
def awM36 : List Mem := ⟨126, [.sl 5 awv0, .i 7], .agg [.i 4, .i 0, .i 0, .i 8, .i 0, .i 15]⟩ :: awM35
theorem awK36 : KnownM Tryz.prog G0 awM36 := KnownM.cons awc36 awK35
theorem awc37 : PCall Tryz.prog G0 116 ([.agg [.i 8, .i 0], .agg [.i 0, .i 2]]) (.i 2) := run_c awK36 (by kernel_rfl)
def awM37 : List Mem := ⟨116, [.agg [.i 8, .i 0], .agg [.i 0, .i 2]], .i 2⟩ :: awM36
theorem awK37 : KnownM Tryz.prog G0 awM37 := KnownM.cons awc37 awK36
theorem awc38 : PCall Tryz.prog G0 114 ([.agg awv10, .i 15, .i 4]) (.i 1500) := run_c awK37 (by kernel_rfl)
def awM38 : List Mem := ⟨114, [.agg awv10, .i 15, .i 4], .i 1500⟩ :: awM37
theorem awK38 : KnownM Tryz.prog G0 awM38 := KnownM.cons awc38 awK37
theorem awc39 : PCall Tryz.prog G0 117 ([.agg awv10, .agg [.i 4, .i 0, .i 0, .i 8, .i 0, .i 15], .agg [.i 4, .i 2, .i 0]]) (.i 750) := run_c awK38 (by kernel_rfl)
def awM39 : List Mem := ⟨117, [.agg awv10, .agg [.i 4, .i 0, .i 0, .i 8, .i 0, .i 15], .agg [.i 4, .i 2, .i 0]], .i 750⟩ :: awM38
theorem awK39 : KnownM Tryz.prog G0 awM39 := KnownM.cons awc39 awK38
theorem awc40 : PCall Tryz.prog G0 126 ([.sl 5 awv0, .i 8]) (.agg [.i 6, .i 0, .i 0, .i 8, .i 0, .i 17]) := run_c awK39 (by kernel_rfl)
def awM40 : List Mem := ⟨126, [.sl 5 awv0, .i 8], .agg [.i 6, .i 0, .i 0, .i 8, .i 0, .i 17]⟩ :: awM39
theorem awK40 : KnownM Tryz.prog G0 awM40 := KnownM.cons awc40 awK39
theorem awc41 : PCall Tryz.prog G0 116 ([.agg [.i 8, .i 0], .agg [.i (-2), .i 2]]) (.i 3) := run_c awK40 (by kernel_rfl)
def awM41 : List Mem := ⟨116, [.agg [.i 8, .i 0], .agg [.i (-2), .i 2]], .i 3⟩ :: awM40
theorem awK41 : KnownM Tryz.prog G0 awM41 := KnownM.cons awc41 awK40
theorem awc42 : PCall Tryz.prog G0 114 ([.agg awv10, .i 17, .i 8]) (.i 1700) := run_c awK41 (by kernel_rfl)
def awM42 : List Mem := ⟨114, [.agg awv10, .i 17, .i 8], .i 1700⟩ :: awM41
theorem awK42 : KnownM Tryz.prog G0 awM42 := KnownM.cons awc42 awK41
theorem awc43 : PCall Tryz.prog G0 117 ([.agg awv10, .agg [.i 6, .i 0, .i 0, .i 8, .i 0, .i 17], .agg [.i 4, .i 2, .i 0]]) (.i 850) := run_c awK42 (by kernel_rfl)
def awM43 : List Mem := ⟨117, [.agg awv10, .agg [.i 6, .i 0, .i 0, .i 8, .i 0, .i 17], .agg [.i 4, .i 2, .i 0]], .i 850⟩ :: awM42
theorem awK43 : KnownM Tryz.prog G0 awM43 := KnownM.cons awc43 awK42
theorem awc44 : PCall Tryz.prog G0 100 (awv21) (.i 2700) := run_c awK43 (by kernel_rfl)
def awM44 : List Mem := ⟨100, awv21, .i 2700⟩ :: awM43
theorem awK44 : KnownM Tryz.prog G0 awM44 := KnownM.cons awc44 awK43
theorem awc45 : PCall Tryz.prog G0 27 (awv21) (.tup [.i 2700, .i 0]) := run_c awK44 (by kernel_rfl)
def awM45 : List Mem := ⟨27, awv21, .tup [.i 2700, .i 0]⟩ :: awM44
theorem awK45 : KnownM Tryz.prog G0 awM45 := KnownM.cons awc45 awK44
theorem awc46 : PCall Tryz.prog G0 99 (awv20) (.i 0) := run_c awK45 (by kernel_rfl)
def awM46 : List Mem := ⟨99, awv20, .i 0⟩ :: awM45
theorem awK46 : KnownM Tryz.prog G0 awM46 := KnownM.cons awc46 awK45
theorem awc47 : PCall Tryz.prog G0 100 (awv20) (.i 1350) := run_c awK46 (by kernel_rfl)
def awM47 : List Mem := ⟨100, awv20, .i 1350⟩ :: awM46
theorem awK47 : KnownM Tryz.prog G0 awM47 := KnownM.cons awc47 awK46
theorem awc48 : PCall Tryz.prog G0 27 (awv20) (.tup [.i 1350, .i 0]) := run_c awK47 (by kernel_rfl)
def awM48 : List Mem := ⟨27, awv20, .tup [.i 1350, .i 0]⟩ :: awM47
theorem awK48 : KnownM Tryz.prog G0 awM48 := KnownM.cons awc48 awK47
theorem awc49 : PCall Tryz.prog G0 30 (awv21) (.tup [.i 850, .i 8, .i 0]) := run_c awK48 (by kernel_rfl)
def awM49 : List Mem := ⟨30, awv21, .tup [.i 850, .i 8, .i 0]⟩ :: awM48
theorem awK49 : KnownM Tryz.prog G0 awM49 := KnownM.cons awc49 awK48
theorem awc50 : PCall Tryz.prog G0 146 (awv4) (.i 500) := run_c awK49 (by kernel_rfl)
def awM50 : List Mem := ⟨146, awv4, .i 500⟩ :: awM49
theorem awK50 : KnownM Tryz.prog G0 awM50 := KnownM.cons awc50 awK49
theorem awc51 : PCall Tryz.prog G0 114 ([.agg awv10, .i 20, .i 4]) (.i 2000) := run_c awK50 (by kernel_rfl)
def awM51 : List Mem := ⟨114, [.agg awv10, .i 20, .i 4], .i 2000⟩ :: awM50
theorem awK51 : KnownM Tryz.prog G0 awM51 := KnownM.cons awc51 awK50
theorem awc52 : PCall Tryz.prog G0 147 (awv4) (.i 1000) := run_c awK51 (by kernel_rfl)
def awM52 : List Mem := ⟨147, awv4, .i 1000⟩ :: awM51
theorem awK52 : KnownM Tryz.prog G0 awM52 := KnownM.cons awc52 awK51
theorem awc53 : PCall Tryz.prog G0 105 ([.agg awv10, .agg [.i 5, .i 0, .i 0, .i 0, .i 10], .agg [.i 9, .i 8, .i 0, .i 0, .i 20], .agg [.i 4, .i 2, .i 0]]) (.agg [.i 1000, .i 8000]) := run_c awK52 (by kernel_rfl)
def awM53 : List Mem := ⟨105, [.agg awv10, .agg [.i 5, .i 0, .i 0, .i 0, .i 10], .agg [.i 9, .i 8, .i 0, .i 0, .i 20], .agg [.i 4, .i 2, .i 0]], .agg [.i 1000, .i 8000]⟩ :: awM52
theorem awK53 : KnownM Tryz.prog G0 awM53 := KnownM.cons awc53 awK52
theorem awc54 : PCall Tryz.prog G0 31 ([.agg awv10, .sl 5 awv0, .agg [.i 4, .i 2, .i 0]]) (.tup [.agg [.i 1000, .i 8000], .i 0]) := run_c awK53 (by kernel_rfl)
def awM54 : List Mem := ⟨31, [.agg awv10, .sl 5 awv0, .agg [.i 4, .i 2, .i 0]], .tup [.agg [.i 1000, .i 8000], .i 0]⟩ :: awM53
theorem awK54 : KnownM Tryz.prog G0 awM54 := KnownM.cons awc54 awK53
theorem awc55 : PCall Tryz.prog G0 43 ([.agg awv10, .i 101]) (.tup [.sl 1 [[.i 61], [.i 40]], .i 0]) := run_c awK54 (by kernel_rfl)
def awM55 : List Mem := ⟨43, [.agg awv10, .i 101], .tup [.sl 1 [[.i 61], [.i 40]], .i 0]⟩ :: awM54
theorem awK55 : KnownM Tryz.prog G0 awM55 := KnownM.cons awc55 awK54
theorem awc56 : PCall Tryz.prog G0 39 ([.sl 5 awv0, .i 2]) (.tup [.sl 5 awv0, .i 0]) := run_c awK55 (by kernel_rfl)
def awM56 : List Mem := ⟨39, [.sl 5 awv0, .i 2], .tup [.sl 5 awv0, .i 0]⟩ :: awM55
theorem awK56 : KnownM Tryz.prog G0 awM56 := KnownM.cons awc56 awK55
theorem awc57 : PCall Tryz.prog G0 39 ([.sl 5 awv0, .i 1]) (.tup [.ex (.slice none 0 0), .i 16]) := run_c awK56 (by kernel_rfl)
def awM57 : List Mem := ⟨39, [.sl 5 awv0, .i 1], .tup [.ex (.slice none 0 0), .i 16]⟩ :: awM56
theorem awK57 : KnownM Tryz.prog G0 awM57 := KnownM.cons awc57 awK56
theorem awc58 : PCall Tryz.prog G0 54 ([.sl 1 [[.i 61], [.i 40]], .sl 1 [[.i 61], [.i 40]]]) (.bool true) := run_c awK57 (by kernel_rfl)
def awM58 : List Mem := ⟨54, [.sl 1 [[.i 61], [.i 40]], .sl 1 [[.i 61], [.i 40]]], .bool true⟩ :: awM57
theorem awK58 : KnownM Tryz.prog G0 awM58 := KnownM.cons awc58 awK57
theorem awc59 : PCall Tryz.prog G0 115 ([.agg [.i 1, .i 0]]) (.i 0) := run_c awK58 (by kernel_rfl)
def awM59 : List Mem := ⟨115, [.agg [.i 1, .i 0]], .i 0⟩ :: awM58
theorem awK59 : KnownM Tryz.prog G0 awM59 := KnownM.cons awc59 awK58
theorem awc60 : PCall Tryz.prog G0 115 ([.agg [.i 3, .i 1]]) (.i 0) := run_c awK59 (by kernel_rfl)
def awM60 : List Mem := ⟨115, [.agg [.i 3, .i 1]], .i 0⟩ :: awM59
theorem awK60 : KnownM Tryz.prog G0 awM60 := KnownM.cons awc60 awK59
theorem awc61 : PCall Tryz.prog G0 116 ([.agg [.i 1, .i 0], .agg [.i 3, .i 1]]) (.i 0) := run_c awK60 (by kernel_rfl)
def awM61 : List Mem := ⟨116, [.agg [.i 1, .i 0], .agg [.i 3, .i 1]], .i 0⟩ :: awM60
theorem awK61 : KnownM Tryz.prog G0 awM61 := KnownM.cons awc61 awK60
theorem awc62 : PCall Tryz.prog G0 41 ([.agg [.i 1, .i 0], .agg [.i 3, .i 1]]) (.tup [.i 0, .i 0]) := run_c awK61 (by kernel_rfl)
def awM62 : List Mem := ⟨41, [.agg [.i 1, .i 0], .agg [.i 3, .i 1]], .tup [.i 0, .i 0]⟩ :: awM61
theorem awK62 : KnownM Tryz.prog G0 awM62 := KnownM.cons awc62 awK61
theorem awc63 : PCall Tryz.prog G0 115 ([.agg [.i 2, .i 2]]) (.i 0) := run_c awK62 (by kernel_rfl)
def awM63 : List Mem := ⟨115, [.agg [.i 2, .i 2]], .i 0⟩ :: awM62
theorem awK63 : KnownM Tryz.prog G0 awM63 := KnownM.cons awc63 awK62
theorem awc64 : PCall Tryz.prog G0 116 ([.agg [.i 1, .i 0], .agg [.i 2, .i 2]]) (.i 1) := run_c awK63 (by kernel_rfl)
def awM64 : List Mem := ⟨116, [.agg [.i 1, .i 0], .agg [.i 2, .i 2]], .i 1⟩ :: awM63
theorem awK64 : KnownM Tryz.prog G0 awM64 := KnownM.cons awc64 awK63
theorem awc65 : PCall Tryz.prog G0 41 ([.agg [.i 1, .i 0], .agg [.i 2, .i 2]]) (.tup [.i 1, .i 0]) := run_c awK64 (by kernel_rfl)
def awM65 : List Mem := ⟨41, [.agg [.i 1, .i 0], .agg [.i 2, .i 2]], .tup [.i 1, .i 0]⟩ :: awM64
theorem awK65 : KnownM Tryz.prog G0 awM65 := KnownM.cons awc65 awK64
theorem awc66 : PCall Tryz.prog G0 115 ([.agg [.i 0, .i 5]]) (.i 0) := run_c awK65 (by kernel_rfl)
def awM66 : List Mem := ⟨115, [.agg [.i 0, .i 5]], .i 0⟩ :: awM65
theorem awK66 : KnownM Tryz.prog G0 awM66 := KnownM.cons awc66 awK65
theorem awc67 : PCall Tryz.prog G0 116 ([.agg [.i 1, .i 0], .agg [.i 0, .i 5]]) (.i 2) := run_c awK66 (by kernel_rfl)
def awM67 : List Mem := ⟨116, [.agg [.i 1, .i 0], .agg [.i 0, .i 5]], .i 2⟩ :: awM66
theorem awK67 : KnownM Tryz.prog G0 awM67 := KnownM.cons awc67 awK66
theorem awc68 : PCall Tryz.prog G0 41 ([.agg [.i 1, .i 0], .agg [.i 0, .i 5]]) (.tup [.i 2, .i 0]) := run_c awK67 (by kernel_rfl)
def awM68 : List Mem := ⟨41, [.agg [.i 1, .i 0], .agg [.i 0, .i 5]], .tup [.i 2, .i 0]⟩ :: awM67
theorem awK68 : KnownM Tryz.prog G0 awM68 := KnownM.cons awc68 awK67
theorem awc69 : PCall Tryz.prog G0 115 ([.agg [.i (-2), .i 2]]) (.i 0) := run_c awK68 (by kernel_rfl)
def awM69 : List Mem := ⟨115, [.agg [.i (-2), .i 2]], .i 0⟩ :: awM68
theorem awK69 : KnownM Tryz.prog G0 awM69 := KnownM.cons awc69 awK68
theorem awc70 : PCall Tryz.prog G0 116 ([.agg [.i 1, .i 0], .agg [.i (-2), .i 2]]) (.i 3) := run_c awK69 (by kernel_rfl)
def awM70 : List Mem := ⟨116, [.agg [.i 1, .i 0], .agg [.i (-2), .i 2]], .i 3⟩ :: awM69
theorem awK70 : KnownM Tryz.prog G0 awM70 := KnownM.cons awc70 awK69
theorem awc71 : PCall Tryz.prog G0 41 ([.agg [.i 1, .i 0], .agg [.i (-2), .i 2]]) (.tup [.i 3, .i 0]) := run_c awK70 (by kernel_rfl)
def awM71 : List Mem := ⟨41, [.agg [.i 1, .i 0], .agg [.i (-2), .i 2]], .tup [.i 3, .i 0]⟩ :: awM70
theorem awK71 : KnownM Tryz.prog G0 awM71 := KnownM.cons awc71 awK70
theorem awc72 : PCall Tryz.prog G0 115 ([.agg [.i (-3), .i 0]]) (.i 0) := run_c awK71 (by kernel_rfl)
def awM72 : List Mem := ⟨115, [.agg [.i (-3), .i 0]], .i 0⟩ :: awM71
theorem awK72 : KnownM Tryz.prog G0 awM72 := KnownM.cons awc72 awK71
theorem awc73 : PCall Tryz.prog G0 116 ([.agg [.i 1, .i 0], .agg [.i (-3), .i 0]]) (.i 4) := run_c awK72 (by kernel_rfl)
def awM73 : List Mem := ⟨116, [.agg [.i 1, .i 0], .agg [.i (-3), .i 0]], .i 4⟩ :: awM72
theorem awK73 : KnownM Tryz.prog G0 awM73 := KnownM.cons awc73 awK72
theorem awc74 : PCall Tryz.prog G0 41 ([.agg [.i 1, .i 0], .agg [.i (-3), .i 0]]) (.tup [.i 4, .i 0]) := run_c awK73 (by kernel_rfl)
def awM74 : List Mem := ⟨41, [.agg [.i 1, .i 0], .agg [.i (-3), .i 0]], .tup [.i 4, .i 0]⟩ :: awM73
theorem awK74 : KnownM Tryz.prog G0 awM74 := KnownM.cons awc74 awK73
theorem awc75 : PCall Tryz.prog G0 115 ([.agg [.i (-1), .i (-1)]]) (.i 0) := run_c awK74 (by kernel_rfl)
def awM75 : List Mem := ⟨115, [.agg [.i (-1), .i (-1)]], .i 0⟩ :: awM74
theorem awK75 : KnownM Tryz.prog G0 awM75 := KnownM.cons awc75 awK74
theorem awc76 : PCall Tryz.prog G0 116 ([.agg [.i 1, .i 0], .agg [.i (-1), .i (-1)]]) (.i 5) := run_c awK75 (by kernel_rfl)
def awM76 : List Mem := ⟨116, [.agg [.i 1, .i 0], .agg [.i (-1), .i (-1)]], .i 5⟩ :: awM75
theorem awK76 : KnownM Tryz.prog G0 awM76 := KnownM.cons awc76 awK75
theorem awc77 : PCall Tryz.prog G0 41 ([.agg [.i 1, .i 0], .agg [.i (-1), .i (-1)]]) (.tup [.i 5, .i 0]) := run_c awK76 (by kernel_rfl)
def awM77 : List Mem := ⟨41, [.agg [.i 1, .i 0], .agg [.i (-1), .i (-1)]], .tup [.i 5, .i 0]⟩ :: awM76
theorem awK77 : KnownM Tryz.prog G0 awM77 := KnownM.cons awc77 awK76
theorem awc78 : PCall Tryz.prog G0 115 ([.agg [.i 0, .i (-4)]]) (.i 0) := run_c awK77 (by kernel_rfl)
def awM78 : List Mem := ⟨115, [.agg [.i 0, .i (-4)]], .i 0⟩ :: awM77
theorem awK78 : KnownM Tryz.prog G0 awM78 := KnownM.cons awc78 awK77
theorem awc79 : PCall Tryz.prog G0 116 ([.agg [.i 1, .i 0], .agg [.i 0, .i (-4)]]) (.i 6) := run_c awK78 (by kernel_rfl)
def awM79 : List Mem := ⟨116, [.agg [.i 1, .i 0], .agg [.i 0, .i (-4)]], .i 6⟩ :: awM78
theorem awK79 : KnownM Tryz.prog G0 awM79 := KnownM.cons awc79 awK78
theorem awc80 : PCall Tryz.prog G0 41 ([.agg [.i 1, .i 0], .agg [.i 0, .i (-4)]]) (.tup [.i 6, .i 0]) := run_c awK79 (by kernel_rfl)
def awM80 : List Mem := ⟨41, [.agg [.i 1, .i 0], .agg [.i 0, .i (-4)]], .tup [.i 6, .i 0]⟩ :: awM79
theorem awK80 : KnownM Tryz.prog G0 awM80 := KnownM.cons awc80 awK79
theorem awc81 : PCall Tryz.prog G0 115 ([.agg [.i 2, .i (-2)]]) (.i 0) := run_c awK80 (by kernel_rfl)
def awM81 : List Mem := ⟨115, [.agg [.i 2, .i (-2)]], .i 0⟩ :: awM80
theorem awK81 : KnownM Tryz.prog G0 awM81 := KnownM.cons awc81 awK80
theorem awc82 : PCall Tryz.prog G0 116 ([.agg [.i 1, .i 0], .agg [.i 2, .i (-2)]]) (.i 7) := run_c awK81 (by kernel_rfl)
def awM82 : List Mem := ⟨116, [.agg [.i 1, .i 0], .agg [.i 2, .i (-2)]], .i 7⟩ :: awM81
theorem awK82 : KnownM Tryz.prog G0 awM82 := KnownM.cons awc82 awK81
theorem awc83 : PCall Tryz.prog G0 41 ([.agg [.i 1, .i 0], .agg [.i 2, .i (-2)]]) (.tup [.i 7, .i 0]) := run_c awK82 (by kernel_rfl)
def awM83 : List Mem := ⟨41, [.agg [.i 1, .i 0], .agg [.i 2, .i (-2)]], .tup [.i 7, .i 0]⟩ :: awM82
theorem awK83 : KnownM Tryz.prog G0 awM83 := KnownM.cons awc83 awK82
theorem awc84 : PCall Tryz.prog G0 88 ([.sl 2 [[.i 0, .i 0], [.i 10, .i 0], [.i 10, .i 5]]]) (.i 0) := run_c awK83 (by kernel_rfl)
def awM84 : List Mem := ⟨88, [.sl 2 [[.i 0, .i 0], [.i 10, .i 0], [.i 10, .i 5]]], .i 0⟩ :: awM83
theorem awK84 : KnownM Tryz.prog G0 awM84 := KnownM.cons awc84 awK83
theorem awc85 : PCall Tryz.prog G0 22 ([.sl 3 [[.i 0, .i 0, .i 100], [.i 10, .i 50, .i 80]]]) (.i 0) := run_c awK84 (by kernel_rfl)
def awM85 : List Mem := ⟨22, [.sl 3 [[.i 0, .i 0, .i 100], [.i 10, .i 50, .i 80]]], .i 0⟩ :: awM84
theorem awK85 : KnownM Tryz.prog G0 awM85 := KnownM.cons awc85 awK84
theorem awc86 : PCall Tryz.prog G0 90 ([.sl 3 [[.i 0, .i 0, .i 100], [.i 10, .i 50, .i 80]], .i 0]) (.agg [.i 0, .i 0, .i 100]) := run_c awK85 (by kernel_rfl)
def awM86 : List Mem := ⟨90, [.sl 3 [[.i 0, .i 0, .i 100], [.i 10, .i 50, .i 80]], .i 0], .agg [.i 0, .i 0, .i 100]⟩ :: awM85
theorem awK86 : KnownM Tryz.prog G0 awM86 := KnownM.cons awc86 awK85
theorem awc87 : PCall Tryz.prog G0 90 ([.sl 3 [[.i 0, .i 0, .i 100], [.i 10, .i 50, .i 80]], .i 10]) (.agg [.i 10, .i 50, .i 80]) := run_c awK86 (by kernel_rfl)
def awM87 : List Mem := ⟨90, [.sl 3 [[.i 0, .i 0, .i 100], [.i 10, .i 50, .i 80]], .i 10], .agg [.i 10, .i 50, .i 80]⟩ :: awM86
theorem awK87 : KnownM Tryz.prog G0 awM87 := KnownM.cons awc87 awK86
theorem awc88 : PCall Tryz.prog G0 90 ([.sl 3 [[.i 0, .i 0, .i 100], [.i 10, .i 50, .i 80]], .i 15]) (.agg [.i 10, .i 50, .i 80]) := run_c awK87 (by kernel_rfl)
def awM88 : List Mem := ⟨90, [.sl 3 [[.i 0, .i 0, .i 100], [.i 10, .i 50, .i 80]], .i 15], .agg [.i 10, .i 50, .i 80]⟩ :: awM87
theorem awK88 : KnownM Tryz.prog G0 awM88 := KnownM.cons awc88 awK87
theorem awc89 : PCall Tryz.prog G0 134 ([.agg [.i 100, .i 0, .i 0, .i 0, .i 100]]) (.i 0) := run_c awK88 (by kernel_rfl)
def awM89 : List Mem := ⟨134, [.agg [.i 100, .i 0, .i 0, .i 0, .i 100]], .i 0⟩ :: awM88
theorem awK89 : KnownM Tryz.prog G0 awM89 := KnownM.cons awc89 awK88
theorem awc90 : PCall Tryz.prog G0 104 ([.agg [.i 10, .i 0, .i 50]]) (.i 0) := run_c awK89 (by kernel_rfl)
def awM90 : List Mem := ⟨104, [.agg [.i 10, .i 0, .i 50]], .i 0⟩ :: awM89
theorem awK90 : KnownM Tryz.prog G0 awM90 := KnownM.cons awc90 awK89
theorem awc91 : PCall Tryz.prog G0 134 ([.agg [.i 103, .i 10, .i 0, .i 50, .i 80]]) (.i 0) := run_c awK90 (by kernel_rfl)
def awM91 : List Mem := ⟨134, [.agg [.i 103, .i 10, .i 0, .i 50, .i 80]], .i 0⟩ :: awM90
theorem awK91 : KnownM Tryz.prog G0 awM91 := KnownM.cons awc91 awK90
theorem awc92 : PCall Tryz.prog G0 104 ([.agg [.i 10, .i 5, .i 50]]) (.i 0) := run_c awK91 (by kernel_rfl)
def awM92 : List Mem := ⟨104, [.agg [.i 10, .i 5, .i 50]], .i 0⟩ :: awM91
theorem awK92 : KnownM Tryz.prog G0 awM92 := KnownM.cons awc92 awK91
theorem awc93 : PCall Tryz.prog G0 134 ([.agg [.i 104, .i 10, .i 5, .i 50, .i 80]]) (.i 0) := run_c awK92 (by kernel_rfl)
def awM93 : List Mem := ⟨134, [.agg [.i 104, .i 10, .i 5, .i 50, .i 80]], .i 0⟩ :: awM92
theorem awK93 : KnownM Tryz.prog G0 awM93 := KnownM.cons awc93 awK92
theorem awc94 : PCall Tryz.prog G0 76 ([.sl 5 awv5]) (.i 0) := run_c awK93 (by kernel_rfl)
def awM94 : List Mem := ⟨76, [.sl 5 awv5], .i 0⟩ :: awM93
theorem awK94 : KnownM Tryz.prog G0 awM94 := KnownM.cons awc94 awK93
theorem awc95 : PCall Tryz.prog G0 14 ([.sl 2 [[.i 0, .i 0], [.i 10, .i 0], [.i 10, .i 5]], .sl 3 [[.i 0, .i 0, .i 100], [.i 10, .i 50, .i 80]], .i 4, .i 100]) (.tup [.sl 5 awv5, .i 0]) := run_c awK94 (by kernel_rfl)
def awM95 : List Mem := ⟨14, [.sl 2 [[.i 0, .i 0], [.i 10, .i 0], [.i 10, .i 5]], .sl 3 [[.i 0, .i 0, .i 100], [.i 10, .i 50, .i 80]], .i 4, .i 100], .tup [.sl 5 awv5, .i 0]⟩ :: awM94
theorem awK95 : KnownM Tryz.prog G0 awM95 := KnownM.cons awc95 awK94
theorem awc96 : PCall Tryz.prog G0 122 ([.str [111, 110, 101]]) (.bool true) := run_c awK95 (by kernel_rfl)
def awM96 : List Mem := ⟨122, [.str [111, 110, 101]], .bool true⟩ :: awM95
theorem awK96 : KnownM Tryz.prog G0 awM96 := KnownM.cons awc96 awK95
theorem awc97 : PCall Tryz.prog G0 122 ([.str [116, 119, 111]]) (.bool true) := run_c awK96 (by kernel_rfl)
def awM97 : List Mem := ⟨122, [.str [116, 119, 111]], .bool true⟩ :: awM96
theorem awK97 : KnownM Tryz.prog G0 awM97 := KnownM.cons awc97 awK96
theorem awc98 : PCall Tryz.prog G0 70 ([.sl 13 awv11, .sl 3 awv12]) (.i 0) := run_c awK97 (by kernel_rfl)
def awM98 : List Mem := ⟨70, [.sl 13 awv11, .sl 3 awv12], .i 0⟩ :: awM97
theorem awK98 : KnownM Tryz.prog G0 awM98 := KnownM.cons awc98 awK97
theorem awc99 : PCall Tryz.prog G0 100 ([.agg awv10, .sl 5 awv0, .agg [.i 5, .i 9], .agg [.i 4, .i 2, .i 0]]) (.i 2700) := run_c awK98 (by kernel_rfl)
def awM99 : List Mem := ⟨100, [.agg awv10, .sl 5 awv0, .agg [.i 5, .i 9], .agg [.i 4, .i 2, .i 0]], .i 2700⟩ :: awM98
theorem awK99 : KnownM Tryz.prog G0 awM99 := KnownM.cons awc99 awK98
theorem awc100 : PCall Tryz.prog G0 155 ([.agg awv6, .elt 1 awv15 0 0, .elt 3 [[.i 4, .i 2, .i 0]] 0 0]) (.agg awv8) := run_c awK99 (by kernel_rfl)
def awM100 : List Mem := ⟨155, [.agg awv6, .elt 1 awv15 0 0, .elt 3 [[.i 4, .i 2, .i 0]] 0 0], .agg awv8⟩ :: awM99
theorem awK100 : KnownM Tryz.prog G0 awM100 := KnownM.cons awc100 awK99
theorem awc101 : PCall Tryz.prog G0 155 ([.agg awv7, .elt 1 awv15 0 0, .elt 3 [[.i 4, .i 2, .i 0]] 0 0]) (.agg awv9) := run_c awK100 (by kernel_rfl)
def awM101 : List Mem := ⟨155, [.agg awv7, .elt 1 awv15 0 0, .elt 3 [[.i 4, .i 2, .i 0]] 0 0], .agg awv9⟩ :: awM100
theorem awK101 : KnownM Tryz.prog G0 awM101 := KnownM.cons awc101 awK100
theorem awc102 : PCall Tryz.prog G0 127 (awv22) (.tup [.sl 4 awv19, .i 0]) := run_c awK101 (by kernel_rfl)
def awM102 : List Mem := ⟨127, awv22, .tup [.sl 4 awv19, .i 0]⟩ :: awM101
theorem awK102 : KnownM Tryz.prog G0 awM102 := KnownM.cons awc102 awK101
theorem awc103 : PCall Tryz.prog G0 128 ([.sl 4 awv19]) (.sl 1 [[.i 2700], [.i 2700]]) := run_c awK102 (by kernel_rfl)
def awM103 : List Mem := ⟨128, [.sl 4 awv19], .sl 1 [[.i 2700], [.i 2700]]⟩ :: awM102
theorem awK103 : KnownM Tryz.prog G0 awM103 := KnownM.cons awc103 awK102
theorem awc104 : PCall Tryz.prog G0 61 (awv22) (.tup [.i 5400, .i 0]) := run_c awK103 (by kernel_rfl)
def awM104 : List Mem := ⟨61, awv22, .tup [.i 5400, .i 0]⟩ :: awM103
theorem awK104 : KnownM Tryz.prog G0 awM104 := KnownM.cons awc104 awK103
theorem awc105 : PCall Tryz.prog G0 130 ([.agg awv9, .agg awv8]) (.i 0) := run_c awK104 (by kernel_rfl)
def awM105 : List Mem := ⟨130, [.agg awv9, .agg awv8], .i 0⟩ :: awM104
theorem awK105 : KnownM Tryz.prog G0 awM105 := KnownM.cons awc105 awK104
theorem awc106 : PCall Tryz.prog G0 65 (awv22) (.tup [.str [111, 110, 101], .i 0]) := run_c awK105 (by kernel_rfl)
def awM106 : List Mem := ⟨65, awv22, .tup [.str [111, 110, 101], .i 0]⟩ :: awM105
theorem awK106 : KnownM Tryz.prog G0 awM106 := KnownM.cons awc106 awK105
theorem awc107 : PCall Tryz.prog G0 135 ([.str [116, 121, 112, 101, 32, 106, 101, 116], .sl 1 [[.i 500]]]) (.str [116, 121, 112, 101, 32, 106, 101, 116, 32, 53, 48, 48, 10]) := run_c awK106 (by kernel_rfl)
def awM107 : List Mem := ⟨135, [.str [116, 121, 112, 101, 32, 106, 101, 116], .sl 1 [[.i 500]]], .str [116, 121, 112, 101, 32, 106, 101, 116, 32, 53, 48, 48, 10]⟩ :: awM106
theorem awK107 : KnownM Tryz.prog G0 awM107 := KnownM.cons awc107 awK106
theorem awc108 : PCall Tryz.prog G0 135 ([.str [115, 104, 97, 114, 101, 115], .sl 1 [[.i 600], [.i 400]]]) (.str [115, 104, 97, 114, 101, 115, 32, 54, 48, 48, 32, 52, 48, 48, 10]) := run_c awK107 (by kernel_rfl)
def awM108 : List Mem := ⟨135, [.str [115, 104, 97, 114, 101, 115], .sl 1 [[.i 600], [.i 400]]], .str [115, 104, 97, 114, 101, 115, 32, 54, 48, 48, 32, 52, 48, 48, 10]⟩ :: awM107
theorem awK108 : KnownM Tryz.prog G0 awM108 := KnownM.cons awc108 awK107
theorem awc109 : PCall Tryz.prog G0 135 ([.str [100, 105, 114, 101, 99, 116], .sl 1 awv3]) (.str [100, 105, 114, 101, 99, 116, 32, 49, 48, 48, 48, 32, 49, 48, 48, 48, 32, 49, 48, 48, 48, 32, 49, 48, 48, 48, 32, 53, 48, 48, 32, 53, 48, 48, 32, 53, 48, 48, 32, 53, 48, 48, 10]) := run_c awK108 (by kernel_rfl)
def awM109 : List Mem := ⟨135, [.str [100, 105, 114, 101, 99, 116], .sl 1 awv3], .str [100, 105, 114, 101, 99, 116, 32, 49, 48, 48, 48, 32, 49, 48, 48, 48, 32, 49, 48, 48, 48, 32, 49, 48, 48, 48, 32, 53, 48, 48, 32, 53, 48, 48, 32, 53, 48, 48, 32, 53, 48, 48, 10]⟩ :: awM108
theorem awK109 : KnownM Tryz.prog G0 awM109 := KnownM.cons awc109 awK108
theorem awc110 : PCall Tryz.prog G0 135 ([.str [115, 113, 117, 97, 114, 101, 115], .sl 1 [[.i 0], [.i 100]]]) (.str [115, 113, 117, 97, 114, 101, 115, 32, 48, 32, 49, 48, 48, 10]) := run_c awK109 (by kernel_rfl)
def awM110 : List Mem := ⟨135, [.str [115, 113, 117, 97, 114, 101, 115], .sl 1 [[.i 0], [.i 100]]], .str [115, 113, 117, 97, 114, 101, 115, 32, 48, 32, 49, 48, 48, 10]⟩ :: awM109
theorem awK110 : KnownM Tryz.prog G0 awM110 := KnownM.cons awc110 awK109
theorem awc111 : PCall Tryz.prog G0 135 ([.str [112, 111, 119, 101, 114], .sl 1 [[.i 10], [.i 1000], [.i 400]]]) (.str [112, 111, 119, 101, 114, 32, 49, 48, 32, 49, 48, 48, 48, 32, 52, 48, 48, 10]) := run_c awK110 (by kernel_rfl)
def awM111 : List Mem := ⟨135, [.str [112, 111, 119, 101, 114], .sl 1 [[.i 10], [.i 1000], [.i 400]]], .str [112, 111, 119, 101, 114, 32, 49, 48, 32, 49, 48, 48, 48, 32, 52, 48, 48, 10]⟩ :: awM110
theorem awK111 : KnownM Tryz.prog G0 awM111 := KnownM.cons awc111 awK110
theorem awc112 : PCall Tryz.prog G0 135 ([.str [112, 111, 119, 101, 114], .sl 1 [[.i 20], [.i 2000], [.i 600]]]) (.str [112, 111, 119, 101, 114, 32, 50, 48, 32, 50, 48, 48, 48, 32, 54, 48, 48, 10]) := run_c awK111 (by kernel_rfl)
def awM112 : List Mem := ⟨135, [.str [112, 111, 119, 101, 114], .sl 1 [[.i 20], [.i 2000], [.i 600]]], .str [112, 111, 119, 101, 114, 32, 50, 48, 32, 50, 48, 48, 48, 32, 54, 48, 48, 10]⟩ :: awM111
theorem awK112 : KnownM Tryz.prog G0 awM112 := KnownM.cons awc112 awK111
theorem awc113 : PCall Tryz.prog G0 77 (awv13) (.tup [.str [116, 121, 112, 101, 32, 106, 101, 116, 32, 53, 48, 48, 10, 115, 104, 97, 114, 101, 115, 32, 54, 48, 48, 32, 52, 48, 48, 10, 100, 105, 114, 101, 99, 116, 32, 49, 48, 48, 48, 32, 49, 48, 48, 48, 32, 49, 48, 48, 48, 32, 49, 48, 48, 48, 32, 53, 48, 48, 32, 53, 48, 48, 32, 53, 48, 48, 32, 53, 48, 48, 10, 115, 113, 117, 97, 114, 101, 115, 32, 48, 32, 49, 48, 48, 10, 112, 111, 119, 101, 114, 32, 49, 48, 32, 49, 48, 48, 48, 32, 52, 48, 48, 10, 112, 111, 119, 101, 114, 32, 50, 48, 32, 50, 48, 48, 48, 32, 54, 48, 48, 10], .i 0]) := run_c awK112 (by kernel_rfl)
def awM113 : List Mem := ⟨77, awv13, .tup [.str [116, 121, 112, 101, 32, 106, 101, 116, 32, 53, 48, 48, 10, 115, 104, 97, 114, 101, 115, 32, 54, 48, 48, 32, 52, 48, 48, 10, 100, 105, 114, 101, 99, 116, 32, 49, 48, 48, 48, 32, 49, 48, 48, 48, 32, 49, 48, 48, 48, 32, 49, 48, 48, 48, 32, 53, 48, 48, 32, 53, 48, 48, 32, 53, 48, 48, 32, 53, 48, 48, 10, 115, 113, 117, 97, 114, 101, 115, 32, 48, 32, 49, 48, 48, 10, 112, 111, 119, 101, 114, 32, 49, 48, 32, 49, 48, 48, 48, 32, 52, 48, 48, 10, 112, 111, 119, 101, 114, 32, 50, 48, 32, 50, 48, 48, 48, 32, 54, 48, 48, 10], .i 0]⟩ :: awM112
theorem awK113 : KnownM Tryz.prog G0 awM113 := KnownM.cons awc113 awK112
theorem awc114 : PCall Tryz.prog G0 56 ([.sl 5 awv0, .i 9]) (.tup [.agg [.i 0, .i 0, .i 0, .i 0, .i 0, .i 0], .i 7]) := run_c awK113 (by kernel_rfl)
def awM114 : List Mem := ⟨56, [.sl 5 awv0, .i 9], .tup [.agg [.i 0, .i 0, .i 0, .i 0, .i 0, .i 0], .i 7]⟩ :: awM113
theorem awK114 : KnownM Tryz.prog G0 awM114 := KnownM.cons awc114 awK113
theorem awc115 : PCall Tryz.prog G0 13 ([]) (.bool true) := run_c awK114 (by kernel_rfl)
def awM115 : List Mem := ⟨13, [], .bool true⟩ :: awM114
theorem awK115 : KnownM Tryz.prog G0 awM115 := KnownM.cons awc115 awK114
end Go.Proofs.YtjhjmncjidbieaaGreatDoor
namespace Go.Proofs.YtjhjmncjidbieaaGreatDoor
open Go Go.Av Go.RowKit
def sWhen (b : Bool) (e : Int) : Int := if b then e else 0
def sFirst : List Int → Int
  | [] => 0
  | x :: l => if x ≠ 0 then x else sFirst l
def sWithin (x lo hi : Int) : Int := sWhen (if decide (x < lo) then true else decide (x > hi)) 3
def sFloor (n d : Int) : Int := if n.tdiv d * d > n then n.tdiv d - 1 else n.tdiv d
def hdI (l : List AV) : Int := match l with
  | [.int _ n] => n
  | _ => 0
def rInt (l : List Int) : List (List AV) := l.map fun x => [.i x]
def sPower (p : Int) : Int := sWithin p 1 100
def sPlace (x y z : Int) : Int := sFirst [sWithin x (-100000) 100000, sWithin y (-100000) 100000, sWithin z 0 20000]
def sFix (t x y z p : Int) : Int := sFirst [sWithin t 0 100000000, sPlace x y z, sPower p]
def spA : Nat → List AV → Option AV
  | 92, [.bool b, .int _ e] => some (.i (sWhen b e))
  | 94, [.bool b, .int _ e] => some (.i (sWhen b e))
  | 87, [.sl _ rows] => some (.i (sFirst (rows.map hdI)))
  | 93, [.sl _ rows] => some (.i (sFirst (rows.map hdI)))
  | 89, [.int _ x, .int _ lo, .int _ hi] => some (.i (sWithin x lo hi))
  | 95, [.int _ x, .int _ lo, .int _ hi] => some (.i (sWithin x lo hi))
  | 98, [.int _ p] => some (.i (sPower p))
  | 44, [.int _ p] => some (.i (sPower p))
  | 19, [.int _ p] => some (.i (sWithin p 1 1000))
  | 20, [.int _ p] => some (.i (sWithin p 0 100000000))
  | 16, [.sl _ rows] => some (.i (sFirst (rows.map hdI)))
  | 104, [.agg [.int _ x, .int _ y, .int _ z]] => some (.i (sPlace x y z))
  | 35, [.agg [.int _ x, .int _ y, .int _ z]] => some (.i (sPlace x y z))
  | 134, [.agg [.int _ t, .int _ x, .int _ y, .int _ z, .int _ p]] => some (.i (sFix t x y z p))
  | 91, [.int _ n, .int _ d] => some (.i (sFloor n d))
  | 143, [.int _ n, .int _ d] => some (.i (sFloor n d))
  | _, _ => none
theorem rInt_len (es : List Int) : (rInt es).length = es.length := by simp [rInt]
theorem rInt_at {es : List Int} {i : Nat} (h : i < es.length) : nthR (rInt es) i = [.i (es.getD i 0)] := by
  simp [nthR, rInt, List.getD_eq_getElem?_getD, h]
theorem first_drop (es : List Int) : ∀ (i : Nat), (∀ k, k < i → es.getD k 0 = 0) → i ≤ es.length → sFirst es = sFirst (es.drop i) := by
  intro i
  induction i with
  | zero => intros; rfl
  | succ i ih =>
    intro h hl
    rw [ih (fun k hk => h k (by omega)) (by omega)]
    have := h i (by omega)
    rw [List.drop_eq_getElem_cons (show i < es.length by omega)]
    rw [List.getD_eq_getElem?_getD, List.getElem?_eq_getElem (show i < es.length by omega)] at this
    simp at this
    simp [sFirst, this]
theorem first_hit {es : List Int} {i : Nat} (h : i < es.length) (h0 : ∀ k, k < i → es.getD k 0 = 0) (hne : es.getD i 0 ≠ 0) : sFirst es = es.getD i 0 := by
  rw [first_drop es i h0 (by omega), List.drop_eq_getElem_cons h]
  simp [List.getD_eq_getElem?_getD, h] at hne
  simp [sFirst, hne, List.getD_eq_getElem?_getD, h]
theorem first_end {es : List Int} (h0 : ∀ k, k < es.length → es.getD k 0 = 0) : sFirst es = 0 := by
  rw [first_drop es es.length h0 (Nat.le_refl _)]
  simp [sFirst]

theorem c92 (b : Bool) (e : Int)  : PCall Tryz.prog G0 92 [.bool b, .i e] (.i (sWhen b e)) := by
  have key :
        (b = true → AV.int IntKind.i64 e = AV.int IntKind.i64 (sWhen b e)) ∧
          (b = false → AV.int IntKind.i64 (0 : Int) = AV.int IntKind.i64 (sWhen b e)) := by
    exact ⟨fun h => by simp [sWhen, h], fun h => by simp [sWhen, h]⟩
  exact c_of Tryz.f92 (mkB spA 92 [] noLa) (by kernel_rfl) (by kernel_rfl) (by kernel_rfl) (by kernel_rfl) key (by kernel_rfl)
theorem c94 (b : Bool) (e : Int)  : PCall Tryz.prog G0 94 [.bool b, .i e] (.i (sWhen b e)) := by
  have key :
        (b = true → AV.int IntKind.i64 e = AV.int IntKind.i64 (sWhen b e)) ∧
          (b = false → AV.int IntKind.i64 (0 : Int) = AV.int IntKind.i64 (sWhen b e)) := by
    exact ⟨fun h => by simp [sWhen, h], fun h => by simp [sWhen, h]⟩
  exact c_of Tryz.f94 (mkB spA 94 [] noLa) (by kernel_rfl) (by kernel_rfl) (by kernel_rfl) (by kernel_rfl) key (by kernel_rfl)
theorem c89 (x lo hi : Int)  : PCall Tryz.prog G0 89 [.i x, .i lo, .i hi] (.i (sWithin x lo hi)) := by
  have key :
        ((!decide (x < lo)) = true → (!decide (x < lo)) = true) ∧
          ((!decide (x < lo)) = true → (!decide (x < lo)) = true) ∧
            (decide (x < lo) = false → (!decide (x < lo)) = true) ∧
              PCall Tryz.prog G0 (92 : Nat)
                  [AV.bool (if decide (x < lo) = true then true else decide (x > hi)), AV.int IntKind.i64 (3 : Int)]
                  (AV.int IntKind.i64 (sWhen (if decide (x < lo) = true then true else decide (x > hi)) (3 : Int))) ∧
                AV.int IntKind.i64 (sWhen (if decide (x < lo) = true then true else decide (x > hi)) (3 : Int)) =
                  AV.int IntKind.i64 (sWithin x lo hi) := by
    exact ⟨fun h => h, fun h => h, fun h => by simp [h], c92 _ _, rfl⟩
  exact c_of Tryz.f89 (mkB spA 89 [] noLa) (by kernel_rfl) (by kernel_rfl) (by kernel_rfl) (by kernel_rfl) key (by kernel_rfl)
theorem c95 (x lo hi : Int)  : PCall Tryz.prog G0 95 [.i x, .i lo, .i hi] (.i (sWithin x lo hi)) := by
  have key :
        ((!decide (x < lo)) = true → (!decide (x < lo)) = true) ∧
          ((!decide (x < lo)) = true → (!decide (x < lo)) = true) ∧
            (decide (x < lo) = false → (!decide (x < lo)) = true) ∧
              PCall Tryz.prog G0 (94 : Nat)
                  [AV.bool (if decide (x < lo) = true then true else decide (x > hi)), AV.int IntKind.i64 (3 : Int)]
                  (AV.int IntKind.i64 (sWhen (if decide (x < lo) = true then true else decide (x > hi)) (3 : Int))) ∧
                AV.int IntKind.i64 (sWhen (if decide (x < lo) = true then true else decide (x > hi)) (3 : Int)) =
                  AV.int IntKind.i64 (sWithin x lo hi) := by
    exact ⟨fun h => h, fun h => h, fun h => by simp [h], c94 _ _, rfl⟩
  exact c_of Tryz.f95 (mkB spA 95 [] noLa) (by kernel_rfl) (by kernel_rfl) (by kernel_rfl) (by kernel_rfl) key (by kernel_rfl)
def la87 (es : List Int) : LA := {
  pre := [.keep [0, 5, 6, 7] [], .bound 1], post := [.keep [0, 5, 6, 7] [], .bound 1]
  Gh := Nat
  st := fun i => ⟨[(0, .sl 1 (rInt es)), (5, .sl 1 (rInt es)), (6, .i es.length), (7, .i i)], [], 1⟩
  ok := fun i => i ≤ es.length ∧ ∀ k, k < i → es.getD k 0 = 0
  ms := fun i => es.length - i }
def la93 (es : List Int) : LA := {
  pre := [.keep [0, 3] [], .bound 1], post := [.keep [0, 3] [], .bound 1]
  Gh := Nat
  st := fun i => ⟨[(0, .sl 1 (rInt es)), (3, .i i)], [], 1⟩
  ok := fun i => i ≤ es.length ∧ ∀ k, k < i → es.getD k 0 = 0
  ms := fun i => es.length - i }
def rdI (es : List Int) : List AV → Option AV
  | [.elt _ _ i _] => some (.i (es.getD i 0))
  | _ => none
theorem c87 (es : List Int) (hl : es.length ≤ 1000000) : PCall Tryz.prog G0 87 [.sl 1 (rInt es)] (.i (sFirst es)) := by
  have key :
        (∃ (g : Nat),
            (g ≤ es.length ∧ ∀ (k : Nat), k < g → es.getD k (0 : Int) = (0 : Int)) ∧
              AS.mk
                  [((0 : Nat), AV.sl (1 : Nat) (rInt es)), ((5 : Nat), AV.sl (1 : Nat) (rInt es)),
                    ((6 : Nat), AV.int IntKind.i64 (↑(rInt es).length : Int)), ((7 : Nat), AV.int IntKind.i64 (0 : Int))]
                  [] (1 : Nat) =
                AS.mk
                  [((0 : Nat), AV.sl (1 : Nat) (rInt es)), ((5 : Nat), AV.sl (1 : Nat) (rInt es)),
                    ((6 : Nat), AV.int IntKind.i64 (↑es.length : Int)), ((7 : Nat), AV.int IntKind.i64 (↑g : Int))]
                  [] (1 : Nat)) ∧
          ∀ (g : Nat),
            (g ≤ es.length ∧ ∀ (k : Nat), k < g → es.getD k (0 : Int) = (0 : Int)) →
              (decide ((↑g : Int) < (↑es.length : Int)) = true →
                  (0 : Int) ≤ (↑g : Int) ∧
                    (↑g : Int) < (↑(rInt es).length : Int) ∧
                      nth (nthR (rInt es) (↑g : Int).toNat) (0 : Nat) =
                          AV.int IntKind.i64 (es.getD (↑g : Int).toNat (0 : Int)) ∧
                        ((es.getD (↑g : Int).toNat (0 : Int) != (0 : Int)) = true →
                            AV.int IntKind.i64 (es.getD (↑g : Int).toNat (0 : Int)) = AV.int IntKind.i64 (sFirst es)) ∧
                          ((es.getD (↑g : Int).toNat (0 : Int) != (0 : Int)) = false →
                            In64 ((↑g : Int) + (1 : Int)) ∧
                              ∃ (g' : Nat),
                                (g' ≤ es.length ∧ ∀ (k : Nat), k < g' → es.getD k (0 : Int) = (0 : Int)) ∧
                                  es.length - g' < es.length - g ∧
                                    AS.mk
                                        [((0 : Nat), AV.sl (1 : Nat) (rInt es)), ((5 : Nat), AV.sl (1 : Nat) (rInt es)),
                                          ((6 : Nat), AV.int IntKind.i64 (↑es.length : Int)),
                                          ((7 : Nat), AV.int IntKind.i64 ((↑g : Int) + (1 : Int)))]
                                        [] (1 : Nat) =
                                      AS.mk
                                        [((0 : Nat), AV.sl (1 : Nat) (rInt es)), ((5 : Nat), AV.sl (1 : Nat) (rInt es)),
                                          ((6 : Nat), AV.int IntKind.i64 (↑es.length : Int)),
                                          ((7 : Nat), AV.int IntKind.i64 (↑g' : Int))]
                                        [] (1 : Nat))) ∧
                (decide ((↑g : Int) < (↑es.length : Int)) = false →
                  AV.int IntKind.i64 (0 : Int) = AV.int IntKind.i64 (sFirst es)) := by
    refine ⟨⟨0, ⟨by omega, by intros; omega⟩, by simp [rInt_len]⟩, fun g ⟨h1, h2⟩ => ⟨fun hd => ?_, fun hd => ?_⟩⟩
    · have hlt : g < es.length := by simpa using hd
      refine ⟨by omega, by rw [rInt_len]; omega, by simp [rInt_at hlt, nth], fun hne => ?_, fun hz => ⟨?_, g + 1, ⟨hlt, fun k hk => ?_⟩, by omega, rfl⟩⟩
      · rw [first_hit hlt h2 (by simpa using hne)]; rfl
      · unfold In64; omega
      · by_cases e : k = g
        · subst e; simpa using hz
        · exact h2 k (by omega)
    · have hge : g = es.length := by simp at hd; omega
      rw [first_end (hge ▸ h2)]
  exact c_of Tryz.f87 (mkB spA 87 [(3, 1, rdI es)] (fun i => if i.beq 0 then some (la87 es) else none)) (by kernel_rfl) (by kernel_rfl) (by kernel_rfl) (by kernel_rfl) key (by kernel_rfl)
theorem c93 (es : List Int) (hl : es.length ≤ 1000000) : PCall Tryz.prog G0 93 [.sl 1 (rInt es)] (.i (sFirst es)) := by
  have key :
        (∃ (g : Nat),
            (g ≤ es.length ∧ ∀ (k : Nat), k < g → es.getD k (0 : Int) = (0 : Int)) ∧
              AS.mk [((0 : Nat), AV.sl (1 : Nat) (rInt es)), ((3 : Nat), AV.int IntKind.i64 (0 : Int))] [] (1 : Nat) =
                AS.mk [((0 : Nat), AV.sl (1 : Nat) (rInt es)), ((3 : Nat), AV.int IntKind.i64 (↑g : Int))] [] (1 : Nat)) ∧
          ∀ (g : Nat),
            (g ≤ es.length ∧ ∀ (k : Nat), k < g → es.getD k (0 : Int) = (0 : Int)) →
              (decide ((↑g : Int) < (↑(rInt es).length : Int)) = true →
                  (0 : Int) ≤ (↑g : Int) ∧
                    (↑g : Int) < (↑(rInt es).length : Int) ∧
                      nth (nthR (rInt es) (↑g : Int).toNat) (0 : Nat) =
                          AV.int IntKind.i64 (es.getD (↑g : Int).toNat (0 : Int)) ∧
                        ((es.getD (↑g : Int).toNat (0 : Int) != (0 : Int)) = true →
                            (0 : Int) ≤ (↑g : Int) ∧
                              (↑g : Int) < (↑(rInt es).length : Int) ∧
                                nth (nthR (rInt es) (↑g : Int).toNat) (0 : Nat) =
                                    AV.int IntKind.i64 (es.getD (↑g : Int).toNat (0 : Int)) ∧
                                  AV.int IntKind.i64 (es.getD (↑g : Int).toNat (0 : Int)) = AV.int IntKind.i64 (sFirst es)) ∧
                          ((es.getD (↑g : Int).toNat (0 : Int) != (0 : Int)) = false →
                            In64 ((↑g : Int) + (1 : Int)) ∧
                              ∃ (g' : Nat),
                                (g' ≤ es.length ∧ ∀ (k : Nat), k < g' → es.getD k (0 : Int) = (0 : Int)) ∧
                                  es.length - g' < es.length - g ∧
                                    AS.mk
                                        [((0 : Nat), AV.sl (1 : Nat) (rInt es)),
                                          ((3 : Nat), AV.int IntKind.i64 ((↑g : Int) + (1 : Int)))]
                                        [] (1 : Nat) =
                                      AS.mk
                                        [((0 : Nat), AV.sl (1 : Nat) (rInt es)), ((3 : Nat), AV.int IntKind.i64 (↑g' : Int))]
                                        [] (1 : Nat))) ∧
                (decide ((↑g : Int) < (↑(rInt es).length : Int)) = false →
                  AV.int IntKind.i64 (0 : Int) = AV.int IntKind.i64 (sFirst es)) := by
    refine ⟨⟨0, ⟨by omega, by intros; omega⟩, by simp⟩, fun g ⟨h1, h2⟩ => ⟨fun hd => ?_, fun hd => ?_⟩⟩
    · have hlt : g < es.length := by simpa [rInt_len] using hd
      refine ⟨by omega, by rw [rInt_len]; omega, by simp [rInt_at hlt, nth], fun hne => ?_, fun hz => ⟨?_, g + 1, ⟨hlt, fun k hk => ?_⟩, by omega, rfl⟩⟩
      · refine ⟨by omega, by rw [rInt_len]; omega, by simp [rInt_at hlt, nth], ?_⟩
        rw [first_hit hlt h2 (by simpa using hne)]; rfl
      · unfold In64; omega
      · by_cases e : k = g
        · subst e; simpa using hz
        · exact h2 k (by omega)
    · have hge : g = es.length := by simp [rInt_len] at hd; omega
      rw [first_end (hge ▸ h2)]
  exact c_of Tryz.f93 (mkB spA 93 [(4, 3, rdI es), (5, 3, rdI es)] (fun i => if i.beq 0 then some (la93 es) else none)) (by kernel_rfl) (by kernel_rfl) (by kernel_rfl) (by kernel_rfl) key (by kernel_rfl)
theorem c98 (p : Int)  : PCall Tryz.prog G0 98 [.i p] (.i (sPower p)) := by
  have key :
        PCall Tryz.prog G0 (89 : Nat) [AV.int IntKind.i64 p, AV.int IntKind.i64 (1 : Int), AV.int IntKind.i64 (100 : Int)]
            (AV.int IntKind.i64 (sWithin p (1 : Int) (100 : Int))) ∧
          AV.int IntKind.i64 (sWithin p (1 : Int) (100 : Int)) = AV.int IntKind.i64 (sPower p) := by
    exact ⟨c89 _ _ _, rfl⟩
  exact c_of Tryz.f98 (mkB spA 98 [] noLa) (by kernel_rfl) (by kernel_rfl) (by kernel_rfl) (by kernel_rfl) key (by kernel_rfl)
theorem c44 (p : Int)  : PCall Tryz.prog G0 44 [.i p] (.i (sPower p)) := by
  have key :
        PCall Tryz.prog G0 (95 : Nat) [AV.int IntKind.i64 p, AV.int IntKind.i64 (1 : Int), AV.int IntKind.i64 (100 : Int)]
            (AV.int IntKind.i64 (sWithin p (1 : Int) (100 : Int))) ∧
          AV.int IntKind.i64 (sWithin p (1 : Int) (100 : Int)) = AV.int IntKind.i64 (sPower p) := by
    exact ⟨c95 _ _ _, rfl⟩
  exact c_of Tryz.f44 (mkB spA 44 [] noLa) (by kernel_rfl) (by kernel_rfl) (by kernel_rfl) (by kernel_rfl) key (by kernel_rfl)
theorem c19 (p : Int)  : PCall Tryz.prog G0 19 [.i p] (.i (sWithin p 1 1000)) := by
  have key :
        PCall Tryz.prog G0 (95 : Nat) [AV.int IntKind.i64 p, AV.int IntKind.i64 (1 : Int), AV.int IntKind.i64 (1000 : Int)]
            (AV.int IntKind.i64 (sWithin p (1 : Int) (1000 : Int))) ∧
          AV.int IntKind.i64 (sWithin p (1 : Int) (1000 : Int)) = AV.int IntKind.i64 (sWithin p (1 : Int) (1000 : Int)) := by
    exact ⟨c95 _ _ _, rfl⟩
  exact c_of Tryz.f19 (mkB spA 19 [] noLa) (by kernel_rfl) (by kernel_rfl) (by kernel_rfl) (by kernel_rfl) key (by kernel_rfl)
theorem c20 (p : Int)  : PCall Tryz.prog G0 20 [.i p] (.i (sWithin p 0 100000000)) := by
  have key :
        PCall Tryz.prog G0 (95 : Nat)
            [AV.int IntKind.i64 p, AV.int IntKind.i64 (0 : Int), AV.int IntKind.i64 (100000000 : Int)]
            (AV.int IntKind.i64 (sWithin p (0 : Int) (100000000 : Int))) ∧
          AV.int IntKind.i64 (sWithin p (0 : Int) (100000000 : Int)) =
            AV.int IntKind.i64 (sWithin p (0 : Int) (100000000 : Int)) := by
    exact ⟨c95 _ _ _, rfl⟩
  exact c_of Tryz.f20 (mkB spA 20 [] noLa) (by kernel_rfl) (by kernel_rfl) (by kernel_rfl) (by kernel_rfl) key (by kernel_rfl)
theorem c16 (es : List Int) (hl : es.length ≤ 1000000) : PCall Tryz.prog G0 16 [.sl 1 (rInt es)] (.i (sFirst es)) := by
  have key :
        PCall Tryz.prog G0 (93 : Nat) [AV.sl (1 : Nat) (rInt es)] (AV.int IntKind.i64 (sFirst es)) ∧
          AV.int IntKind.i64 (sFirst es) = AV.int IntKind.i64 (sFirst es) := by
    exact ⟨c93 es hl, rfl⟩
  exact c_of Tryz.f16 (mkB (fun _ _ => some (.i (sFirst es))) 16 [] noLa) (by kernel_rfl) (by kernel_rfl) (by kernel_rfl) (by kernel_rfl) key (by kernel_rfl)
theorem c104 (x y z : Int)  : PCall Tryz.prog G0 104 [.agg [.i x, .i y, .i z]] (.i (sPlace x y z)) := by
  have key :
        PCall Tryz.prog G0 (89 : Nat)
            [AV.int IntKind.i64 x, AV.int IntKind.i64 (-100000 : Int), AV.int IntKind.i64 (100000 : Int)]
            (AV.int IntKind.i64 (sWithin x (-100000 : Int) (100000 : Int))) ∧
          PCall Tryz.prog G0 (89 : Nat)
              [AV.int IntKind.i64 y, AV.int IntKind.i64 (-100000 : Int), AV.int IntKind.i64 (100000 : Int)]
              (AV.int IntKind.i64 (sWithin y (-100000 : Int) (100000 : Int))) ∧
            PCall Tryz.prog G0 (89 : Nat)
                [AV.int IntKind.i64 z, AV.int IntKind.i64 (0 : Int), AV.int IntKind.i64 (20000 : Int)]
                (AV.int IntKind.i64 (sWithin z (0 : Int) (20000 : Int))) ∧
              PCall Tryz.prog G0 (87 : Nat)
                  [AV.sl (1 : Nat)
                      [[AV.int IntKind.i64 (sWithin x (-100000 : Int) (100000 : Int))],
                        [AV.int IntKind.i64 (sWithin y (-100000 : Int) (100000 : Int))],
                        [AV.int IntKind.i64 (sWithin z (0 : Int) (20000 : Int))]]]
                  (AV.int IntKind.i64
                    (sFirst
                      [hdI [AV.int IntKind.i64 (sWithin x (-100000 : Int) (100000 : Int))],
                        hdI [AV.int IntKind.i64 (sWithin y (-100000 : Int) (100000 : Int))],
                        hdI [AV.int IntKind.i64 (sWithin z (0 : Int) (20000 : Int))]])) ∧
                AV.int IntKind.i64
                    (sFirst
                      [hdI [AV.int IntKind.i64 (sWithin x (-100000 : Int) (100000 : Int))],
                        hdI [AV.int IntKind.i64 (sWithin y (-100000 : Int) (100000 : Int))],
                        hdI [AV.int IntKind.i64 (sWithin z (0 : Int) (20000 : Int))]]) =
                  AV.int IntKind.i64 (sPlace x y z) := by
    exact ⟨c89 _ _ _, c89 _ _ _, c89 _ _ _, c87 [_, _, _] (by simp), rfl⟩
  exact c_of Tryz.f104 (mkB spA 104 [] noLa) (by kernel_rfl) (by kernel_rfl) (by kernel_rfl) (by kernel_rfl) key (by kernel_rfl)
theorem c35 (x y z : Int)  : PCall Tryz.prog G0 35 [.agg [.i x, .i y, .i z]] (.i (sPlace x y z)) := by
  have key :
        PCall Tryz.prog G0 (95 : Nat)
            [AV.int IntKind.i64 x, AV.int IntKind.i64 (-100000 : Int), AV.int IntKind.i64 (100000 : Int)]
            (AV.int IntKind.i64 (sWithin x (-100000 : Int) (100000 : Int))) ∧
          PCall Tryz.prog G0 (95 : Nat)
              [AV.int IntKind.i64 y, AV.int IntKind.i64 (-100000 : Int), AV.int IntKind.i64 (100000 : Int)]
              (AV.int IntKind.i64 (sWithin y (-100000 : Int) (100000 : Int))) ∧
            PCall Tryz.prog G0 (95 : Nat)
                [AV.int IntKind.i64 z, AV.int IntKind.i64 (0 : Int), AV.int IntKind.i64 (20000 : Int)]
                (AV.int IntKind.i64 (sWithin z (0 : Int) (20000 : Int))) ∧
              PCall Tryz.prog G0 (93 : Nat)
                  [AV.sl (1 : Nat)
                      [[AV.int IntKind.i64 (sWithin x (-100000 : Int) (100000 : Int))],
                        [AV.int IntKind.i64 (sWithin y (-100000 : Int) (100000 : Int))],
                        [AV.int IntKind.i64 (sWithin z (0 : Int) (20000 : Int))]]]
                  (AV.int IntKind.i64
                    (sFirst
                      [hdI [AV.int IntKind.i64 (sWithin x (-100000 : Int) (100000 : Int))],
                        hdI [AV.int IntKind.i64 (sWithin y (-100000 : Int) (100000 : Int))],
                        hdI [AV.int IntKind.i64 (sWithin z (0 : Int) (20000 : Int))]])) ∧
                AV.int IntKind.i64
                    (sFirst
                      [hdI [AV.int IntKind.i64 (sWithin x (-100000 : Int) (100000 : Int))],
                        hdI [AV.int IntKind.i64 (sWithin y (-100000 : Int) (100000 : Int))],
                        hdI [AV.int IntKind.i64 (sWithin z (0 : Int) (20000 : Int))]]) =
                  AV.int IntKind.i64 (sPlace x y z) := by
    exact ⟨c95 _ _ _, c95 _ _ _, c95 _ _ _, c93 [_, _, _] (by simp), rfl⟩
  exact c_of Tryz.f35 (mkB spA 35 [] noLa) (by kernel_rfl) (by kernel_rfl) (by kernel_rfl) (by kernel_rfl) key (by kernel_rfl)
theorem c134 (t x y z p : Int)  : PCall Tryz.prog G0 134 [.agg [.i t, .i x, .i y, .i z, .i p]] (.i (sFix t x y z p)) := by
  have key :
        PCall Tryz.prog G0 (89 : Nat)
            [AV.int IntKind.i64 t, AV.int IntKind.i64 (0 : Int), AV.int IntKind.i64 (100000000 : Int)]
            (AV.int IntKind.i64 (sWithin t (0 : Int) (100000000 : Int))) ∧
          PCall Tryz.prog G0 (104 : Nat) [AV.agg [AV.int IntKind.i64 x, AV.int IntKind.i64 y, AV.int IntKind.i64 z]]
              (AV.int IntKind.i64 (sPlace x y z)) ∧
            PCall Tryz.prog G0 (98 : Nat) [AV.int IntKind.i64 p] (AV.int IntKind.i64 (sPower p)) ∧
              PCall Tryz.prog G0 (87 : Nat)
                  [AV.sl (1 : Nat)
                      [[AV.int IntKind.i64 (sWithin t (0 : Int) (100000000 : Int))], [AV.int IntKind.i64 (sPlace x y z)],
                        [AV.int IntKind.i64 (sPower p)]]]
                  (AV.int IntKind.i64
                    (sFirst
                      [hdI [AV.int IntKind.i64 (sWithin t (0 : Int) (100000000 : Int))],
                        hdI [AV.int IntKind.i64 (sPlace x y z)], hdI [AV.int IntKind.i64 (sPower p)]])) ∧
                AV.int IntKind.i64
                    (sFirst
                      [hdI [AV.int IntKind.i64 (sWithin t (0 : Int) (100000000 : Int))],
                        hdI [AV.int IntKind.i64 (sPlace x y z)], hdI [AV.int IntKind.i64 (sPower p)]]) =
                  AV.int IntKind.i64 (sFix t x y z p) := by
    exact ⟨c89 _ _ _, c104 _ _ _, c98 _, c87 [_, _, _] (by simp), rfl⟩
  exact c_of Tryz.f134 (mkB spA 134 [] noLa) (by kernel_rfl) (by kernel_rfl) (by kernel_rfl) (by kernel_rfl) key (by kernel_rfl)
end Go.Proofs.YtjhjmncjidbieaaGreatDoor
namespace Go.Proofs.YtjhjmncjidbieaaGreatDoor
open Go Go.Av Go.RowKit
structure Pt where
  x : Int
  y : Int
  deriving Inhabited
structure Fx where
  t : Int
  x : Int
  y : Int
  z : Int
  p : Int
  deriving Inhabited
structure St where
  a : Int
  h : Int
  p : Int
  deriving Inhabited
def encPt (r : Pt) : List AV := [.i r.x, .i r.y]
def encFx (r : Fx) : List AV := [.i r.t, .i r.x, .i r.y, .i r.z, .i r.p]
def encSt (r : St) : List AV := [.i r.a, .i r.h, .i r.p]
def rdL {α : Type} [Inhabited α] (k : Nat) (enc : α → List AV) (l : List α) (size : Nat) (agg : Bool) : List AV → Option AV
  | [.elt k' _ i j] => if k'.beq k then some (if agg then .agg (((enc (l.getD i default)).drop j).take size) else nth (enc (l.getD i default)) j) else none
  | _ => none
def rdOr : List (List AV → Option AV) → List AV → Option AV
  | [], _ => none
  | f :: fs, x => match f x with
    | some v => some v
    | none => rdOr fs x
theorem row_at {α : Type} [Inhabited α] (enc : α → List AV) {l : List α} {i : Nat} (h : i < l.length) : nthR (l.map enc) i = enc (l.getD i default) := by
  simp [nthR, List.getD_eq_getElem?_getD, h]
/-- The first that is not 0 of f 0 .. f (n - 1), fin. -/
def sScan (f : Nat → Int) (n : Nat) (fin : Int) : Int := sFirst ((List.range n).map f ++ [fin])
theorem scan_hit {f : Nat → Int} {n i : Nat} {fin : Int} (h : i < n) (h0 : ∀ k, k < i → f k = 0) (hne : f i ≠ 0) : sScan f n fin = f i := by
  have e : ∀ k, k < n → ((List.range n).map f ++ [fin]).getD k 0 = f k := fun k hk => by
    simp [List.getD_eq_getElem?_getD, List.getElem?_append, hk]
  rw [sScan, first_hit (i := i) (by simp; omega) (fun k hk => by rw [e k (by omega)]; exact h0 k hk) (by rw [e i h]; exact hne), e i h]
theorem scan_end {f : Nat → Int} {n : Nat} {fin : Int} (h0 : ∀ k, k < n → f k = 0) : sScan f n fin = fin := by
  have e : ∀ k, k < n → ((List.range n).map f ++ [fin]).getD k 0 = f k := fun k hk => by
    simp [List.getD_eq_getElem?_getD, List.getElem?_append, hk]
  rw [sScan, first_drop _ n (fun k hk => by rw [e k hk]; exact h0 k hk) (by simp), List.drop_left' (by simp)]
  simp [sFirst]
  intro h; exact h.symm
def spB : Nat → List AV → Option AV
  | 96, [.int _ n, .int _ d] => some (.i (0 - sFloor (0 - n) d))
  | n, l => spA n l
theorem c91 (n d : Int) (hd : d ≠ 0) (h1 : In64 (n.tdiv d)) (h2 : In64 (n.tdiv d * d)) (h3 : In64 (n.tdiv d - 1)) : PCall Tryz.prog G0 91 [.i n, .i d] (.i (sFloor n d)) := by
  have key :
      ¬d = (0 : Int) ∧
      In64 (n.tdiv d) ∧
      In64 (n.tdiv d * d) ∧
      (decide (n.tdiv d * d > n) = true →
      In64 (n.tdiv d - (1 : Int)) ∧ AV.int IntKind.i64 (n.tdiv d - (1 : Int)) = AV.int IntKind.i64 (sFloor n d)) ∧
      (decide (n.tdiv d * d > n) = false → AV.int IntKind.i64 (n.tdiv d) = AV.int IntKind.i64 (sFloor n d)) := by
    refine ⟨hd, h1, h2, fun h => ⟨h3, ?_⟩, fun h => ?_⟩
    · simp only [decide_eq_true_eq] at h
      rw [sFloor, if_pos h]
    · simp only [decide_eq_false_iff_not] at h
      rw [sFloor, if_neg h]
  exact c_of Tryz.f91 (mkB spA 91 [] noLa) (by kernel_rfl) (by kernel_rfl) (by kernel_rfl) (by kernel_rfl) key (by kernel_rfl)
theorem c143 (n d : Int) (hd : d ≠ 0) (h1 : In64 (n.tdiv d)) (h2 : In64 (n.tdiv d * d)) (h3 : In64 (n.tdiv d - 1)) : PCall Tryz.prog G0 143 [.i n, .i d] (.i (sFloor n d)) := by
  have key :
      ¬d = (0 : Int) ∧
      In64 (n.tdiv d) ∧
      In64 (n.tdiv d * d) ∧
      (decide (n.tdiv d * d > n) = true →
      In64 (n.tdiv d - (1 : Int)) ∧ AV.int IntKind.i64 (n.tdiv d - (1 : Int)) = AV.int IntKind.i64 (sFloor n d)) ∧
      (decide (n.tdiv d * d > n) = false → AV.int IntKind.i64 (n.tdiv d) = AV.int IntKind.i64 (sFloor n d)) := by
    refine ⟨hd, h1, h2, fun h => ⟨h3, ?_⟩, fun h => ?_⟩
    · simp only [decide_eq_true_eq] at h
      rw [sFloor, if_pos h]
    · simp only [decide_eq_false_iff_not] at h
      rw [sFloor, if_neg h]
  exact c_of Tryz.f143 (mkB spA 143 [] noLa) (by kernel_rfl) (by kernel_rfl) (by kernel_rfl) (by kernel_rfl) key (by kernel_rfl)
theorem floor_facts {n d : Int} (hd : 0 < d) : sFloor n d * d ≤ n ∧ n < sFloor n d * d + d := by
  have h1 := Int.mul_tdiv_add_tmod n d
  have h2 : n.tmod d < d := Int.tmod_lt_of_pos n hd
  have h3 : -d < n.tmod d := by
    have := Int.tmod_lt_of_pos (-n) hd
    rw [Int.neg_tmod] at this
    omega
  have e : n.tdiv d * d = d * n.tdiv d := Int.mul_comm _ _
  unfold sFloor
  split
  · rename_i h
    rw [Int.sub_mul]
    omega
  · rename_i h
    omega
theorem bne_t {a : Int} (h : (a != 0) = true) : a ≠ 0 := by simpa using h
theorem bne_f {a : Int} (h : (a != 0) = false) : a = 0 := by simpa using h
/-- c, if it is not 0; else a scan. -/
def sLS (c : Int) (f : Nat → Int) (n : Nat) (fin : Int) : Int := if c != 0 then c else sScan f n fin
theorem ls_first {c : Int} {f : Nat → Int} {n : Nat} {fin : Int} (h : (c != 0) = true) : sLS c f n fin = c := by rw [sLS, if_pos h]
theorem ls_hit {c : Int} {f : Nat → Int} {n i : Nat} {fin : Int} (h : (c != 0) = false) (hi : decide ((i : Int) < (n : Int)) = true) (h0 : ∀ k, k < i → f k = 0) (hne : (f i != 0) = true) : sLS c f n fin = f i := by
  rw [sLS, if_neg (by rw [h]; decide), scan_hit (by simpa using hi) h0 (bne_t hne)]
theorem ls_end {c : Int} {f : Nat → Int} {n i : Nat} {fin : Int} (h : (c != 0) = false) (hi : decide ((i : Int) < (n : Int)) = false) (hle : i ≤ n) (h0 : ∀ k, k < i → f k = 0) : sLS c f n fin = fin := by
  have : i = n := by simp at hi; omega
  subst this
  rw [sLS, if_neg (by rw [h]; decide), scan_end h0]
theorem all_succ {f : Nat → Int} {g : Nat} (h : ∀ k, k < g → f k = 0) (h2 : (f g != 0) = false) : ∀ k, k < g + 1 → f k = 0 := fun k hk => by
  by_cases e : k = g
  · rw [e]; exact bne_f h2
  · exact h k (by omega)
theorem ge_of_dec {i n : Nat} (hi : decide ((i : Int) < (n : Int)) = false) (hle : i ≤ n) : i = n := by simp at hi; omega
theorem lt_of_dec {i n : Nat} (hi : decide ((i : Int) < (n : Int)) = true) : i < n := by simpa using hi
theorem av_int {a b : Int} (h : a = b) : AV.int .i64 b = .int .i64 a := by rw [h]
theorem within_zero {x lo hi : Int} : sWithin x lo hi = 0 ↔ lo ≤ x ∧ x ≤ hi := by
  unfold sWithin sWhen
  by_cases h1 : x < lo
  · simp [h1]; omega
  · by_cases h2 : x > hi
    · simp [h1, h2] <;> omega
    · simp [h1, h2] <;> omega
theorem first_zero {x : Int} {l : List Int} : sFirst (x :: l) = 0 ↔ x = 0 ∧ sFirst l = 0 := by
  by_cases h : x = 0
  · simp [sFirst, h]
  · simp [sFirst, h]
theorem c96 (n d : Int) (hd : d ≠ 0) (h1 : In64 ((0 - n).tdiv d)) (h2 : In64 ((0 - n).tdiv d * d)) (h3 : In64 ((0 - n).tdiv d - 1)) (h4 : In64 (0 - n)) (h5 : In64 (0 - sFloor (0 - n) d)) : PCall Tryz.prog G0 96 [.i n, .i d] (.i (0 - sFloor (0 - n) d)) := by
  have key :
      In64 ((0 : Int) - n) ∧
      In64 ((0 : Int) - sFloor ((0 : Int) - n) d) ∧
      PCall Tryz.prog G0 (143 : Nat) [AV.int IntKind.i64 ((0 : Int) - n), AV.int IntKind.i64 d]
      (AV.int IntKind.i64 (sFloor ((0 : Int) - n) d)) ∧
      AV.int IntKind.i64 ((0 : Int) - sFloor ((0 : Int) - n) d) =
      AV.int IntKind.i64 ((0 : Int) - sFloor ((0 : Int) - n) d) := by
    exact ⟨h4, h5, c143 _ _ hd h1 h2 h3, rfl⟩
  exact c_of Tryz.f96 (mkB spA 96 [] noLa) (by kernel_rfl) (by kernel_rfl) (by kernel_rfl) (by kernel_rfl) key (by kernel_rfl)
def sLen (n : Nat) : Int := sFirst [sWhen (decide ((n : Int) < 2)) 16, sWhen (decide ((n : Int) > 16)) 5]
def sLen8 (n : Nat) : Int := sFirst [sWhen (decide ((n : Int) < 2)) 16, sWhen (decide ((n : Int) > 8)) 5]
/-- The place ahead. -/
def prv (i : Nat) : Nat := (maxI 0 ((i : Int) - 1)).toNat
def fPath (l : List Pt) (i : Nat) : Int := sFirst [sWithin (l.getD i default).x (-100000) 100000, sWithin (l.getD i default).y (-100000) 100000,
  sWhen (if decide ((i : Int) > 0) = true then (l.getD i default).x == (l.getD (prv i) default).x && true && ((l.getD i default).y == (l.getD (prv i) default).y && true && true) else false) 9]
def sPath (l : List Pt) : Int := sLS (sLen (l.map encPt).length) (fPath l) (l.map encPt).length 0
def la88 (l : List Pt) : LA := {
  pre := [.keep [0, 20, 21, 22] [], .bound 1], post := [.keep [0, 20, 21, 22] [], .bound 1]
  Gh := Nat
  st := fun i => ⟨[(0, .sl 2 (l.map encPt)), (20, .sl 2 (l.map encPt)), (21, .i (l.map encPt).length), (22, .i i)], [], 1⟩
  ok := fun i => i ≤ (l.map encPt).length ∧ ∀ k, k < i → fPath l k = 0
  ms := fun i => (l.map encPt).length - i }
theorem c88 (l : List Pt) (hl : (l.map encPt).length ≤ 1000000) : PCall Tryz.prog G0 88 [.sl 2 (l.map encPt)] (.i (sPath l)) := by
  have key :
      PCall Tryz.prog G0 (92 : Nat)
      [AV.bool (decide ((↑(List.map encPt l).length : Int) < (2 : Int))), AV.int IntKind.i64 (16 : Int)]
      (AV.int IntKind.i64 (sWhen (decide ((↑(List.map encPt l).length : Int) < (2 : Int))) (16 : Int))) ∧
      PCall Tryz.prog G0 (92 : Nat)
      [AV.bool (decide ((↑(List.map encPt l).length : Int) > (16 : Int))), AV.int IntKind.i64 (5 : Int)]
      (AV.int IntKind.i64 (sWhen (decide ((↑(List.map encPt l).length : Int) > (16 : Int))) (5 : Int))) ∧
      PCall Tryz.prog G0 (87 : Nat)
      [AV.sl (1 : Nat)
      [[AV.int IntKind.i64 (sWhen (decide ((↑(List.map encPt l).length : Int) < (2 : Int))) (16 : Int))],
      [AV.int IntKind.i64 (sWhen (decide ((↑(List.map encPt l).length : Int) > (16 : Int))) (5 : Int))]]]
      (AV.int IntKind.i64
      (sFirst
      [hdI [AV.int IntKind.i64 (sWhen (decide ((↑(List.map encPt l).length : Int) < (2 : Int))) (16 : Int))],
      hdI
      [AV.int IntKind.i64 (sWhen (decide ((↑(List.map encPt l).length : Int) > (16 : Int))) (5 : Int))]])) ∧
      ((sFirst
      [hdI
      [AV.int IntKind.i64 (sWhen (decide ((↑(List.map encPt l).length : Int) < (2 : Int))) (16 : Int))],
      hdI
      [AV.int IntKind.i64
      (sWhen (decide ((↑(List.map encPt l).length : Int) > (16 : Int))) (5 : Int))]] !=
      (0 : Int)) =
      true →
      AV.int IntKind.i64
      (sFirst
      [hdI
      [AV.int IntKind.i64 (sWhen (decide ((↑(List.map encPt l).length : Int) < (2 : Int))) (16 : Int))],
      hdI
      [AV.int IntKind.i64
      (sWhen (decide ((↑(List.map encPt l).length : Int) > (16 : Int))) (5 : Int))]]) =
      AV.int IntKind.i64 (sPath l)) ∧
      ((sFirst
      [hdI
      [AV.int IntKind.i64 (sWhen (decide ((↑(List.map encPt l).length : Int) < (2 : Int))) (16 : Int))],
      hdI
      [AV.int IntKind.i64
      (sWhen (decide ((↑(List.map encPt l).length : Int) > (16 : Int))) (5 : Int))]] !=
      (0 : Int)) =
      false →
      (∃ (g : Nat),
      (g ≤ (List.map encPt l).length ∧ ∀ (k : Nat), k < g → fPath l k = (0 : Int)) ∧
      AS.mk
      [((0 : Nat), AV.sl (2 : Nat) (List.map encPt l)),
      ((20 : Nat), AV.sl (2 : Nat) (List.map encPt l)),
      ((21 : Nat), AV.int IntKind.i64 (↑(List.map encPt l).length : Int)),
      ((22 : Nat), AV.int IntKind.i64 (0 : Int))]
      [] (1 : Nat) =
      AS.mk
      [((0 : Nat), AV.sl (2 : Nat) (List.map encPt l)),
      ((20 : Nat), AV.sl (2 : Nat) (List.map encPt l)),
      ((21 : Nat), AV.int IntKind.i64 (↑(List.map encPt l).length : Int)),
      ((22 : Nat), AV.int IntKind.i64 (↑g : Int))]
      [] (1 : Nat)) ∧
      ∀ (g : Nat),
      (g ≤ (List.map encPt l).length ∧ ∀ (k : Nat), k < g → fPath l k = (0 : Int)) →
      (decide ((↑g : Int) < (↑(List.map encPt l).length : Int)) = true →
      (0 : Int) ≤ (↑g : Int) ∧
      (↑g : Int) < (↑(List.map encPt l).length : Int) ∧
      AV.agg (nthR (List.map encPt l) (↑g : Int).toNat) =
      AV.agg
      [AV.int IntKind.i64 (l.getD (↑g : Int).toNat default).x,
      AV.int IntKind.i64 (l.getD (↑g : Int).toNat default).y] ∧
      (decide ((↑g : Int) > (0 : Int)) = true → decide ((↑g : Int) > (0 : Int)) = true) ∧
      (decide ((↑g : Int) > (0 : Int)) = true → In64 ((↑g : Int) - (1 : Int))) ∧
      (decide ((↑g : Int) > (0 : Int)) = true → decide ((↑g : Int) > (0 : Int)) = true) ∧
      (decide ((↑g : Int) > (0 : Int)) = true → decide ((↑g : Int) > (0 : Int)) = true) ∧
      (decide ((↑g : Int) > (0 : Int)) = true → decide ((↑g : Int) > (0 : Int)) = true) ∧
      (decide ((↑g : Int) > (0 : Int)) = true →
      (0 : Int) ≤ maxI (0 : Int) ((↑g : Int) - (1 : Int))) ∧
      (decide ((↑g : Int) > (0 : Int)) = true →
      maxI (0 : Int) ((↑g : Int) - (1 : Int)) <
      (↑(List.map encPt l).length : Int)) ∧
      (decide ((↑g : Int) > (0 : Int)) = true →
      decide ((↑g : Int) > (0 : Int)) = true) ∧
      (decide ((↑g : Int) > (0 : Int)) = true →
      decide ((↑g : Int) > (0 : Int)) = true) ∧
      (decide ((↑g : Int) > (0 : Int)) = true →
      decide ((↑g : Int) > (0 : Int)) = true) ∧
      (decide ((↑g : Int) > (0 : Int)) = true →
      decide ((↑g : Int) > (0 : Int)) = true) ∧
      PCall Tryz.prog G0 (89 : Nat)
      [AV.int IntKind.i64 (l.getD (↑g : Int).toNat default).x,
      AV.int IntKind.i64 (-100000 : Int),
      AV.int IntKind.i64 (100000 : Int)]
      (AV.int IntKind.i64
      (sWithin (l.getD (↑g : Int).toNat default).x (-100000 : Int)
      (100000 : Int))) ∧
      PCall Tryz.prog G0 (89 : Nat)
      [AV.int IntKind.i64 (l.getD (↑g : Int).toNat default).y,
      AV.int IntKind.i64 (-100000 : Int),
      AV.int IntKind.i64 (100000 : Int)]
      (AV.int IntKind.i64
      (sWithin (l.getD (↑g : Int).toNat default).y (-100000 : Int)
      (100000 : Int))) ∧
      impB (decide ((↑g : Int) > (0 : Int)))
      (AV.agg
      (nthR (List.map encPt l)
      (maxI (0 : Int) ((↑g : Int) - (1 : Int))).toNat) =
      AV.agg
      [AV.int IntKind.i64
      (l.getD
      (maxI (0 : Int) ((↑g : Int) - (1 : Int))).toNat
      default).x,
      AV.int IntKind.i64
      (l.getD
      (maxI (0 : Int) ((↑g : Int) - (1 : Int))).toNat
      default).y]) ∧
      PCall Tryz.prog G0 (92 : Nat)
      [AV.bool
      (if decide ((↑g : Int) > (0 : Int)) = true then
      (l.getD (↑g : Int).toNat default).x ==
      (l.getD
      (maxI (0 : Int)
      ((↑g : Int) - (1 : Int))).toNat
      default).x &&
      true &&
      ((l.getD (↑g : Int).toNat default).y ==
      (l.getD
      (maxI (0 : Int)
      ((↑g : Int) - (1 : Int))).toNat
      default).y &&
      true &&
      true)
      else false),
      AV.int IntKind.i64 (9 : Int)]
      (AV.int IntKind.i64
      (sWhen
      (if decide ((↑g : Int) > (0 : Int)) = true then
      (l.getD (↑g : Int).toNat default).x ==
      (l.getD
      (maxI (0 : Int)
      ((↑g : Int) - (1 : Int))).toNat
      default).x &&
      true &&
      ((l.getD (↑g : Int).toNat default).y ==
      (l.getD
      (maxI (0 : Int)
      ((↑g : Int) - (1 : Int))).toNat
      default).y &&
      true &&
      true)
      else false)
      (9 : Int))) ∧
      PCall Tryz.prog G0 (87 : Nat)
      [AV.sl (1 : Nat)
      [[AV.int IntKind.i64
      (sWithin (l.getD (↑g : Int).toNat default).x
      (-100000 : Int) (100000 : Int))],
      [AV.int IntKind.i64
      (sWithin (l.getD (↑g : Int).toNat default).y
      (-100000 : Int) (100000 : Int))],
      [AV.int IntKind.i64
      (sWhen
      (if
      decide ((↑g : Int) > (0 : Int)) =
      true then
      (l.getD (↑g : Int).toNat default).x ==
      (l.getD
      (maxI (0 : Int)
      ((↑g : Int) -
      (1 : Int))).toNat
      default).x &&
      true &&
      ((l.getD (↑g : Int).toNat default).y ==
      (l.getD
      (maxI (0 : Int)
      ((↑g : Int) -
      (1 : Int))).toNat
      default).y &&
      true &&
      true)
      else false)
      (9 : Int))]]]
      (AV.int IntKind.i64
      (sFirst
      [hdI
      [AV.int IntKind.i64
      (sWithin (l.getD (↑g : Int).toNat default).x
      (-100000 : Int) (100000 : Int))],
      hdI
      [AV.int IntKind.i64
      (sWithin (l.getD (↑g : Int).toNat default).y
      (-100000 : Int) (100000 : Int))],
      hdI
      [AV.int IntKind.i64
      (sWhen
      (if
      decide ((↑g : Int) > (0 : Int)) =
      true then
      (l.getD (↑g : Int).toNat default).x ==
      (l.getD
      (maxI (0 : Int)
      ((↑g : Int) -
      (1 : Int))).toNat
      default).x &&
      true &&
      ((l.getD (↑g : Int).toNat default).y ==
      (l.getD
      (maxI (0 : Int)
      ((↑g : Int) -
      (1 : Int))).toNat
      default).y &&
      true &&
      true)
      else false)
      (9 : Int))]])) ∧
      ((sFirst
      [hdI
      [AV.int IntKind.i64
      (sWithin
      (l.getD (↑g : Int).toNat default).x
      (-100000 : Int) (100000 : Int))],
      hdI
      [AV.int IntKind.i64
      (sWithin
      (l.getD (↑g : Int).toNat default).y
      (-100000 : Int) (100000 : Int))],
      hdI
      [AV.int IntKind.i64
      (sWhen
      (if
      decide ((↑g : Int) > (0 : Int)) =
      true then
      (l.getD (↑g : Int).toNat default).x ==
      (l.getD
      (maxI (0 : Int)
      ((↑g : Int) -
      (1 : Int))).toNat
      default).x &&
      true &&
      ((l.getD (↑g : Int).toNat
      default).y ==
      (l.getD
      (maxI (0 : Int)
      ((↑g : Int) -
      (1 : Int))).toNat
      default).y &&
      true &&
      true)
      else false)
      (9 : Int))]] !=
      (0 : Int)) =
      true →
      AV.int IntKind.i64
      (sFirst
      [hdI
      [AV.int IntKind.i64
      (sWithin
      (l.getD (↑g : Int).toNat default).x
      (-100000 : Int) (100000 : Int))],
      hdI
      [AV.int IntKind.i64
      (sWithin
      (l.getD (↑g : Int).toNat default).y
      (-100000 : Int) (100000 : Int))],
      hdI
      [AV.int IntKind.i64
      (sWhen
      (if
      decide ((↑g : Int) > (0 : Int)) =
      true then
      (l.getD (↑g : Int).toNat default).x ==
      (l.getD
      (maxI (0 : Int)
      ((↑g : Int) -
      (1 : Int))).toNat
      default).x &&
      true &&
      ((l.getD (↑g : Int).toNat
      default).y ==
      (l.getD
      (maxI (0 : Int)
      ((↑g : Int) -
      (1 : Int))).toNat
      default).y &&
      true &&
      true)
      else false)
      (9 : Int))]]) =
      AV.int IntKind.i64 (sPath l)) ∧
      ((sFirst
      [hdI
      [AV.int IntKind.i64
      (sWithin
      (l.getD (↑g : Int).toNat default).x
      (-100000 : Int) (100000 : Int))],
      hdI
      [AV.int IntKind.i64
      (sWithin
      (l.getD (↑g : Int).toNat default).y
      (-100000 : Int) (100000 : Int))],
      hdI
      [AV.int IntKind.i64
      (sWhen
      (if
      decide ((↑g : Int) > (0 : Int)) =
      true then
      (l.getD (↑g : Int).toNat default).x ==
      (l.getD
      (maxI (0 : Int)
      ((↑g : Int) -
      (1 : Int))).toNat
      default).x &&
      true &&
      ((l.getD (↑g : Int).toNat
      default).y ==
      (l.getD
      (maxI (0 : Int)
      ((↑g : Int) -
      (1 : Int))).toNat
      default).y &&
      true &&
      true)
      else false)
      (9 : Int))]] !=
      (0 : Int)) =
      false →
      In64 ((↑g : Int) + (1 : Int)) ∧
      ∃ (g' : Nat),
      (g' ≤ (List.map encPt l).length ∧
      ∀ (k : Nat), k < g' → fPath l k = (0 : Int)) ∧
      (List.map encPt l).length - g' <
      (List.map encPt l).length - g ∧
      AS.mk
      [((0 : Nat),
      AV.sl (2 : Nat) (List.map encPt l)),
      ((20 : Nat),
      AV.sl (2 : Nat) (List.map encPt l)),
      ((21 : Nat),
      AV.int IntKind.i64
      (↑(List.map encPt l).length : Int)),
      ((22 : Nat),
      AV.int IntKind.i64
      ((↑g : Int) + (1 : Int)))]
      [] (1 : Nat) =
      AS.mk
      [((0 : Nat),
      AV.sl (2 : Nat) (List.map encPt l)),
      ((20 : Nat),
      AV.sl (2 : Nat) (List.map encPt l)),
      ((21 : Nat),
      AV.int IntKind.i64
      (↑(List.map encPt l).length : Int)),
      ((22 : Nat),
      AV.int IntKind.i64 (↑g' : Int))]
      [] (1 : Nat))) ∧
      (decide ((↑g : Int) < (↑(List.map encPt l).length : Int)) = false →
      AV.int IntKind.i64 (0 : Int) = AV.int IntKind.i64 (sPath l))) := by
    repeat' (first | apply And.intro | intro _ | refine impB_iff.2 fun _ => ?_)
    all_goals try first
      | exact c92 _ _
      | exact c89 _ _ _
      | exact c87 [_, _] (by simp)
      | exact c87 [_, _, _] (by simp)
      | assumption
      | (simp only [decide_eq_true_eq, decide_eq_false_iff_not, List.length_map, maxI, minI, In64, Int.toNat_natCast, bne_iff_ne, ne_eq, beq_iff_eq, Bool.not_eq_true', Int.natCast_add, Int.cast_ofNat_Int] at *; omega)
      | (show (_ : Bool) = true; simp_all; done)
      | (rw [row_at _ (by simp only [decide_eq_true_eq, decide_eq_false_iff_not, List.length_map, maxI, minI, In64, Int.toNat_natCast, bne_iff_ne, ne_eq, beq_iff_eq, Bool.not_eq_true', Int.natCast_add, Int.cast_ofNat_Int] at *; omega)]; rfl)
    · rename_i h; exact av_int (ls_first h)
    · exact ⟨0, ⟨by omega, by intros; omega⟩, rfl⟩
    · rename_i h g hg hd hne; exact av_int (ls_hit (f := fPath l) h hd hg.2 hne)
    · rename_i h g hg hd hne; have := lt_of_dec hd; exact ⟨g + 1, ⟨this, all_succ (f := fPath l) hg.2 hne⟩, by omega, rfl⟩
    · rename_i h g hg hd; exact av_int (ls_end h hd hg.1 hg.2)
  exact c_of Tryz.f88 (mkB spA 88 [(6, 2, rdOr [rdL 2 encPt l 2 true]), (7, 1, rdOr [rdL 2 encPt l 1 false]), (7, 4, rdOr [rdL 2 encPt l 1 false]), (7, 9, rdOr [rdL 2 encPt l 2 true]), (7, 15, rdOr [rdL 2 encPt l 2 true])] (fun i => if i.beq 0 then some (la88 l) else none)) (by kernel_rfl) (by kernel_rfl) (by kernel_rfl) (by kernel_rfl) key (by kernel_rfl)
def la17 (l : List Pt) : LA := {
  pre := [.keep [0, 4] [], .bound 1], post := [.keep [0, 4] [], .bound 1]
  Gh := Nat
  st := fun i => ⟨[(0, .sl 2 (l.map encPt)), (4, .i i)], [], 1⟩
  ok := fun i => i ≤ (l.map encPt).length ∧ ∀ k, k < i → fPath l k = 0
  ms := fun i => (l.map encPt).length - i }
theorem c17 (l : List Pt) (hl : (l.map encPt).length ≤ 1000000) : PCall Tryz.prog G0 17 [.sl 2 (l.map encPt)] (.i (sPath l)) := by
  have key :
      PCall Tryz.prog G0 (94 : Nat)
      [AV.bool (decide ((↑(List.map encPt l).length : Int) < (2 : Int))), AV.int IntKind.i64 (16 : Int)]
      (AV.int IntKind.i64 (sWhen (decide ((↑(List.map encPt l).length : Int) < (2 : Int))) (16 : Int))) ∧
      PCall Tryz.prog G0 (94 : Nat)
      [AV.bool (decide ((↑(List.map encPt l).length : Int) > (16 : Int))), AV.int IntKind.i64 (5 : Int)]
      (AV.int IntKind.i64 (sWhen (decide ((↑(List.map encPt l).length : Int) > (16 : Int))) (5 : Int))) ∧
      PCall Tryz.prog G0 (93 : Nat)
      [AV.sl (1 : Nat)
      [[AV.int IntKind.i64 (sWhen (decide ((↑(List.map encPt l).length : Int) < (2 : Int))) (16 : Int))],
      [AV.int IntKind.i64 (sWhen (decide ((↑(List.map encPt l).length : Int) > (16 : Int))) (5 : Int))]]]
      (AV.int IntKind.i64
      (sFirst
      [hdI [AV.int IntKind.i64 (sWhen (decide ((↑(List.map encPt l).length : Int) < (2 : Int))) (16 : Int))],
      hdI
      [AV.int IntKind.i64 (sWhen (decide ((↑(List.map encPt l).length : Int) > (16 : Int))) (5 : Int))]])) ∧
      ((sFirst
      [hdI
      [AV.int IntKind.i64 (sWhen (decide ((↑(List.map encPt l).length : Int) < (2 : Int))) (16 : Int))],
      hdI
      [AV.int IntKind.i64
      (sWhen (decide ((↑(List.map encPt l).length : Int) > (16 : Int))) (5 : Int))]] !=
      (0 : Int)) =
      true →
      AV.int IntKind.i64
      (sFirst
      [hdI
      [AV.int IntKind.i64 (sWhen (decide ((↑(List.map encPt l).length : Int) < (2 : Int))) (16 : Int))],
      hdI
      [AV.int IntKind.i64
      (sWhen (decide ((↑(List.map encPt l).length : Int) > (16 : Int))) (5 : Int))]]) =
      AV.int IntKind.i64 (sPath l)) ∧
      ((sFirst
      [hdI
      [AV.int IntKind.i64 (sWhen (decide ((↑(List.map encPt l).length : Int) < (2 : Int))) (16 : Int))],
      hdI
      [AV.int IntKind.i64
      (sWhen (decide ((↑(List.map encPt l).length : Int) > (16 : Int))) (5 : Int))]] !=
      (0 : Int)) =
      false →
      (∃ (g : Nat),
      (g ≤ (List.map encPt l).length ∧ ∀ (k : Nat), k < g → fPath l k = (0 : Int)) ∧
      AS.mk [((0 : Nat), AV.sl (2 : Nat) (List.map encPt l)), ((4 : Nat), AV.int IntKind.i64 (0 : Int))] []
      (1 : Nat) =
      AS.mk [((0 : Nat), AV.sl (2 : Nat) (List.map encPt l)), ((4 : Nat), AV.int IntKind.i64 (↑g : Int))]
      [] (1 : Nat)) ∧
      ∀ (g : Nat),
      (g ≤ (List.map encPt l).length ∧ ∀ (k : Nat), k < g → fPath l k = (0 : Int)) →
      (decide ((↑g : Int) < (↑(List.map encPt l).length : Int)) = true →
      (0 : Int) ≤ (↑g : Int) ∧
      (↑g : Int) < (↑(List.map encPt l).length : Int) ∧
      (0 : Int) ≤ (↑g : Int) ∧
      (↑g : Int) < (↑(List.map encPt l).length : Int) ∧
      (decide ((↑g : Int) > (0 : Int)) = true → decide ((↑g : Int) > (0 : Int)) = true) ∧
      (decide ((↑g : Int) > (0 : Int)) = true → decide ((↑g : Int) > (0 : Int)) = true) ∧
      (decide ((↑g : Int) > (0 : Int)) = true → (0 : Int) ≤ (↑g : Int)) ∧
      (decide ((↑g : Int) > (0 : Int)) = true →
      (↑g : Int) < (↑(List.map encPt l).length : Int)) ∧
      (decide ((↑g : Int) > (0 : Int)) = true →
      decide ((↑g : Int) > (0 : Int)) = true) ∧
      (decide ((↑g : Int) > (0 : Int)) = true →
      decide ((↑g : Int) > (0 : Int)) = true) ∧
      (decide ((↑g : Int) > (0 : Int)) = true → In64 ((↑g : Int) - (1 : Int))) ∧
      (decide ((↑g : Int) > (0 : Int)) = true →
      decide ((↑g : Int) > (0 : Int)) = true) ∧
      (decide ((↑g : Int) > (0 : Int)) = true →
      decide ((↑g : Int) > (0 : Int)) = true) ∧
      (decide ((↑g : Int) > (0 : Int)) = true →
      decide ((↑g : Int) > (0 : Int)) = true) ∧
      (decide ((↑g : Int) > (0 : Int)) = true →
      (0 : Int) ≤ maxI (0 : Int) ((↑g : Int) - (1 : Int))) ∧
      (decide ((↑g : Int) > (0 : Int)) = true →
      maxI (0 : Int) ((↑g : Int) - (1 : Int)) <
      (↑(List.map encPt l).length : Int)) ∧
      (decide ((↑g : Int) > (0 : Int)) = true →
      decide ((↑g : Int) > (0 : Int)) = true) ∧
      (decide ((↑g : Int) > (0 : Int)) = true →
      decide ((↑g : Int) > (0 : Int)) = true) ∧
      (decide ((↑g : Int) > (0 : Int)) = true →
      decide ((↑g : Int) > (0 : Int)) = true) ∧
      (decide ((↑g : Int) > (0 : Int)) = true →
      decide ((↑g : Int) > (0 : Int)) = true) ∧
      nth (nthR (List.map encPt l) (↑g : Int).toNat) (0 : Nat) =
      AV.int IntKind.i64
      (l.getD (↑g : Int).toNat default).x ∧
      PCall Tryz.prog G0 (95 : Nat)
      [AV.int IntKind.i64
      (l.getD (↑g : Int).toNat default).x,
      AV.int IntKind.i64 (-100000 : Int),
      AV.int IntKind.i64 (100000 : Int)]
      (AV.int IntKind.i64
      (sWithin (l.getD (↑g : Int).toNat default).x
      (-100000 : Int) (100000 : Int))) ∧
      nth (nthR (List.map encPt l) (↑g : Int).toNat)
      (1 : Nat) =
      AV.int IntKind.i64
      (l.getD (↑g : Int).toNat default).y ∧
      PCall Tryz.prog G0 (95 : Nat)
      [AV.int IntKind.i64
      (l.getD (↑g : Int).toNat default).y,
      AV.int IntKind.i64 (-100000 : Int),
      AV.int IntKind.i64 (100000 : Int)]
      (AV.int IntKind.i64
      (sWithin (l.getD (↑g : Int).toNat default).y
      (-100000 : Int) (100000 : Int))) ∧
      impB (decide ((↑g : Int) > (0 : Int)))
      (AV.agg
      (nthR (List.map encPt l)
      (↑g : Int).toNat) =
      AV.agg
      [AV.int IntKind.i64
      (l.getD (↑g : Int).toNat default).x,
      AV.int IntKind.i64
      (l.getD (↑g : Int).toNat
      default).y]) ∧
      impB (decide ((↑g : Int) > (0 : Int)))
      (AV.agg
      (nthR (List.map encPt l)
      (maxI (0 : Int)
      ((↑g : Int) - (1 : Int))).toNat) =
      AV.agg
      [AV.int IntKind.i64
      (l.getD
      (maxI (0 : Int)
      ((↑g : Int) -
      (1 : Int))).toNat
      default).x,
      AV.int IntKind.i64
      (l.getD
      (maxI (0 : Int)
      ((↑g : Int) -
      (1 : Int))).toNat
      default).y]) ∧
      PCall Tryz.prog G0 (94 : Nat)
      [AV.bool
      (if
      decide ((↑g : Int) > (0 : Int)) =
      true then
      (l.getD (↑g : Int).toNat
      default).x ==
      (l.getD
      (maxI (0 : Int)
      ((↑g : Int) -
      (1 : Int))).toNat
      default).x &&
      true &&
      ((l.getD (↑g : Int).toNat
      default).y ==
      (l.getD
      (maxI (0 : Int)
      ((↑g : Int) -
      (1 : Int))).toNat
      default).y &&
      true &&
      true)
      else false),
      AV.int IntKind.i64 (9 : Int)]
      (AV.int IntKind.i64
      (sWhen
      (if
      decide ((↑g : Int) > (0 : Int)) =
      true then
      (l.getD (↑g : Int).toNat
      default).x ==
      (l.getD
      (maxI (0 : Int)
      ((↑g : Int) -
      (1 : Int))).toNat
      default).x &&
      true &&
      ((l.getD (↑g : Int).toNat
      default).y ==
      (l.getD
      (maxI (0 : Int)
      ((↑g : Int) -
      (1 : Int))).toNat
      default).y &&
      true &&
      true)
      else false)
      (9 : Int))) ∧
      PCall Tryz.prog G0 (93 : Nat)
      [AV.sl (1 : Nat)
      [[AV.int IntKind.i64
      (sWithin
      (l.getD (↑g : Int).toNat
      default).x
      (-100000 : Int)
      (100000 : Int))],
      [AV.int IntKind.i64
      (sWithin
      (l.getD (↑g : Int).toNat
      default).y
      (-100000 : Int)
      (100000 : Int))],
      [AV.int IntKind.i64
      (sWhen
      (if
      decide
      ((↑g : Int) >
      (0 : Int)) =
      true then
      (l.getD (↑g : Int).toNat
      default).x ==
      (l.getD
      (maxI (0 : Int)
      ((↑g :
      Int) -
      (1 :
      Int))).toNat
      default).x &&
      true &&
      ((l.getD
      (↑g :
      Int).toNat
      default).y ==
      (l.getD
      (maxI
      (0 : Int)
      ((↑g :
      Int) -
      (1 :
      Int))).toNat
      default).y &&
      true &&
      true)
      else false)
      (9 : Int))]]]
      (AV.int IntKind.i64
      (sFirst
      [hdI
      [AV.int IntKind.i64
      (sWithin
      (l.getD (↑g : Int).toNat
      default).x
      (-100000 : Int)
      (100000 : Int))],
      hdI
      [AV.int IntKind.i64
      (sWithin
      (l.getD (↑g : Int).toNat
      default).y
      (-100000 : Int)
      (100000 : Int))],
      hdI
      [AV.int IntKind.i64
      (sWhen
      (if
      decide
      ((↑g : Int) >
      (0 : Int)) =
      true then
      (l.getD (↑g : Int).toNat
      default).x ==
      (l.getD
      (maxI
      (0 : Int)
      ((↑g :
      Int) -
      (1 :
      Int))).toNat
      default).x &&
      true &&
      ((l.getD
      (↑g :
      Int).toNat
      default).y ==
      (l.getD
      (maxI
      (0 :
      Int)
      ((↑g :
      Int) -
      (1 :
      Int))).toNat
      default).y &&
      true &&
      true)
      else false)
      (9 : Int))]])) ∧
      ((sFirst
      [hdI
      [AV.int IntKind.i64
      (sWithin
      (l.getD
      (↑g : Int).toNat
      default).x
      (-100000 : Int)
      (100000 : Int))],
      hdI
      [AV.int IntKind.i64
      (sWithin
      (l.getD
      (↑g : Int).toNat
      default).y
      (-100000 : Int)
      (100000 : Int))],
      hdI
      [AV.int IntKind.i64
      (sWhen
      (if
      decide
      ((↑g : Int) >
      (0 : Int)) =
      true then
      (l.getD
      (↑g :
      Int).toNat
      default).x ==
      (l.getD
      (maxI
      (0 :
      Int)
      ((↑g :
      Int) -
      (1 :
      Int))).toNat
      default).x &&
      true &&
      ((l.getD
      (↑g :
      Int).toNat
      default).y ==
      (l.getD
      (maxI
      (0 :
      Int)
      ((↑g :
      Int) -
      (1 :
      Int))).toNat
      default).y &&
      true &&
      true)
      else false)
      (9 : Int))]] !=
      (0 : Int)) =
      true →
      AV.int IntKind.i64
      (sFirst
      [hdI
      [AV.int IntKind.i64
      (sWithin
      (l.getD
      (↑g : Int).toNat
      default).x
      (-100000 : Int)
      (100000 : Int))],
      hdI
      [AV.int IntKind.i64
      (sWithin
      (l.getD
      (↑g : Int).toNat
      default).y
      (-100000 : Int)
      (100000 : Int))],
      hdI
      [AV.int IntKind.i64
      (sWhen
      (if
      decide
      ((↑g : Int) >
      (0 : Int)) =
      true then
      (l.getD
      (↑g :
      Int).toNat
      default).x ==
      (l.getD
      (maxI
      (0 :
      Int)
      ((↑g :
      Int) -
      (1 :
      Int))).toNat
      default).x &&
      true &&
      ((l.getD
      (↑g :
      Int).toNat
      default).y ==
      (l.getD
      (maxI
      (0 :
      Int)
      ((↑g :
      Int) -
      (1 :
      Int))).toNat
      default).y &&
      true &&
      true)
      else false)
      (9 : Int))]]) =
      AV.int IntKind.i64 (sPath l)) ∧
      ((sFirst
      [hdI
      [AV.int IntKind.i64
      (sWithin
      (l.getD
      (↑g : Int).toNat
      default).x
      (-100000 : Int)
      (100000 : Int))],
      hdI
      [AV.int IntKind.i64
      (sWithin
      (l.getD
      (↑g : Int).toNat
      default).y
      (-100000 : Int)
      (100000 : Int))],
      hdI
      [AV.int IntKind.i64
      (sWhen
      (if
      decide
      ((↑g : Int) >
      (0 : Int)) =
      true then
      (l.getD
      (↑g :
      Int).toNat
      default).x ==
      (l.getD
      (maxI
      (0 :
      Int)
      ((↑g :
      Int) -
      (1 :
      Int))).toNat
      default).x &&
      true &&
      ((l.getD
      (↑g :
      Int).toNat
      default).y ==
      (l.getD
      (maxI
      (0 :
      Int)
      ((↑g :
      Int) -
      (1 :
      Int))).toNat
      default).y &&
      true &&
      true)
      else false)
      (9 : Int))]] !=
      (0 : Int)) =
      false →
      In64 ((↑g : Int) + (1 : Int)) ∧
      ∃ (g' : Nat),
      (g' ≤ (List.map encPt l).length ∧
      ∀ (k : Nat),
      k < g' →
      fPath l k = (0 : Int)) ∧
      (List.map encPt l).length - g' <
      (List.map encPt l).length -
      g ∧
      AS.mk
      [((0 : Nat),
      AV.sl (2 : Nat)
      (List.map encPt l)),
      ((4 : Nat),
      AV.int IntKind.i64
      ((↑g : Int) +
      (1 : Int)))]
      [] (1 : Nat) =
      AS.mk
      [((0 : Nat),
      AV.sl (2 : Nat)
      (List.map encPt l)),
      ((4 : Nat),
      AV.int IntKind.i64
      (↑g' : Int))]
      [] (1 : Nat))) ∧
      (decide ((↑g : Int) < (↑(List.map encPt l).length : Int)) = false →
      AV.int IntKind.i64 (0 : Int) = AV.int IntKind.i64 (sPath l))) := by
    repeat' (first | apply And.intro | intro _ | refine impB_iff.2 fun _ => ?_)
    all_goals try first
      | exact c94 _ _
      | exact c95 _ _ _
      | exact c93 [_, _] (by simp)
      | exact c93 [_, _, _] (by simp)
      | assumption
      | (simp only [decide_eq_true_eq, decide_eq_false_iff_not, List.length_map, maxI, minI, In64, Int.toNat_natCast, bne_iff_ne, ne_eq, beq_iff_eq, Bool.not_eq_true', Int.natCast_add, Int.cast_ofNat_Int] at *; omega)
      | (show (_ : Bool) = true; simp_all; done)
      | (rw [row_at _ (by simp only [decide_eq_true_eq, decide_eq_false_iff_not, List.length_map, maxI, minI, In64, Int.toNat_natCast, bne_iff_ne, ne_eq, beq_iff_eq, Bool.not_eq_true', Int.natCast_add, Int.cast_ofNat_Int] at *; omega)]; rfl)
    · rename_i h; exact av_int (ls_first h)
    · exact ⟨0, ⟨by omega, by intros; omega⟩, rfl⟩
    · rename_i h g hg hd hne; exact av_int (ls_hit (f := fPath l) h hd hg.2 hne)
    · rename_i h g hg hd hne; have := lt_of_dec hd; exact ⟨g + 1, ⟨this, all_succ (f := fPath l) hg.2 hne⟩, by omega, rfl⟩
    · rename_i h g hg hd; exact av_int (ls_end h hd hg.1 hg.2)
  exact c_of Tryz.f17 (mkB spA 17 [(7, 4, rdOr [rdL 2 encPt l 1 false]), (7, 10, rdOr [rdL 2 encPt l 1 false]), (7, 18, rdOr [rdL 2 encPt l 2 true]), (7, 24, rdOr [rdL 2 encPt l 2 true])] (fun i => if i.beq 0 then some (la17 l) else none)) (by kernel_rfl) (by kernel_rfl) (by kernel_rfl) (by kernel_rfl) key (by kernel_rfl)
/-- The length ahead; -1 at the start. -/
def lastA (l : List St) (i : Nat) : Int := if i.beq 0 then -1 else (l.getD (i - 1) default).a
def fProcS (l : List St) (i : Nat) : Int := sFirst [sWithin (l.getD i default).a 0 400000, sWithin (l.getD i default).h 0 20000, sPower (l.getD i default).p,
  sWhen (if decide ((l.getD i default).a ≤ lastA l i) = true then true else if ((i : Int) == 0) = true then (l.getD i default).a != 0 else false) 11]
def sProcS (l : List St) : Int := sLS (sLen8 (l.map encSt).length) (fProcS l) (l.map encSt).length 0
def la22 (l : List St) : LA := {
  pre := [.keep [0, 4, 21, 22, 23] [], .bound 1], post := [.keep [0, 4, 21, 22, 23] [], .bound 1]
  Gh := Nat
  st := fun i => ⟨[(0, .sl 3 (l.map encSt)), (4, .i (lastA l i)), (21, .sl 3 (l.map encSt)), (22, .i (l.map encSt).length), (23, .i i)], [], 1⟩
  ok := fun i => i ≤ (l.map encSt).length ∧ ∀ k, k < i → fProcS l k = 0
  ms := fun i => (l.map encSt).length - i }
theorem c22 (l : List St) (hl : (l.map encSt).length ≤ 1000000) : PCall Tryz.prog G0 22 [.sl 3 (l.map encSt)] (.i (sProcS l)) := by
  have key :
      PCall Tryz.prog G0 (92 : Nat)
      [AV.bool (decide ((↑(List.map encSt l).length : Int) < (2 : Int))), AV.int IntKind.i64 (16 : Int)]
      (AV.int IntKind.i64 (sWhen (decide ((↑(List.map encSt l).length : Int) < (2 : Int))) (16 : Int))) ∧
      PCall Tryz.prog G0 (92 : Nat)
      [AV.bool (decide ((↑(List.map encSt l).length : Int) > (8 : Int))), AV.int IntKind.i64 (5 : Int)]
      (AV.int IntKind.i64 (sWhen (decide ((↑(List.map encSt l).length : Int) > (8 : Int))) (5 : Int))) ∧
      PCall Tryz.prog G0 (87 : Nat)
      [AV.sl (1 : Nat)
      [[AV.int IntKind.i64 (sWhen (decide ((↑(List.map encSt l).length : Int) < (2 : Int))) (16 : Int))],
      [AV.int IntKind.i64 (sWhen (decide ((↑(List.map encSt l).length : Int) > (8 : Int))) (5 : Int))]]]
      (AV.int IntKind.i64
      (sFirst
      [hdI [AV.int IntKind.i64 (sWhen (decide ((↑(List.map encSt l).length : Int) < (2 : Int))) (16 : Int))],
      hdI
      [AV.int IntKind.i64 (sWhen (decide ((↑(List.map encSt l).length : Int) > (8 : Int))) (5 : Int))]])) ∧
      ((sFirst
      [hdI
      [AV.int IntKind.i64 (sWhen (decide ((↑(List.map encSt l).length : Int) < (2 : Int))) (16 : Int))],
      hdI
      [AV.int IntKind.i64
      (sWhen (decide ((↑(List.map encSt l).length : Int) > (8 : Int))) (5 : Int))]] !=
      (0 : Int)) =
      true →
      AV.int IntKind.i64
      (sFirst
      [hdI
      [AV.int IntKind.i64 (sWhen (decide ((↑(List.map encSt l).length : Int) < (2 : Int))) (16 : Int))],
      hdI
      [AV.int IntKind.i64
      (sWhen (decide ((↑(List.map encSt l).length : Int) > (8 : Int))) (5 : Int))]]) =
      AV.int IntKind.i64 (sProcS l)) ∧
      ((sFirst
      [hdI
      [AV.int IntKind.i64 (sWhen (decide ((↑(List.map encSt l).length : Int) < (2 : Int))) (16 : Int))],
      hdI
      [AV.int IntKind.i64
      (sWhen (decide ((↑(List.map encSt l).length : Int) > (8 : Int))) (5 : Int))]] !=
      (0 : Int)) =
      false →
      (∃ (g : Nat),
      (g ≤ (List.map encSt l).length ∧ ∀ (k : Nat), k < g → fProcS l k = (0 : Int)) ∧
      AS.mk
      [((0 : Nat), AV.sl (3 : Nat) (List.map encSt l)), ((4 : Nat), AV.int IntKind.i64 (-1 : Int)),
      ((21 : Nat), AV.sl (3 : Nat) (List.map encSt l)),
      ((22 : Nat), AV.int IntKind.i64 (↑(List.map encSt l).length : Int)),
      ((23 : Nat), AV.int IntKind.i64 (0 : Int))]
      [] (1 : Nat) =
      AS.mk
      [((0 : Nat), AV.sl (3 : Nat) (List.map encSt l)), ((4 : Nat), AV.int IntKind.i64 (lastA l g)),
      ((21 : Nat), AV.sl (3 : Nat) (List.map encSt l)),
      ((22 : Nat), AV.int IntKind.i64 (↑(List.map encSt l).length : Int)),
      ((23 : Nat), AV.int IntKind.i64 (↑g : Int))]
      [] (1 : Nat)) ∧
      ∀ (g : Nat),
      (g ≤ (List.map encSt l).length ∧ ∀ (k : Nat), k < g → fProcS l k = (0 : Int)) →
      (decide ((↑g : Int) < (↑(List.map encSt l).length : Int)) = true →
      (0 : Int) ≤ (↑g : Int) ∧
      (↑g : Int) < (↑(List.map encSt l).length : Int) ∧
      AV.agg (nthR (List.map encSt l) (↑g : Int).toNat) =
      AV.agg
      [AV.int IntKind.i64 (l.getD (↑g : Int).toNat default).a,
      AV.int IntKind.i64 (l.getD (↑g : Int).toNat default).h,
      AV.int IntKind.i64 (l.getD (↑g : Int).toNat default).p] ∧
      ((!decide ((l.getD (↑g : Int).toNat default).a ≤ lastA l g)) = true →
      (!decide ((l.getD (↑g : Int).toNat default).a ≤ lastA l g)) = true) ∧
      ((!decide ((l.getD (↑g : Int).toNat default).a ≤ lastA l g)) = true →
      (!decide ((l.getD (↑g : Int).toNat default).a ≤ lastA l g)) = true) ∧
      ((!decide ((l.getD (↑g : Int).toNat default).a ≤ lastA l g) &&
      (↑g : Int) == (0 : Int)) =
      true →
      (!decide ((l.getD (↑g : Int).toNat default).a ≤ lastA l g) &&
      (↑g : Int) == (0 : Int)) =
      true) ∧
      ((!decide ((l.getD (↑g : Int).toNat default).a ≤ lastA l g) &&
      (↑g : Int) == (0 : Int)) =
      true →
      (!decide ((l.getD (↑g : Int).toNat default).a ≤ lastA l g) &&
      (↑g : Int) == (0 : Int)) =
      true) ∧
      ((!decide ((l.getD (↑g : Int).toNat default).a ≤ lastA l g)) = true →
      (!decide ((l.getD (↑g : Int).toNat default).a ≤ lastA l g)) = true) ∧
      ((!decide ((l.getD (↑g : Int).toNat default).a ≤ lastA l g)) = true →
      ((↑g : Int) == (0 : Int)) = true →
      (!decide ((l.getD (↑g : Int).toNat default).a ≤ lastA l g) &&
      (↑g : Int) == (0 : Int)) =
      true) ∧
      (decide ((l.getD (↑g : Int).toNat default).a ≤ lastA l g) = false →
      (!decide ((l.getD (↑g : Int).toNat default).a ≤ lastA l g)) = true) ∧
      PCall Tryz.prog G0 (89 : Nat)
      [AV.int IntKind.i64 (l.getD (↑g : Int).toNat default).a,
      AV.int IntKind.i64 (0 : Int), AV.int IntKind.i64 (400000 : Int)]
      (AV.int IntKind.i64
      (sWithin (l.getD (↑g : Int).toNat default).a (0 : Int)
      (400000 : Int))) ∧
      PCall Tryz.prog G0 (89 : Nat)
      [AV.int IntKind.i64 (l.getD (↑g : Int).toNat default).h,
      AV.int IntKind.i64 (0 : Int), AV.int IntKind.i64 (20000 : Int)]
      (AV.int IntKind.i64
      (sWithin (l.getD (↑g : Int).toNat default).h (0 : Int)
      (20000 : Int))) ∧
      PCall Tryz.prog G0 (98 : Nat)
      [AV.int IntKind.i64 (l.getD (↑g : Int).toNat default).p]
      (AV.int IntKind.i64 (sPower (l.getD (↑g : Int).toNat default).p)) ∧
      PCall Tryz.prog G0 (92 : Nat)
      [AV.bool
      (if
      decide ((l.getD (↑g : Int).toNat default).a ≤ lastA l g) =
      true then
      true
      else
      if ((↑g : Int) == (0 : Int)) = true then
      (l.getD (↑g : Int).toNat default).a != (0 : Int)
      else false),
      AV.int IntKind.i64 (11 : Int)]
      (AV.int IntKind.i64
      (sWhen
      (if
      decide ((l.getD (↑g : Int).toNat default).a ≤ lastA l g) =
      true then
      true
      else
      if ((↑g : Int) == (0 : Int)) = true then
      (l.getD (↑g : Int).toNat default).a != (0 : Int)
      else false)
      (11 : Int))) ∧
      PCall Tryz.prog G0 (87 : Nat)
      [AV.sl (1 : Nat)
      [[AV.int IntKind.i64
      (sWithin (l.getD (↑g : Int).toNat default).a (0 : Int)
      (400000 : Int))],
      [AV.int IntKind.i64
      (sWithin (l.getD (↑g : Int).toNat default).h (0 : Int)
      (20000 : Int))],
      [AV.int IntKind.i64
      (sPower (l.getD (↑g : Int).toNat default).p)],
      [AV.int IntKind.i64
      (sWhen
      (if
      decide
      ((l.getD (↑g : Int).toNat default).a ≤
      lastA l g) =
      true then
      true
      else
      if ((↑g : Int) == (0 : Int)) = true then
      (l.getD (↑g : Int).toNat default).a != (0 : Int)
      else false)
      (11 : Int))]]]
      (AV.int IntKind.i64
      (sFirst
      [hdI
      [AV.int IntKind.i64
      (sWithin (l.getD (↑g : Int).toNat default).a (0 : Int)
      (400000 : Int))],
      hdI
      [AV.int IntKind.i64
      (sWithin (l.getD (↑g : Int).toNat default).h (0 : Int)
      (20000 : Int))],
      hdI
      [AV.int IntKind.i64
      (sPower (l.getD (↑g : Int).toNat default).p)],
      hdI
      [AV.int IntKind.i64
      (sWhen
      (if
      decide
      ((l.getD (↑g : Int).toNat default).a ≤
      lastA l g) =
      true then
      true
      else
      if ((↑g : Int) == (0 : Int)) = true then
      (l.getD (↑g : Int).toNat default).a != (0 : Int)
      else false)
      (11 : Int))]])) ∧
      ((sFirst
      [hdI
      [AV.int IntKind.i64
      (sWithin (l.getD (↑g : Int).toNat default).a
      (0 : Int) (400000 : Int))],
      hdI
      [AV.int IntKind.i64
      (sWithin (l.getD (↑g : Int).toNat default).h
      (0 : Int) (20000 : Int))],
      hdI
      [AV.int IntKind.i64
      (sPower (l.getD (↑g : Int).toNat default).p)],
      hdI
      [AV.int IntKind.i64
      (sWhen
      (if
      decide
      ((l.getD (↑g : Int).toNat default).a ≤
      lastA l g) =
      true then
      true
      else
      if ((↑g : Int) == (0 : Int)) = true then
      (l.getD (↑g : Int).toNat default).a !=
      (0 : Int)
      else false)
      (11 : Int))]] !=
      (0 : Int)) =
      true →
      AV.int IntKind.i64
      (sFirst
      [hdI
      [AV.int IntKind.i64
      (sWithin (l.getD (↑g : Int).toNat default).a
      (0 : Int) (400000 : Int))],
      hdI
      [AV.int IntKind.i64
      (sWithin (l.getD (↑g : Int).toNat default).h
      (0 : Int) (20000 : Int))],
      hdI
      [AV.int IntKind.i64
      (sPower (l.getD (↑g : Int).toNat default).p)],
      hdI
      [AV.int IntKind.i64
      (sWhen
      (if
      decide
      ((l.getD (↑g : Int).toNat default).a ≤
      lastA l g) =
      true then
      true
      else
      if ((↑g : Int) == (0 : Int)) = true then
      (l.getD (↑g : Int).toNat default).a !=
      (0 : Int)
      else false)
      (11 : Int))]]) =
      AV.int IntKind.i64 (sProcS l)) ∧
      ((sFirst
      [hdI
      [AV.int IntKind.i64
      (sWithin (l.getD (↑g : Int).toNat default).a
      (0 : Int) (400000 : Int))],
      hdI
      [AV.int IntKind.i64
      (sWithin (l.getD (↑g : Int).toNat default).h
      (0 : Int) (20000 : Int))],
      hdI
      [AV.int IntKind.i64
      (sPower (l.getD (↑g : Int).toNat default).p)],
      hdI
      [AV.int IntKind.i64
      (sWhen
      (if
      decide
      ((l.getD (↑g : Int).toNat default).a ≤
      lastA l g) =
      true then
      true
      else
      if ((↑g : Int) == (0 : Int)) = true then
      (l.getD (↑g : Int).toNat default).a !=
      (0 : Int)
      else false)
      (11 : Int))]] !=
      (0 : Int)) =
      false →
      In64 ((↑g : Int) + (1 : Int)) ∧
      ∃ (g' : Nat),
      (g' ≤ (List.map encSt l).length ∧
      ∀ (k : Nat), k < g' → fProcS l k = (0 : Int)) ∧
      (List.map encSt l).length - g' <
      (List.map encSt l).length - g ∧
      AS.mk
      [((0 : Nat), AV.sl (3 : Nat) (List.map encSt l)),
      ((4 : Nat),
      AV.int IntKind.i64
      (l.getD (↑g : Int).toNat default).a),
      ((21 : Nat), AV.sl (3 : Nat) (List.map encSt l)),
      ((22 : Nat),
      AV.int IntKind.i64
      (↑(List.map encSt l).length : Int)),
      ((23 : Nat),
      AV.int IntKind.i64 ((↑g : Int) + (1 : Int)))]
      [] (1 : Nat) =
      AS.mk
      [((0 : Nat), AV.sl (3 : Nat) (List.map encSt l)),
      ((4 : Nat), AV.int IntKind.i64 (lastA l g')),
      ((21 : Nat), AV.sl (3 : Nat) (List.map encSt l)),
      ((22 : Nat),
      AV.int IntKind.i64
      (↑(List.map encSt l).length : Int)),
      ((23 : Nat), AV.int IntKind.i64 (↑g' : Int))]
      [] (1 : Nat))) ∧
      (decide ((↑g : Int) < (↑(List.map encSt l).length : Int)) = false →
      AV.int IntKind.i64 (0 : Int) = AV.int IntKind.i64 (sProcS l))) := by
    repeat' (first | apply And.intro | intro _ | refine impB_iff.2 fun _ => ?_)
    all_goals try first
      | exact c92 _ _
      | exact c89 _ _ _
      | exact c98 _
      | exact c87 [_, _] (by simp)
      | exact c87 [_, _, _, _] (by simp)
      | assumption
      | (simp only [decide_eq_true_eq, decide_eq_false_iff_not, List.length_map, maxI, minI, In64, Int.toNat_natCast, bne_iff_ne, ne_eq, beq_iff_eq, Bool.not_eq_true', Int.natCast_add, Int.cast_ofNat_Int] at *; omega)
      | (show (_ : Bool) = true; simp_all; done)
      | (rw [row_at _ (by simp only [decide_eq_true_eq, decide_eq_false_iff_not, List.length_map, maxI, minI, In64, Int.toNat_natCast, bne_iff_ne, ne_eq, beq_iff_eq, Bool.not_eq_true', Int.natCast_add, Int.cast_ofNat_Int] at *; omega)]; rfl)
    · rename_i h; exact av_int (ls_first h)
    · exact ⟨0, ⟨by omega, by intros; omega⟩, rfl⟩
    · rename_i h g hg hd hne; exact av_int (ls_hit (f := fProcS l) h hd hg.2 hne)
    · rename_i h g hg hd hne; have := lt_of_dec hd; exact ⟨g + 1, ⟨this, all_succ (f := fProcS l) hg.2 hne⟩, by omega, rfl⟩
    · rename_i h g hg hd; exact av_int (ls_end h hd hg.1 hg.2)
  exact c_of Tryz.f22 (mkB spA 22 [(7, 2, rdOr [rdL 3 encSt l 3 true]), (8, 1, rdOr [rdL 3 encSt l 1 false]), (8, 4, rdOr [rdL 3 encSt l 1 false]), (8, 7, rdOr [rdL 3 encSt l 1 false]), (8, 10, rdOr [rdL 3 encSt l 1 false]), (8, 18, rdOr [rdL 3 encSt l 1 false]), (11, 1, rdOr [rdL 3 encSt l 1 false])] (fun i => if i.beq 0 then some (la22 l) else none)) (by kernel_rfl) (by kernel_rfl) (by kernel_rfl) (by kernel_rfl) key (by kernel_rfl)
def fProcR (l : List St) (i : Nat) : Int := sFirst [sWithin (l.getD i default).a 0 400000, sWithin (l.getD i default).h 0 20000, sPower (l.getD i default).p,
  sWhen (if (if ((i : Int) == 0) = true then (l.getD i default).a != 0 else false) = true then true else if decide ((i : Int) > 0) = true then decide ((l.getD i default).a ≤ (l.getD (prv i) default).a) else false) 11]
def sProcR (l : List St) : Int := sLS (sLen8 (l.map encSt).length) (fProcR l) (l.map encSt).length 0
def la18 (l : List St) : LA := {
  pre := [.keep [0, 4] [], .bound 1], post := [.keep [0, 4] [], .bound 1]
  Gh := Nat
  st := fun i => ⟨[(0, .sl 3 (l.map encSt)), (4, .i i)], [], 1⟩
  ok := fun i => i ≤ (l.map encSt).length ∧ ∀ k, k < i → fProcR l k = 0
  ms := fun i => (l.map encSt).length - i }
theorem c18 (l : List St) (hl : (l.map encSt).length ≤ 1000000) : PCall Tryz.prog G0 18 [.sl 3 (l.map encSt)] (.i (sProcR l)) := by
  have key :
      PCall Tryz.prog G0 (94 : Nat)
      [AV.bool (decide ((↑(List.map encSt l).length : Int) < (2 : Int))), AV.int IntKind.i64 (16 : Int)]
      (AV.int IntKind.i64 (sWhen (decide ((↑(List.map encSt l).length : Int) < (2 : Int))) (16 : Int))) ∧
      PCall Tryz.prog G0 (94 : Nat)
      [AV.bool (decide ((↑(List.map encSt l).length : Int) > (8 : Int))), AV.int IntKind.i64 (5 : Int)]
      (AV.int IntKind.i64 (sWhen (decide ((↑(List.map encSt l).length : Int) > (8 : Int))) (5 : Int))) ∧
      PCall Tryz.prog G0 (93 : Nat)
      [AV.sl (1 : Nat)
      [[AV.int IntKind.i64 (sWhen (decide ((↑(List.map encSt l).length : Int) < (2 : Int))) (16 : Int))],
      [AV.int IntKind.i64 (sWhen (decide ((↑(List.map encSt l).length : Int) > (8 : Int))) (5 : Int))]]]
      (AV.int IntKind.i64
      (sFirst
      [hdI [AV.int IntKind.i64 (sWhen (decide ((↑(List.map encSt l).length : Int) < (2 : Int))) (16 : Int))],
      hdI
      [AV.int IntKind.i64 (sWhen (decide ((↑(List.map encSt l).length : Int) > (8 : Int))) (5 : Int))]])) ∧
      ((sFirst
      [hdI
      [AV.int IntKind.i64 (sWhen (decide ((↑(List.map encSt l).length : Int) < (2 : Int))) (16 : Int))],
      hdI
      [AV.int IntKind.i64
      (sWhen (decide ((↑(List.map encSt l).length : Int) > (8 : Int))) (5 : Int))]] !=
      (0 : Int)) =
      true →
      AV.int IntKind.i64
      (sFirst
      [hdI
      [AV.int IntKind.i64 (sWhen (decide ((↑(List.map encSt l).length : Int) < (2 : Int))) (16 : Int))],
      hdI
      [AV.int IntKind.i64
      (sWhen (decide ((↑(List.map encSt l).length : Int) > (8 : Int))) (5 : Int))]]) =
      AV.int IntKind.i64 (sProcR l)) ∧
      ((sFirst
      [hdI
      [AV.int IntKind.i64 (sWhen (decide ((↑(List.map encSt l).length : Int) < (2 : Int))) (16 : Int))],
      hdI
      [AV.int IntKind.i64
      (sWhen (decide ((↑(List.map encSt l).length : Int) > (8 : Int))) (5 : Int))]] !=
      (0 : Int)) =
      false →
      (∃ (g : Nat),
      (g ≤ (List.map encSt l).length ∧ ∀ (k : Nat), k < g → fProcR l k = (0 : Int)) ∧
      AS.mk [((0 : Nat), AV.sl (3 : Nat) (List.map encSt l)), ((4 : Nat), AV.int IntKind.i64 (0 : Int))] []
      (1 : Nat) =
      AS.mk [((0 : Nat), AV.sl (3 : Nat) (List.map encSt l)), ((4 : Nat), AV.int IntKind.i64 (↑g : Int))]
      [] (1 : Nat)) ∧
      ∀ (g : Nat),
      (g ≤ (List.map encSt l).length ∧ ∀ (k : Nat), k < g → fProcR l k = (0 : Int)) →
      (decide ((↑g : Int) < (↑(List.map encSt l).length : Int)) = true →
      (0 : Int) ≤ (↑g : Int) ∧
      (↑g : Int) < (↑(List.map encSt l).length : Int) ∧
      (0 : Int) ≤ (↑g : Int) ∧
      (↑g : Int) < (↑(List.map encSt l).length : Int) ∧
      (0 : Int) ≤ (↑g : Int) ∧
      (↑g : Int) < (↑(List.map encSt l).length : Int) ∧
      (((↑g : Int) == (0 : Int)) = true → ((↑g : Int) == (0 : Int)) = true) ∧
      (((↑g : Int) == (0 : Int)) = true → ((↑g : Int) == (0 : Int)) = true) ∧
      (((↑g : Int) == (0 : Int)) = true → (0 : Int) ≤ (↑g : Int)) ∧
      (((↑g : Int) == (0 : Int)) = true →
      (↑g : Int) < (↑(List.map encSt l).length : Int)) ∧
      (((↑g : Int) == (0 : Int)) = true → ((↑g : Int) == (0 : Int)) = true) ∧
      (((↑g : Int) == (0 : Int)) = true → ((↑g : Int) == (0 : Int)) = true) ∧
      (((↑g : Int) == (0 : Int)) = true → ((↑g : Int) == (0 : Int)) = true) ∧
      (((↑g : Int) == (0 : Int)) = true → ((↑g : Int) == (0 : Int)) = true) ∧
      ((!if ((↑g : Int) == (0 : Int)) = true then
      (l.getD (↑g : Int).toNat default).a != (0 : Int)
      else false) =
      true →
      (!if ((↑g : Int) == (0 : Int)) = true then
      (l.getD (↑g : Int).toNat default).a != (0 : Int)
      else false) =
      true) ∧
      ((!if ((↑g : Int) == (0 : Int)) = true then
      (l.getD (↑g : Int).toNat default).a != (0 : Int)
      else false) =
      true →
      (!if ((↑g : Int) == (0 : Int)) = true then
      (l.getD (↑g : Int).toNat default).a != (0 : Int)
      else false) =
      true) ∧
      (((!if ((↑g : Int) == (0 : Int)) = true then
      (l.getD (↑g : Int).toNat default).a != (0 : Int)
      else false) &&
      decide ((↑g : Int) > (0 : Int))) =
      true →
      ((!if ((↑g : Int) == (0 : Int)) = true then
      (l.getD (↑g : Int).toNat default).a != (0 : Int)
      else false) &&
      decide ((↑g : Int) > (0 : Int))) =
      true) ∧
      (((!if ((↑g : Int) == (0 : Int)) = true then
      (l.getD (↑g : Int).toNat default).a != (0 : Int)
      else false) &&
      decide ((↑g : Int) > (0 : Int))) =
      true →
      ((!if ((↑g : Int) == (0 : Int)) = true then
      (l.getD (↑g : Int).toNat default).a != (0 : Int)
      else false) &&
      decide ((↑g : Int) > (0 : Int))) =
      true) ∧
      (((!if ((↑g : Int) == (0 : Int)) = true then
      (l.getD (↑g : Int).toNat default).a != (0 : Int)
      else false) &&
      decide ((↑g : Int) > (0 : Int))) =
      true →
      (0 : Int) ≤ (↑g : Int)) ∧
      (((!if ((↑g : Int) == (0 : Int)) = true then
      (l.getD (↑g : Int).toNat default).a != (0 : Int)
      else false) &&
      decide ((↑g : Int) > (0 : Int))) =
      true →
      (↑g : Int) < (↑(List.map encSt l).length : Int)) ∧
      (((!if ((↑g : Int) == (0 : Int)) = true then
      (l.getD (↑g : Int).toNat default).a !=
      (0 : Int)
      else false) &&
      decide ((↑g : Int) > (0 : Int))) =
      true →
      ((!if ((↑g : Int) == (0 : Int)) = true then
      (l.getD (↑g : Int).toNat default).a !=
      (0 : Int)
      else false) &&
      decide ((↑g : Int) > (0 : Int))) =
      true) ∧
      (((!if ((↑g : Int) == (0 : Int)) = true then
      (l.getD (↑g : Int).toNat default).a !=
      (0 : Int)
      else false) &&
      decide ((↑g : Int) > (0 : Int))) =
      true →
      ((!if ((↑g : Int) == (0 : Int)) = true then
      (l.getD (↑g : Int).toNat default).a !=
      (0 : Int)
      else false) &&
      decide ((↑g : Int) > (0 : Int))) =
      true) ∧
      (((!if ((↑g : Int) == (0 : Int)) = true then
      (l.getD (↑g : Int).toNat default).a !=
      (0 : Int)
      else false) &&
      decide ((↑g : Int) > (0 : Int))) =
      true →
      ((!if ((↑g : Int) == (0 : Int)) = true then
      (l.getD (↑g : Int).toNat default).a !=
      (0 : Int)
      else false) &&
      decide ((↑g : Int) > (0 : Int))) =
      true) ∧
      (((!if ((↑g : Int) == (0 : Int)) = true then
      (l.getD (↑g : Int).toNat default).a !=
      (0 : Int)
      else false) &&
      decide ((↑g : Int) > (0 : Int))) =
      true →
      In64 ((↑g : Int) - (1 : Int))) ∧
      (((!if ((↑g : Int) == (0 : Int)) = true then
      (l.getD (↑g : Int).toNat default).a !=
      (0 : Int)
      else false) &&
      decide ((↑g : Int) > (0 : Int))) =
      true →
      ((!if ((↑g : Int) == (0 : Int)) = true then
      (l.getD (↑g : Int).toNat default).a !=
      (0 : Int)
      else false) &&
      decide ((↑g : Int) > (0 : Int))) =
      true) ∧
      (((!if ((↑g : Int) == (0 : Int)) = true then
      (l.getD (↑g : Int).toNat
      default).a !=
      (0 : Int)
      else false) &&
      decide ((↑g : Int) > (0 : Int))) =
      true →
      ((!if ((↑g : Int) == (0 : Int)) = true then
      (l.getD (↑g : Int).toNat
      default).a !=
      (0 : Int)
      else false) &&
      decide ((↑g : Int) > (0 : Int))) =
      true) ∧
      (((!if ((↑g : Int) == (0 : Int)) = true then
      (l.getD (↑g : Int).toNat
      default).a !=
      (0 : Int)
      else false) &&
      decide ((↑g : Int) > (0 : Int))) =
      true →
      ((!if
      ((↑g : Int) == (0 : Int)) =
      true then
      (l.getD (↑g : Int).toNat
      default).a !=
      (0 : Int)
      else false) &&
      decide ((↑g : Int) > (0 : Int))) =
      true) ∧
      (((!if ((↑g : Int) == (0 : Int)) = true then
      (l.getD (↑g : Int).toNat
      default).a !=
      (0 : Int)
      else false) &&
      decide ((↑g : Int) > (0 : Int))) =
      true →
      (0 : Int) ≤
      maxI (0 : Int)
      ((↑g : Int) - (1 : Int))) ∧
      (((!if
      ((↑g : Int) == (0 : Int)) =
      true then
      (l.getD (↑g : Int).toNat
      default).a !=
      (0 : Int)
      else false) &&
      decide ((↑g : Int) > (0 : Int))) =
      true →
      maxI (0 : Int)
      ((↑g : Int) - (1 : Int)) <
      (↑(List.map encSt l).length :
      Int)) ∧
      (((!if
      ((↑g : Int) ==
      (0 : Int)) =
      true then
      (l.getD (↑g : Int).toNat
      default).a !=
      (0 : Int)
      else false) &&
      decide
      ((↑g : Int) > (0 : Int))) =
      true →
      ((!if
      ((↑g : Int) ==
      (0 : Int)) =
      true then
      (l.getD (↑g : Int).toNat
      default).a !=
      (0 : Int)
      else false) &&
      decide
      ((↑g : Int) > (0 : Int))) =
      true) ∧
      (((!if
      ((↑g : Int) ==
      (0 : Int)) =
      true then
      (l.getD (↑g : Int).toNat
      default).a !=
      (0 : Int)
      else false) &&
      decide
      ((↑g : Int) > (0 : Int))) =
      true →
      ((!if
      ((↑g : Int) ==
      (0 : Int)) =
      true then
      (l.getD (↑g : Int).toNat
      default).a !=
      (0 : Int)
      else false) &&
      decide
      ((↑g : Int) > (0 : Int))) =
      true) ∧
      (((!if
      ((↑g : Int) ==
      (0 : Int)) =
      true then
      (l.getD (↑g : Int).toNat
      default).a !=
      (0 : Int)
      else false) &&
      decide
      ((↑g : Int) >
      (0 : Int))) =
      true →
      ((!if
      ((↑g : Int) ==
      (0 : Int)) =
      true then
      (l.getD (↑g : Int).toNat
      default).a !=
      (0 : Int)
      else false) &&
      decide
      ((↑g : Int) >
      (0 : Int))) =
      true) ∧
      (((!if
      ((↑g : Int) ==
      (0 : Int)) =
      true then
      (l.getD
      (↑g : Int).toNat
      default).a !=
      (0 : Int)
      else false) &&
      decide
      ((↑g : Int) >
      (0 : Int))) =
      true →
      ((!if
      ((↑g : Int) ==
      (0 : Int)) =
      true then
      (l.getD
      (↑g : Int).toNat
      default).a !=
      (0 : Int)
      else false) &&
      decide
      ((↑g : Int) >
      (0 : Int))) =
      true) ∧
      ((!if
      ((↑g : Int) ==
      (0 : Int)) =
      true then
      (l.getD
      (↑g : Int).toNat
      default).a !=
      (0 : Int)
      else false) =
      true →
      (!if
      ((↑g : Int) ==
      (0 : Int)) =
      true then
      (l.getD
      (↑g : Int).toNat
      default).a !=
      (0 : Int)
      else false) =
      true) ∧
      ((!if
      ((↑g : Int) ==
      (0 : Int)) =
      true then
      (l.getD
      (↑g :
      Int).toNat
      default).a !=
      (0 : Int)
      else false) =
      true →
      decide
      ((↑g : Int) >
      (0 : Int)) =
      true →
      ((!if
      ((↑g : Int) ==
      (0 :
      Int)) =
      true then
      (l.getD
      (↑g :
      Int).toNat
      default).a !=
      (0 : Int)
      else false) &&
      decide
      ((↑g : Int) >
      (0 : Int))) =
      true) ∧
      ((if
      ((↑g : Int) ==
      (0 : Int)) =
      true then
      (l.getD
      (↑g :
      Int).toNat
      default).a !=
      (0 : Int)
      else false) =
      false →
      (!if
      ((↑g : Int) ==
      (0 : Int)) =
      true then
      (l.getD
      (↑g :
      Int).toNat
      default).a !=
      (0 : Int)
      else false) =
      true) ∧
      nth
      (nthR
      (List.map encSt l)
      (↑g : Int).toNat)
      (0 : Nat) =
      AV.int IntKind.i64
      (l.getD
      (↑g : Int).toNat
      default).a ∧
      PCall Tryz.prog G0
      (95 : Nat)
      [AV.int IntKind.i64
      (l.getD
      (↑g :
      Int).toNat
      default).a,
      AV.int IntKind.i64
      (0 : Int),
      AV.int IntKind.i64
      (400000 : Int)]
      (AV.int IntKind.i64
      (sWithin
      (l.getD
      (↑g :
      Int).toNat
      default).a
      (0 : Int)
      (400000 :
      Int))) ∧
      nth
      (nthR
      (List.map
      encSt l)
      (↑g :
      Int).toNat)
      (1 : Nat) =
      AV.int IntKind.i64
      (l.getD
      (↑g :
      Int).toNat
      default).h ∧
      PCall Tryz.prog G0
      (95 : Nat)
      [AV.int
      IntKind.i64
      (l.getD
      (↑g :
      Int).toNat
      default).h,
      AV.int
      IntKind.i64
      (0 : Int),
      AV.int
      IntKind.i64
      (20000 :
      Int)]
      (AV.int
      IntKind.i64
      (sWithin
      (l.getD
      (↑g :
      Int).toNat
      default).h
      (0 : Int)
      (20000 :
      Int))) ∧
      nth
      (nthR
      (List.map
      encSt l)
      (↑g :
      Int).toNat)
      (2 : Nat) =
      AV.int
      IntKind.i64
      (l.getD
      (↑g :
      Int).toNat
      default).p ∧
      PCall Tryz.prog
      G0
      (44 : Nat)
      [AV.int
      IntKind.i64
      (l.getD
      (↑g :
      Int).toNat
      default).p]
      (AV.int
      IntKind.i64
      (sPower
      (l.getD
      (↑g :
      Int).toNat
      default).p)) ∧
      impB
      ((↑g :
      Int) ==
      (0 :
      Int))
      (nth
      (nthR
      (List.map
      encSt
      l)
      (↑g :
      Int).toNat)
      (0 :
      Nat) =
      AV.int
      IntKind.i64
      (l.getD
      (↑g :
      Int).toNat
      default).a) ∧
      impB
      ((!if
      ((↑g :
      Int) ==
      (0 :
      Int)) =
      true then
      (l.getD
      (↑g :
      Int).toNat
      default).a !=
      (0 :
      Int)
      else
      false) &&
      decide
      ((↑g :
      Int) >
      (0 :
      Int)))
      (nth
      (nthR
      (List.map
      encSt
      l)
      (↑g :
      Int).toNat)
      (0 :
      Nat) =
      AV.int
      IntKind.i64
      (l.getD
      (↑g :
      Int).toNat
      default).a) ∧
      impB
      ((!if
      ((↑g :
      Int) ==
      (0 :
      Int)) =
      true then
      (l.getD
      (↑g :
      Int).toNat
      default).a !=
      (0 :
      Int)
      else
      false) &&
      decide
      ((↑g :
      Int) >
      (0 :
      Int)))
      (nth
      (nthR
      (List.map
      encSt
      l)
      (maxI
      (0 :
      Int)
      ((↑g :
      Int) -
      (1 :
      Int))).toNat)
      (0 :
      Nat) =
      AV.int
      IntKind.i64
      (l.getD
      (maxI
      (0 :
      Int)
      ((↑g :
      Int) -
      (1 :
      Int))).toNat
      default).a) ∧
      PCall
      Tryz.prog
      G0
      (94 :
      Nat)
      [AV.bool
      (if
      (if
      ((↑g :
      Int) ==
      (0 :
      Int)) =
      true then
      (l.getD
      (↑g :
      Int).toNat
      default).a !=
      (0 :
      Int)
      else
      false) =
      true then
      true
      else
      if
      decide
      ((↑g :
      Int) >
      (0 :
      Int)) =
      true then
      decide
      ((l.getD
      (↑g :
      Int).toNat
      default).a ≤
      (l.getD
      (maxI
      (0 :
      Int)
      ((↑g :
      Int) -
      (1 :
      Int))).toNat
      default).a)
      else
      false),
      AV.int
      IntKind.i64
      (11 :
      Int)]
      (AV.int
      IntKind.i64
      (sWhen
      (if
      (if
      ((↑g :
      Int) ==
      (0 :
      Int)) =
      true then
      (l.getD
      (↑g :
      Int).toNat
      default).a !=
      (0 :
      Int)
      else
      false) =
      true then
      true
      else
      if
      decide
      ((↑g :
      Int) >
      (0 :
      Int)) =
      true then
      decide
      ((l.getD
      (↑g :
      Int).toNat
      default).a ≤
      (l.getD
      (maxI
      (0 :
      Int)
      ((↑g :
      Int) -
      (1 :
      Int))).toNat
      default).a)
      else
      false)
      (11 :
      Int))) ∧
      PCall
      Tryz.prog
      G0
      (93 :
      Nat)
      [AV.sl
      (1 :
      Nat)
      [[AV.int
      IntKind.i64
      (sWithin
      (l.getD
      (↑g :
      Int).toNat
      default).a
      (0 :
      Int)
      (400000 :
      Int))],
      [AV.int
      IntKind.i64
      (sWithin
      (l.getD
      (↑g :
      Int).toNat
      default).h
      (0 :
      Int)
      (20000 :
      Int))],
      [AV.int
      IntKind.i64
      (sPower
      (l.getD
      (↑g :
      Int).toNat
      default).p)],
      [AV.int
      IntKind.i64
      (sWhen
      (if
      (if
      ((↑g :
      Int) ==
      (0 :
      Int)) =
      true then
      (l.getD
      (↑g :
      Int).toNat
      default).a !=
      (0 :
      Int)
      else
      false) =
      true then
      true
      else
      if
      decide
      ((↑g :
      Int) >
      (0 :
      Int)) =
      true then
      decide
      ((l.getD
      (↑g :
      Int).toNat
      default).a ≤
      (l.getD
      (maxI
      (0 :
      Int)
      ((↑g :
      Int) -
      (1 :
      Int))).toNat
      default).a)
      else
      false)
      (11 :
      Int))]]]
      (AV.int
      IntKind.i64
      (sFirst
      [hdI
      [AV.int
      IntKind.i64
      (sWithin
      (l.getD
      (↑g :
      Int).toNat
      default).a
      (0 :
      Int)
      (400000 :
      Int))],
      hdI
      [AV.int
      IntKind.i64
      (sWithin
      (l.getD
      (↑g :
      Int).toNat
      default).h
      (0 :
      Int)
      (20000 :
      Int))],
      hdI
      [AV.int
      IntKind.i64
      (sPower
      (l.getD
      (↑g :
      Int).toNat
      default).p)],
      hdI
      [AV.int
      IntKind.i64
      (sWhen
      (if
      (if
      ((↑g :
      Int) ==
      (0 :
      Int)) =
      true then
      (l.getD
      (↑g :
      Int).toNat
      default).a !=
      (0 :
      Int)
      else
      false) =
      true then
      true
      else
      if
      decide
      ((↑g :
      Int) >
      (0 :
      Int)) =
      true then
      decide
      ((l.getD
      (↑g :
      Int).toNat
      default).a ≤
      (l.getD
      (maxI
      (0 :
      Int)
      ((↑g :
      Int) -
      (1 :
      Int))).toNat
      default).a)
      else
      false)
      (11 :
      Int))]])) ∧
      ((sFirst
      [hdI
      [AV.int
      IntKind.i64
      (sWithin
      (l.getD
      (↑g :
      Int).toNat
      default).a
      (0 :
      Int)
      (400000 :
      Int))],
      hdI
      [AV.int
      IntKind.i64
      (sWithin
      (l.getD
      (↑g :
      Int).toNat
      default).h
      (0 :
      Int)
      (20000 :
      Int))],
      hdI
      [AV.int
      IntKind.i64
      (sPower
      (l.getD
      (↑g :
      Int).toNat
      default).p)],
      hdI
      [AV.int
      IntKind.i64
      (sWhen
      (if
      (if
      ((↑g :
      Int) ==
      (0 :
      Int)) =
      true then
      (l.getD
      (↑g :
      Int).toNat
      default).a !=
      (0 :
      Int)
      else
      false) =
      true then
      true
      else
      if
      decide
      ((↑g :
      Int) >
      (0 :
      Int)) =
      true then
      decide
      ((l.getD
      (↑g :
      Int).toNat
      default).a ≤
      (l.getD
      (maxI
      (0 :
      Int)
      ((↑g :
      Int) -
      (1 :
      Int))).toNat
      default).a)
      else
      false)
      (11 :
      Int))]] !=
      (0 :
      Int)) =
      true →
      AV.int
      IntKind.i64
      (sFirst
      [hdI
      [AV.int
      IntKind.i64
      (sWithin
      (l.getD
      (↑g :
      Int).toNat
      default).a
      (0 :
      Int)
      (400000 :
      Int))],
      hdI
      [AV.int
      IntKind.i64
      (sWithin
      (l.getD
      (↑g :
      Int).toNat
      default).h
      (0 :
      Int)
      (20000 :
      Int))],
      hdI
      [AV.int
      IntKind.i64
      (sPower
      (l.getD
      (↑g :
      Int).toNat
      default).p)],
      hdI
      [AV.int
      IntKind.i64
      (sWhen
      (if
      (if
      ((↑g :
      Int) ==
      (0 :
      Int)) =
      true then
      (l.getD
      (↑g :
      Int).toNat
      default).a !=
      (0 :
      Int)
      else
      false) =
      true then
      true
      else
      if
      decide
      ((↑g :
      Int) >
      (0 :
      Int)) =
      true then
      decide
      ((l.getD
      (↑g :
      Int).toNat
      default).a ≤
      (l.getD
      (maxI
      (0 :
      Int)
      ((↑g :
      Int) -
      (1 :
      Int))).toNat
      default).a)
      else
      false)
      (11 :
      Int))]]) =
      AV.int
      IntKind.i64
      (sProcR
      l)) ∧
      ((sFirst
      [hdI
      [AV.int
      IntKind.i64
      (sWithin
      (l.getD
      (↑g :
      Int).toNat
      default).a
      (0 :
      Int)
      (400000 :
      Int))],
      hdI
      [AV.int
      IntKind.i64
      (sWithin
      (l.getD
      (↑g :
      Int).toNat
      default).h
      (0 :
      Int)
      (20000 :
      Int))],
      hdI
      [AV.int
      IntKind.i64
      (sPower
      (l.getD
      (↑g :
      Int).toNat
      default).p)],
      hdI
      [AV.int
      IntKind.i64
      (sWhen
      (if
      (if
      ((↑g :
      Int) ==
      (0 :
      Int)) =
      true then
      (l.getD
      (↑g :
      Int).toNat
      default).a !=
      (0 :
      Int)
      else
      false) =
      true then
      true
      else
      if
      decide
      ((↑g :
      Int) >
      (0 :
      Int)) =
      true then
      decide
      ((l.getD
      (↑g :
      Int).toNat
      default).a ≤
      (l.getD
      (maxI
      (0 :
      Int)
      ((↑g :
      Int) -
      (1 :
      Int))).toNat
      default).a)
      else
      false)
      (11 :
      Int))]] !=
      (0 :
      Int)) =
      false →
      In64
      ((↑g :
      Int) +
      (1 :
      Int)) ∧
      ∃
      (g'
      :
      Nat),
      (g' ≤
      (List.map
      encSt
      l).length ∧
      ∀
      (k :
      Nat),
      k <
      g' →
      fProcR
      l
      k =
      (0 :
      Int)) ∧
      (List.map
      encSt
      l).length -
      g' <
      (List.map
      encSt
      l).length -
      g ∧
      AS.mk
      [((0 :
      Nat),
      AV.sl
      (3 :
      Nat)
      (List.map
      encSt
      l)),
      ((4 :
      Nat),
      AV.int
      IntKind.i64
      ((↑g :
      Int) +
      (1 :
      Int)))]
      []
      (1 :
      Nat) =
      AS.mk
      [((0 :
      Nat),
      AV.sl
      (3 :
      Nat)
      (List.map
      encSt
      l)),
      ((4 :
      Nat),
      AV.int
      IntKind.i64
      (↑g' :
      Int))]
      []
      (1 :
      Nat))) ∧
      (decide ((↑g : Int) < (↑(List.map encSt l).length : Int)) = false →
      AV.int IntKind.i64 (0 : Int) = AV.int IntKind.i64 (sProcR l))) := by
    repeat' (first | apply And.intro | intro _ | refine impB_iff.2 fun _ => ?_)
    all_goals try first
      | exact c94 _ _
      | exact c95 _ _ _
      | exact c44 _
      | exact c93 [_, _] (by simp)
      | exact c93 [_, _, _, _] (by simp)
      | assumption
      | (simp only [decide_eq_true_eq, decide_eq_false_iff_not, List.length_map, maxI, minI, In64, Int.toNat_natCast, bne_iff_ne, ne_eq, beq_iff_eq, Bool.not_eq_true', Int.natCast_add, Int.cast_ofNat_Int] at *; omega)
      | (show (_ : Bool) = true; simp_all; done)
      | (rw [row_at _ (by simp only [decide_eq_true_eq, decide_eq_false_iff_not, List.length_map, maxI, minI, In64, Int.toNat_natCast, bne_iff_ne, ne_eq, beq_iff_eq, Bool.not_eq_true', Int.natCast_add, Int.cast_ofNat_Int] at *; omega)]; rfl)
    · rename_i h; exact av_int (ls_first h)
    · exact ⟨0, ⟨by omega, by intros; omega⟩, rfl⟩
    · rename_i h g hg hd hne; exact av_int (ls_hit (f := fProcR l) h hd hg.2 hne)
    · rename_i h g hg hd hne; have := lt_of_dec hd; exact ⟨g + 1, ⟨this, all_succ (f := fProcR l) hg.2 hne⟩, by omega, rfl⟩
    · rename_i h g hg hd; exact av_int (ls_end h hd hg.1 hg.2)
  exact c_of Tryz.f18 (mkB spA 18 [(7, 4, rdOr [rdL 3 encSt l 1 false]), (7, 10, rdOr [rdL 3 encSt l 1 false]), (7, 16, rdOr [rdL 3 encSt l 1 false]), (7, 25, rdOr [rdL 3 encSt l 1 false]), (7, 36, rdOr [rdL 3 encSt l 1 false]), (7, 43, rdOr [rdL 3 encSt l 1 false])] (fun i => if i.beq 0 then some (la18 l) else none)) (by kernel_rfl) (by kernel_rfl) (by kernel_rfl) (by kernel_rfl) key (by kernel_rfl)
def fTrackS (l : List Fx) (i : Nat) : Int := sFirst [sFix (l.getD i default).t (l.getD i default).x (l.getD i default).y (l.getD i default).z (l.getD i default).p,
  sWhen (if decide ((i : Int) > 0) = true then decide ((l.getD i default).t ≤ (l.getD (prv i) default).t) else false) 11]
def fTrackR (l : List Fx) (i : Nat) : Int := sFirst [sWithin (l.getD i default).t 0 100000000, sPlace (l.getD i default).x (l.getD i default).y (l.getD i default).z, sPower (l.getD i default).p,
  sWhen (if decide ((i : Int) > 0) = true then decide ((l.getD i default).t ≤ (l.getD (prv i) default).t) else false) 11]
def lastOf (n : Nat) : Nat := ((n : Int) - 1).toNat
def sSpan (l : List Fx) : Int := sWhen (decide ((l.getD (lastOf (l.map encFx).length) default).t - (l.getD 0 default).t > 1000)) 14
def sTrackS (l : List Fx) : Int := sLS (sLen (l.map encFx).length) (fTrackS l) (l.map encFx).length (sSpan l)
def sTrackR (l : List Fx) : Int := sLS (sLen (l.map encFx).length) (fTrackR l) (l.map encFx).length (sSpan l)
theorem len_ge {n : Nat} (h : (sLen n != 0) = false) : 2 ≤ n ∧ n ≤ 16 := by
  have h := bne_f h
  unfold sLen at h
  simp only [first_zero, sWhen] at h
  by_cases h1 : (n : Int) < 2
  · simp [h1] at h
  · by_cases h2 : (n : Int) > 16
    · simp [h2] at h
    · omega
theorem fTrackS_t {l : List Fx} {i : Nat} (h : fTrackS l i = 0) : 0 ≤ (l.getD i default).t ∧ (l.getD i default).t ≤ 100000000 := by
  simp only [fTrackS, sFix, first_zero, within_zero] at h
  exact h.1.1
theorem fTrackR_t {l : List Fx} {i : Nat} (h : fTrackR l i = 0) : 0 ≤ (l.getD i default).t ∧ (l.getD i default).t ≤ 100000000 := by
  simp only [fTrackR, first_zero, within_zero] at h
  exact h.1
def la76 (l : List Fx) : LA := {
  pre := [.keep [0, 20, 21, 22] [], .bound 1], post := [.keep [0, 20, 21, 22] [], .bound 1]
  Gh := Nat
  st := fun i => ⟨[(0, .sl 5 (l.map encFx)), (20, .sl 5 (l.map encFx)), (21, .i (l.map encFx).length), (22, .i i)], [], 1⟩
  ok := fun i => i ≤ (l.map encFx).length ∧ ∀ k, k < i → fTrackS l k = 0
  ms := fun i => (l.map encFx).length - i }
theorem c76 (l : List Fx) (hl : (l.map encFx).length ≤ 1000000) : PCall Tryz.prog G0 76 [.sl 5 (l.map encFx)] (.i (sTrackS l)) := by
  have key :
      PCall Tryz.prog G0 (92 : Nat)
      [AV.bool (decide ((↑(List.map encFx l).length : Int) < (2 : Int))), AV.int IntKind.i64 (16 : Int)]
      (AV.int IntKind.i64 (sWhen (decide ((↑(List.map encFx l).length : Int) < (2 : Int))) (16 : Int))) ∧
      PCall Tryz.prog G0 (92 : Nat)
      [AV.bool (decide ((↑(List.map encFx l).length : Int) > (16 : Int))), AV.int IntKind.i64 (5 : Int)]
      (AV.int IntKind.i64 (sWhen (decide ((↑(List.map encFx l).length : Int) > (16 : Int))) (5 : Int))) ∧
      PCall Tryz.prog G0 (87 : Nat)
      [AV.sl (1 : Nat)
      [[AV.int IntKind.i64 (sWhen (decide ((↑(List.map encFx l).length : Int) < (2 : Int))) (16 : Int))],
      [AV.int IntKind.i64 (sWhen (decide ((↑(List.map encFx l).length : Int) > (16 : Int))) (5 : Int))]]]
      (AV.int IntKind.i64
      (sFirst
      [hdI [AV.int IntKind.i64 (sWhen (decide ((↑(List.map encFx l).length : Int) < (2 : Int))) (16 : Int))],
      hdI
      [AV.int IntKind.i64 (sWhen (decide ((↑(List.map encFx l).length : Int) > (16 : Int))) (5 : Int))]])) ∧
      ((sFirst
      [hdI
      [AV.int IntKind.i64 (sWhen (decide ((↑(List.map encFx l).length : Int) < (2 : Int))) (16 : Int))],
      hdI
      [AV.int IntKind.i64
      (sWhen (decide ((↑(List.map encFx l).length : Int) > (16 : Int))) (5 : Int))]] !=
      (0 : Int)) =
      true →
      AV.int IntKind.i64
      (sFirst
      [hdI
      [AV.int IntKind.i64 (sWhen (decide ((↑(List.map encFx l).length : Int) < (2 : Int))) (16 : Int))],
      hdI
      [AV.int IntKind.i64
      (sWhen (decide ((↑(List.map encFx l).length : Int) > (16 : Int))) (5 : Int))]]) =
      AV.int IntKind.i64 (sTrackS l)) ∧
      ((sFirst
      [hdI
      [AV.int IntKind.i64 (sWhen (decide ((↑(List.map encFx l).length : Int) < (2 : Int))) (16 : Int))],
      hdI
      [AV.int IntKind.i64
      (sWhen (decide ((↑(List.map encFx l).length : Int) > (16 : Int))) (5 : Int))]] !=
      (0 : Int)) =
      false →
      (∃ (g : Nat),
      (g ≤ (List.map encFx l).length ∧ ∀ (k : Nat), k < g → fTrackS l k = (0 : Int)) ∧
      AS.mk
      [((0 : Nat), AV.sl (5 : Nat) (List.map encFx l)),
      ((20 : Nat), AV.sl (5 : Nat) (List.map encFx l)),
      ((21 : Nat), AV.int IntKind.i64 (↑(List.map encFx l).length : Int)),
      ((22 : Nat), AV.int IntKind.i64 (0 : Int))]
      [] (1 : Nat) =
      AS.mk
      [((0 : Nat), AV.sl (5 : Nat) (List.map encFx l)),
      ((20 : Nat), AV.sl (5 : Nat) (List.map encFx l)),
      ((21 : Nat), AV.int IntKind.i64 (↑(List.map encFx l).length : Int)),
      ((22 : Nat), AV.int IntKind.i64 (↑g : Int))]
      [] (1 : Nat)) ∧
      ∀ (g : Nat),
      (g ≤ (List.map encFx l).length ∧ ∀ (k : Nat), k < g → fTrackS l k = (0 : Int)) →
      (decide ((↑g : Int) < (↑(List.map encFx l).length : Int)) = true →
      (0 : Int) ≤ (↑g : Int) ∧
      (↑g : Int) < (↑(List.map encFx l).length : Int) ∧
      AV.agg (nthR (List.map encFx l) (↑g : Int).toNat) =
      AV.agg
      [AV.int IntKind.i64 (l.getD (↑g : Int).toNat default).t,
      AV.int IntKind.i64 (l.getD (↑g : Int).toNat default).x,
      AV.int IntKind.i64 (l.getD (↑g : Int).toNat default).y,
      AV.int IntKind.i64 (l.getD (↑g : Int).toNat default).z,
      AV.int IntKind.i64 (l.getD (↑g : Int).toNat default).p] ∧
      (decide ((↑g : Int) > (0 : Int)) = true → decide ((↑g : Int) > (0 : Int)) = true) ∧
      (decide ((↑g : Int) > (0 : Int)) = true → decide ((↑g : Int) > (0 : Int)) = true) ∧
      (decide ((↑g : Int) > (0 : Int)) = true → In64 ((↑g : Int) - (1 : Int))) ∧
      (decide ((↑g : Int) > (0 : Int)) = true → decide ((↑g : Int) > (0 : Int)) = true) ∧
      (decide ((↑g : Int) > (0 : Int)) = true → decide ((↑g : Int) > (0 : Int)) = true) ∧
      (decide ((↑g : Int) > (0 : Int)) = true →
      decide ((↑g : Int) > (0 : Int)) = true) ∧
      (decide ((↑g : Int) > (0 : Int)) = true →
      (0 : Int) ≤ maxI (0 : Int) ((↑g : Int) - (1 : Int))) ∧
      (decide ((↑g : Int) > (0 : Int)) = true →
      maxI (0 : Int) ((↑g : Int) - (1 : Int)) <
      (↑(List.map encFx l).length : Int)) ∧
      (decide ((↑g : Int) > (0 : Int)) = true →
      decide ((↑g : Int) > (0 : Int)) = true) ∧
      (decide ((↑g : Int) > (0 : Int)) = true →
      decide ((↑g : Int) > (0 : Int)) = true) ∧
      (decide ((↑g : Int) > (0 : Int)) = true →
      decide ((↑g : Int) > (0 : Int)) = true) ∧
      (decide ((↑g : Int) > (0 : Int)) = true →
      decide ((↑g : Int) > (0 : Int)) = true) ∧
      (decide ((↑g : Int) > (0 : Int)) = true →
      decide ((↑g : Int) > (0 : Int)) = true) ∧
      PCall Tryz.prog G0 (134 : Nat)
      [AV.agg
      [AV.int IntKind.i64 (l.getD (↑g : Int).toNat default).t,
      AV.int IntKind.i64 (l.getD (↑g : Int).toNat default).x,
      AV.int IntKind.i64 (l.getD (↑g : Int).toNat default).y,
      AV.int IntKind.i64 (l.getD (↑g : Int).toNat default).z,
      AV.int IntKind.i64 (l.getD (↑g : Int).toNat default).p]]
      (AV.int IntKind.i64
      (sFix (l.getD (↑g : Int).toNat default).t
      (l.getD (↑g : Int).toNat default).x
      (l.getD (↑g : Int).toNat default).y
      (l.getD (↑g : Int).toNat default).z
      (l.getD (↑g : Int).toNat default).p)) ∧
      impB (decide ((↑g : Int) > (0 : Int)))
      (nth
      (nthR (List.map encFx l)
      (maxI (0 : Int) ((↑g : Int) - (1 : Int))).toNat)
      (0 : Nat) =
      AV.int IntKind.i64
      (l.getD (maxI (0 : Int) ((↑g : Int) - (1 : Int))).toNat
      default).t) ∧
      PCall Tryz.prog G0 (92 : Nat)
      [AV.bool
      (if decide ((↑g : Int) > (0 : Int)) = true then
      decide
      ((l.getD (↑g : Int).toNat default).t ≤
      (l.getD
      (maxI (0 : Int)
      ((↑g : Int) - (1 : Int))).toNat
      default).t)
      else false),
      AV.int IntKind.i64 (11 : Int)]
      (AV.int IntKind.i64
      (sWhen
      (if decide ((↑g : Int) > (0 : Int)) = true then
      decide
      ((l.getD (↑g : Int).toNat default).t ≤
      (l.getD
      (maxI (0 : Int)
      ((↑g : Int) - (1 : Int))).toNat
      default).t)
      else false)
      (11 : Int))) ∧
      PCall Tryz.prog G0 (87 : Nat)
      [AV.sl (1 : Nat)
      [[AV.int IntKind.i64
      (sFix (l.getD (↑g : Int).toNat default).t
      (l.getD (↑g : Int).toNat default).x
      (l.getD (↑g : Int).toNat default).y
      (l.getD (↑g : Int).toNat default).z
      (l.getD (↑g : Int).toNat default).p)],
      [AV.int IntKind.i64
      (sWhen
      (if
      decide ((↑g : Int) > (0 : Int)) =
      true then
      decide
      ((l.getD (↑g : Int).toNat default).t ≤
      (l.getD
      (maxI (0 : Int)
      ((↑g : Int) -
      (1 : Int))).toNat
      default).t)
      else false)
      (11 : Int))]]]
      (AV.int IntKind.i64
      (sFirst
      [hdI
      [AV.int IntKind.i64
      (sFix (l.getD (↑g : Int).toNat default).t
      (l.getD (↑g : Int).toNat default).x
      (l.getD (↑g : Int).toNat default).y
      (l.getD (↑g : Int).toNat default).z
      (l.getD (↑g : Int).toNat default).p)],
      hdI
      [AV.int IntKind.i64
      (sWhen
      (if
      decide ((↑g : Int) > (0 : Int)) =
      true then
      decide
      ((l.getD (↑g : Int).toNat default).t ≤
      (l.getD
      (maxI (0 : Int)
      ((↑g : Int) -
      (1 : Int))).toNat
      default).t)
      else false)
      (11 : Int))]])) ∧
      ((sFirst
      [hdI
      [AV.int IntKind.i64
      (sFix
      (l.getD (↑g : Int).toNat default).t
      (l.getD (↑g : Int).toNat default).x
      (l.getD (↑g : Int).toNat default).y
      (l.getD (↑g : Int).toNat default).z
      (l.getD (↑g : Int).toNat default).p)],
      hdI
      [AV.int IntKind.i64
      (sWhen
      (if
      decide ((↑g : Int) > (0 : Int)) =
      true then
      decide
      ((l.getD (↑g : Int).toNat
      default).t ≤
      (l.getD
      (maxI (0 : Int)
      ((↑g : Int) -
      (1 : Int))).toNat
      default).t)
      else false)
      (11 : Int))]] !=
      (0 : Int)) =
      true →
      AV.int IntKind.i64
      (sFirst
      [hdI
      [AV.int IntKind.i64
      (sFix
      (l.getD (↑g : Int).toNat default).t
      (l.getD (↑g : Int).toNat default).x
      (l.getD (↑g : Int).toNat default).y
      (l.getD (↑g : Int).toNat default).z
      (l.getD (↑g : Int).toNat default).p)],
      hdI
      [AV.int IntKind.i64
      (sWhen
      (if
      decide ((↑g : Int) > (0 : Int)) =
      true then
      decide
      ((l.getD (↑g : Int).toNat
      default).t ≤
      (l.getD
      (maxI (0 : Int)
      ((↑g : Int) -
      (1 : Int))).toNat
      default).t)
      else false)
      (11 : Int))]]) =
      AV.int IntKind.i64 (sTrackS l)) ∧
      ((sFirst
      [hdI
      [AV.int IntKind.i64
      (sFix
      (l.getD (↑g : Int).toNat default).t
      (l.getD (↑g : Int).toNat default).x
      (l.getD (↑g : Int).toNat default).y
      (l.getD (↑g : Int).toNat default).z
      (l.getD (↑g : Int).toNat default).p)],
      hdI
      [AV.int IntKind.i64
      (sWhen
      (if
      decide ((↑g : Int) > (0 : Int)) =
      true then
      decide
      ((l.getD (↑g : Int).toNat
      default).t ≤
      (l.getD
      (maxI (0 : Int)
      ((↑g : Int) -
      (1 : Int))).toNat
      default).t)
      else false)
      (11 : Int))]] !=
      (0 : Int)) =
      false →
      In64 ((↑g : Int) + (1 : Int)) ∧
      ∃ (g' : Nat),
      (g' ≤ (List.map encFx l).length ∧
      ∀ (k : Nat),
      k < g' → fTrackS l k = (0 : Int)) ∧
      (List.map encFx l).length - g' <
      (List.map encFx l).length - g ∧
      AS.mk
      [((0 : Nat),
      AV.sl (5 : Nat) (List.map encFx l)),
      ((20 : Nat),
      AV.sl (5 : Nat) (List.map encFx l)),
      ((21 : Nat),
      AV.int IntKind.i64
      (↑(List.map encFx l).length : Int)),
      ((22 : Nat),
      AV.int IntKind.i64
      ((↑g : Int) + (1 : Int)))]
      [] (1 : Nat) =
      AS.mk
      [((0 : Nat),
      AV.sl (5 : Nat) (List.map encFx l)),
      ((20 : Nat),
      AV.sl (5 : Nat) (List.map encFx l)),
      ((21 : Nat),
      AV.int IntKind.i64
      (↑(List.map encFx l).length : Int)),
      ((22 : Nat),
      AV.int IntKind.i64 (↑g' : Int))]
      [] (1 : Nat))) ∧
      (decide ((↑g : Int) < (↑(List.map encFx l).length : Int)) = false →
      In64 ((↑(List.map encFx l).length : Int) - (1 : Int)) ∧
      (0 : Int) ≤ (↑(List.map encFx l).length : Int) - (1 : Int) ∧
      (↑(List.map encFx l).length : Int) - (1 : Int) < (↑(List.map encFx l).length : Int) ∧
      (0 : Int) ≤ (0 : Int) ∧
      (0 : Int) < (↑(List.map encFx l).length : Int) ∧
      In64
      ((l.getD ((↑(List.map encFx l).length : Int) - (1 : Int)).toNat default).t -
      (l.getD (Int.toNat (0 : Int)) default).t) ∧
      nth (nthR (List.map encFx l) ((↑(List.map encFx l).length : Int) - (1 : Int)).toNat)
      (0 : Nat) =
      AV.int IntKind.i64
      (l.getD ((↑(List.map encFx l).length : Int) - (1 : Int)).toNat default).t ∧
      nth (nthR (List.map encFx l) (0 : Nat)) (0 : Nat) =
      AV.int IntKind.i64 (l.getD (Int.toNat (0 : Int)) default).t ∧
      PCall Tryz.prog G0 (92 : Nat)
      [AV.bool
      (decide
      ((l.getD ((↑(List.map encFx l).length : Int) - (1 : Int)).toNat
      default).t -
      (l.getD (Int.toNat (0 : Int)) default).t >
      (1000 : Int))),
      AV.int IntKind.i64 (14 : Int)]
      (AV.int IntKind.i64
      (sWhen
      (decide
      ((l.getD ((↑(List.map encFx l).length : Int) - (1 : Int)).toNat
      default).t -
      (l.getD (Int.toNat (0 : Int)) default).t >
      (1000 : Int)))
      (14 : Int))) ∧
      AV.int IntKind.i64
      (sWhen
      (decide
      ((l.getD ((↑(List.map encFx l).length : Int) - (1 : Int)).toNat
      default).t -
      (l.getD (Int.toNat (0 : Int)) default).t >
      (1000 : Int)))
      (14 : Int)) =
      AV.int IntKind.i64 (sTrackS l))) := by
    repeat' (first | apply And.intro | intro _ | refine impB_iff.2 fun _ => ?_)
    all_goals try first
      | exact c92 _ _
      | exact c134 _ _ _ _ _
      | exact c87 [_, _] (by simp)
      | assumption
      | (simp only [decide_eq_true_eq, decide_eq_false_iff_not, List.length_map, maxI, minI, In64, Int.toNat_natCast, bne_iff_ne, ne_eq, beq_iff_eq, Bool.not_eq_true', Int.natCast_add, Int.cast_ofNat_Int] at *; omega)
      | (show (_ : Bool) = true; simp_all; done)
      | (rw [row_at _ (by simp only [decide_eq_true_eq, decide_eq_false_iff_not, List.length_map, maxI, minI, In64, Int.toNat_natCast, bne_iff_ne, ne_eq, beq_iff_eq, Bool.not_eq_true', Int.natCast_add, Int.cast_ofNat_Int] at *; omega)]; rfl)
    · rename_i h; exact av_int (ls_first h)
    · exact ⟨0, ⟨by omega, by intros; omega⟩, rfl⟩
    · rename_i h g hg hd hne; exact av_int (ls_hit (f := fTrackS l) h hd hg.2 hne)
    · rename_i h g hg hd hne; have := lt_of_dec hd; exact ⟨g + 1, ⟨this, all_succ (f := fTrackS l) hg.2 hne⟩, by omega, rfl⟩
    all_goals (rename_i h g hg hd)
    all_goals have hn := len_ge (n := (l.map encFx).length) h
    all_goals have hgn := ge_of_dec hd hg.1
    all_goals have ht := fun k (hk : k < g) => fTrackS_t (hg.2 k hk)
    all_goals have h1 := ht (lastOf (l.map encFx).length) (by unfold lastOf; omega)
    all_goals have h2 := ht 0 (by omega)
    all_goals unfold lastOf at h1
    all_goals first
      | omega
      | (simp only [Int.toNat_zero]; omega)
      | (rw [row_at _ (by rw [List.length_map] at hn; simp only [List.length_map]; omega)]; rfl)
      | exact congrArg (fun r => nth r 0) (row_at encFx (i := 0) (by rw [List.length_map] at hn; omega))
      | exact av_int (ls_end h hd hg.1 hg.2)
    
  exact c_of Tryz.f76 (mkB spA 76 [(6, 2, rdOr [rdL 5 encFx l 5 true]), (7, 0, rdOr [rdL 5 encFx l 5 true]), (7, 6, rdOr [rdL 5 encFx l 1 false]), (7, 13, rdOr [rdL 5 encFx l 1 false]), (11, 6, rdOr [rdL 5 encFx l 1 false]), (11, 10, rdOr [rdL 5 encFx l 1 false])] (fun i => if i.beq 0 then some (la76 l) else none)) (by kernel_rfl) (by kernel_rfl) (by kernel_rfl) (by kernel_rfl) key (by kernel_rfl)
def la33 (l : List Fx) : LA := {
  pre := [.keep [0, 4] [], .bound 1], post := [.keep [0, 4] [], .bound 1]
  Gh := Nat
  st := fun i => ⟨[(0, .sl 5 (l.map encFx)), (4, .i i)], [], 1⟩
  ok := fun i => i ≤ (l.map encFx).length ∧ ∀ k, k < i → fTrackR l k = 0
  ms := fun i => (l.map encFx).length - i }
theorem c33 (l : List Fx) (hl : (l.map encFx).length ≤ 1000000) : PCall Tryz.prog G0 33 [.sl 5 (l.map encFx)] (.i (sTrackR l)) := by
  have key :
      PCall Tryz.prog G0 (94 : Nat)
      [AV.bool (decide ((↑(List.map encFx l).length : Int) < (2 : Int))), AV.int IntKind.i64 (16 : Int)]
      (AV.int IntKind.i64 (sWhen (decide ((↑(List.map encFx l).length : Int) < (2 : Int))) (16 : Int))) ∧
      PCall Tryz.prog G0 (94 : Nat)
      [AV.bool (decide ((↑(List.map encFx l).length : Int) > (16 : Int))), AV.int IntKind.i64 (5 : Int)]
      (AV.int IntKind.i64 (sWhen (decide ((↑(List.map encFx l).length : Int) > (16 : Int))) (5 : Int))) ∧
      PCall Tryz.prog G0 (93 : Nat)
      [AV.sl (1 : Nat)
      [[AV.int IntKind.i64 (sWhen (decide ((↑(List.map encFx l).length : Int) < (2 : Int))) (16 : Int))],
      [AV.int IntKind.i64 (sWhen (decide ((↑(List.map encFx l).length : Int) > (16 : Int))) (5 : Int))]]]
      (AV.int IntKind.i64
      (sFirst
      [hdI [AV.int IntKind.i64 (sWhen (decide ((↑(List.map encFx l).length : Int) < (2 : Int))) (16 : Int))],
      hdI
      [AV.int IntKind.i64 (sWhen (decide ((↑(List.map encFx l).length : Int) > (16 : Int))) (5 : Int))]])) ∧
      ((sFirst
      [hdI
      [AV.int IntKind.i64 (sWhen (decide ((↑(List.map encFx l).length : Int) < (2 : Int))) (16 : Int))],
      hdI
      [AV.int IntKind.i64
      (sWhen (decide ((↑(List.map encFx l).length : Int) > (16 : Int))) (5 : Int))]] !=
      (0 : Int)) =
      true →
      AV.int IntKind.i64
      (sFirst
      [hdI
      [AV.int IntKind.i64 (sWhen (decide ((↑(List.map encFx l).length : Int) < (2 : Int))) (16 : Int))],
      hdI
      [AV.int IntKind.i64
      (sWhen (decide ((↑(List.map encFx l).length : Int) > (16 : Int))) (5 : Int))]]) =
      AV.int IntKind.i64 (sTrackR l)) ∧
      ((sFirst
      [hdI
      [AV.int IntKind.i64 (sWhen (decide ((↑(List.map encFx l).length : Int) < (2 : Int))) (16 : Int))],
      hdI
      [AV.int IntKind.i64
      (sWhen (decide ((↑(List.map encFx l).length : Int) > (16 : Int))) (5 : Int))]] !=
      (0 : Int)) =
      false →
      (∃ (g : Nat),
      (g ≤ (List.map encFx l).length ∧ ∀ (k : Nat), k < g → fTrackR l k = (0 : Int)) ∧
      AS.mk [((0 : Nat), AV.sl (5 : Nat) (List.map encFx l)), ((4 : Nat), AV.int IntKind.i64 (0 : Int))] []
      (1 : Nat) =
      AS.mk [((0 : Nat), AV.sl (5 : Nat) (List.map encFx l)), ((4 : Nat), AV.int IntKind.i64 (↑g : Int))]
      [] (1 : Nat)) ∧
      ∀ (g : Nat),
      (g ≤ (List.map encFx l).length ∧ ∀ (k : Nat), k < g → fTrackR l k = (0 : Int)) →
      (decide ((↑g : Int) < (↑(List.map encFx l).length : Int)) = true →
      (0 : Int) ≤ (↑g : Int) ∧
      (↑g : Int) < (↑(List.map encFx l).length : Int) ∧
      (0 : Int) ≤ (↑g : Int) ∧
      (↑g : Int) < (↑(List.map encFx l).length : Int) ∧
      (0 : Int) ≤ (↑g : Int) ∧
      (↑g : Int) < (↑(List.map encFx l).length : Int) ∧
      (decide ((↑g : Int) > (0 : Int)) = true → decide ((↑g : Int) > (0 : Int)) = true) ∧
      (decide ((↑g : Int) > (0 : Int)) = true → decide ((↑g : Int) > (0 : Int)) = true) ∧
      (decide ((↑g : Int) > (0 : Int)) = true → (0 : Int) ≤ (↑g : Int)) ∧
      (decide ((↑g : Int) > (0 : Int)) = true →
      (↑g : Int) < (↑(List.map encFx l).length : Int)) ∧
      (decide ((↑g : Int) > (0 : Int)) = true →
      decide ((↑g : Int) > (0 : Int)) = true) ∧
      (decide ((↑g : Int) > (0 : Int)) = true →
      decide ((↑g : Int) > (0 : Int)) = true) ∧
      (decide ((↑g : Int) > (0 : Int)) = true →
      decide ((↑g : Int) > (0 : Int)) = true) ∧
      (decide ((↑g : Int) > (0 : Int)) = true →
      In64 ((↑g : Int) - (1 : Int))) ∧
      (decide ((↑g : Int) > (0 : Int)) = true →
      decide ((↑g : Int) > (0 : Int)) = true) ∧
      (decide ((↑g : Int) > (0 : Int)) = true →
      decide ((↑g : Int) > (0 : Int)) = true) ∧
      (decide ((↑g : Int) > (0 : Int)) = true →
      decide ((↑g : Int) > (0 : Int)) = true) ∧
      (decide ((↑g : Int) > (0 : Int)) = true →
      (0 : Int) ≤ maxI (0 : Int) ((↑g : Int) - (1 : Int))) ∧
      (decide ((↑g : Int) > (0 : Int)) = true →
      maxI (0 : Int) ((↑g : Int) - (1 : Int)) <
      (↑(List.map encFx l).length : Int)) ∧
      (decide ((↑g : Int) > (0 : Int)) = true →
      decide ((↑g : Int) > (0 : Int)) = true) ∧
      (decide ((↑g : Int) > (0 : Int)) = true →
      decide ((↑g : Int) > (0 : Int)) = true) ∧
      (decide ((↑g : Int) > (0 : Int)) = true →
      decide ((↑g : Int) > (0 : Int)) = true) ∧
      (decide ((↑g : Int) > (0 : Int)) = true →
      decide ((↑g : Int) > (0 : Int)) = true) ∧
      (decide ((↑g : Int) > (0 : Int)) = true →
      decide ((↑g : Int) > (0 : Int)) = true) ∧
      nth (nthR (List.map encFx l) (↑g : Int).toNat)
      (0 : Nat) =
      AV.int IntKind.i64
      (l.getD (↑g : Int).toNat default).t ∧
      PCall Tryz.prog G0 (20 : Nat)
      [AV.int IntKind.i64
      (l.getD (↑g : Int).toNat default).t]
      (AV.int IntKind.i64
      (sWithin
      (l.getD (↑g : Int).toNat default).t
      (0 : Int) (100000000 : Int))) ∧
      AV.agg
      (List.take (3 : Nat)
      (List.drop (1 : Nat)
      (nthR (List.map encFx l)
      (↑g : Int).toNat))) =
      AV.agg
      [AV.int IntKind.i64
      (l.getD (↑g : Int).toNat default).x,
      AV.int IntKind.i64
      (l.getD (↑g : Int).toNat default).y,
      AV.int IntKind.i64
      (l.getD (↑g : Int).toNat
      default).z] ∧
      PCall Tryz.prog G0 (35 : Nat)
      [AV.agg
      [AV.int IntKind.i64
      (l.getD (↑g : Int).toNat
      default).x,
      AV.int IntKind.i64
      (l.getD (↑g : Int).toNat
      default).y,
      AV.int IntKind.i64
      (l.getD (↑g : Int).toNat
      default).z]]
      (AV.int IntKind.i64
      (sPlace
      (l.getD (↑g : Int).toNat default).x
      (l.getD (↑g : Int).toNat default).y
      (l.getD (↑g : Int).toNat
      default).z)) ∧
      nth
      (nthR (List.map encFx l)
      (↑g : Int).toNat)
      (4 : Nat) =
      AV.int IntKind.i64
      (l.getD (↑g : Int).toNat
      default).p ∧
      PCall Tryz.prog G0 (44 : Nat)
      [AV.int IntKind.i64
      (l.getD (↑g : Int).toNat
      default).p]
      (AV.int IntKind.i64
      (sPower
      (l.getD (↑g : Int).toNat
      default).p)) ∧
      impB (decide ((↑g : Int) > (0 : Int)))
      (nth
      (nthR (List.map encFx l)
      (↑g : Int).toNat)
      (0 : Nat) =
      AV.int IntKind.i64
      (l.getD (↑g : Int).toNat
      default).t) ∧
      impB
      (decide
      ((↑g : Int) > (0 : Int)))
      (nth
      (nthR (List.map encFx l)
      (maxI (0 : Int)
      ((↑g : Int) -
      (1 : Int))).toNat)
      (0 : Nat) =
      AV.int IntKind.i64
      (l.getD
      (maxI (0 : Int)
      ((↑g : Int) -
      (1 : Int))).toNat
      default).t) ∧
      PCall Tryz.prog G0 (94 : Nat)
      [AV.bool
      (if
      decide
      ((↑g : Int) >
      (0 : Int)) =
      true then
      decide
      ((l.getD
      (↑g : Int).toNat
      default).t ≤
      (l.getD
      (maxI (0 : Int)
      ((↑g :
      Int) -
      (1 :
      Int))).toNat
      default).t)
      else false),
      AV.int IntKind.i64
      (11 : Int)]
      (AV.int IntKind.i64
      (sWhen
      (if
      decide
      ((↑g : Int) >
      (0 : Int)) =
      true then
      decide
      ((l.getD
      (↑g : Int).toNat
      default).t ≤
      (l.getD
      (maxI (0 : Int)
      ((↑g :
      Int) -
      (1 :
      Int))).toNat
      default).t)
      else false)
      (11 : Int))) ∧
      PCall Tryz.prog G0 (93 : Nat)
      [AV.sl (1 : Nat)
      [[AV.int IntKind.i64
      (sWithin
      (l.getD
      (↑g :
      Int).toNat
      default).t
      (0 : Int)
      (100000000 :
      Int))],
      [AV.int IntKind.i64
      (sPlace
      (l.getD
      (↑g :
      Int).toNat
      default).x
      (l.getD
      (↑g :
      Int).toNat
      default).y
      (l.getD
      (↑g :
      Int).toNat
      default).z)],
      [AV.int IntKind.i64
      (sPower
      (l.getD
      (↑g :
      Int).toNat
      default).p)],
      [AV.int IntKind.i64
      (sWhen
      (if
      decide
      ((↑g :
      Int) >
      (0 :
      Int)) =
      true then
      decide
      ((l.getD
      (↑g :
      Int).toNat
      default).t ≤
      (l.getD
      (maxI
      (0 :
      Int)
      ((↑g :
      Int) -
      (1 :
      Int))).toNat
      default).t)
      else false)
      (11 : Int))]]]
      (AV.int IntKind.i64
      (sFirst
      [hdI
      [AV.int IntKind.i64
      (sWithin
      (l.getD
      (↑g :
      Int).toNat
      default).t
      (0 : Int)
      (100000000 :
      Int))],
      hdI
      [AV.int IntKind.i64
      (sPlace
      (l.getD
      (↑g :
      Int).toNat
      default).x
      (l.getD
      (↑g :
      Int).toNat
      default).y
      (l.getD
      (↑g :
      Int).toNat
      default).z)],
      hdI
      [AV.int IntKind.i64
      (sPower
      (l.getD
      (↑g :
      Int).toNat
      default).p)],
      hdI
      [AV.int IntKind.i64
      (sWhen
      (if
      decide
      ((↑g :
      Int) >
      (0 :
      Int)) =
      true then
      decide
      ((l.getD
      (↑g :
      Int).toNat
      default).t ≤
      (l.getD
      (maxI
      (0 :
      Int)
      ((↑g :
      Int) -
      (1 :
      Int))).toNat
      default).t)
      else false)
      (11 :
      Int))]])) ∧
      ((sFirst
      [hdI
      [AV.int
      IntKind.i64
      (sWithin
      (l.getD
      (↑g :
      Int).toNat
      default).t
      (0 : Int)
      (100000000 :
      Int))],
      hdI
      [AV.int
      IntKind.i64
      (sPlace
      (l.getD
      (↑g :
      Int).toNat
      default).x
      (l.getD
      (↑g :
      Int).toNat
      default).y
      (l.getD
      (↑g :
      Int).toNat
      default).z)],
      hdI
      [AV.int
      IntKind.i64
      (sPower
      (l.getD
      (↑g :
      Int).toNat
      default).p)],
      hdI
      [AV.int
      IntKind.i64
      (sWhen
      (if
      decide
      ((↑g :
      Int) >
      (0 :
      Int)) =
      true then
      decide
      ((l.getD
      (↑g :
      Int).toNat
      default).t ≤
      (l.getD
      (maxI
      (0 :
      Int)
      ((↑g :
      Int) -
      (1 :
      Int))).toNat
      default).t)
      else
      false)
      (11 :
      Int))]] !=
      (0 : Int)) =
      true →
      AV.int IntKind.i64
      (sFirst
      [hdI
      [AV.int
      IntKind.i64
      (sWithin
      (l.getD
      (↑g :
      Int).toNat
      default).t
      (0 : Int)
      (100000000 :
      Int))],
      hdI
      [AV.int
      IntKind.i64
      (sPlace
      (l.getD
      (↑g :
      Int).toNat
      default).x
      (l.getD
      (↑g :
      Int).toNat
      default).y
      (l.getD
      (↑g :
      Int).toNat
      default).z)],
      hdI
      [AV.int
      IntKind.i64
      (sPower
      (l.getD
      (↑g :
      Int).toNat
      default).p)],
      hdI
      [AV.int
      IntKind.i64
      (sWhen
      (if
      decide
      ((↑g :
      Int) >
      (0 :
      Int)) =
      true then
      decide
      ((l.getD
      (↑g :
      Int).toNat
      default).t ≤
      (l.getD
      (maxI
      (0 :
      Int)
      ((↑g :
      Int) -
      (1 :
      Int))).toNat
      default).t)
      else
      false)
      (11 :
      Int))]]) =
      AV.int IntKind.i64
      (sTrackR l)) ∧
      ((sFirst
      [hdI
      [AV.int
      IntKind.i64
      (sWithin
      (l.getD
      (↑g :
      Int).toNat
      default).t
      (0 : Int)
      (100000000 :
      Int))],
      hdI
      [AV.int
      IntKind.i64
      (sPlace
      (l.getD
      (↑g :
      Int).toNat
      default).x
      (l.getD
      (↑g :
      Int).toNat
      default).y
      (l.getD
      (↑g :
      Int).toNat
      default).z)],
      hdI
      [AV.int
      IntKind.i64
      (sPower
      (l.getD
      (↑g :
      Int).toNat
      default).p)],
      hdI
      [AV.int
      IntKind.i64
      (sWhen
      (if
      decide
      ((↑g :
      Int) >
      (0 :
      Int)) =
      true then
      decide
      ((l.getD
      (↑g :
      Int).toNat
      default).t ≤
      (l.getD
      (maxI
      (0 :
      Int)
      ((↑g :
      Int) -
      (1 :
      Int))).toNat
      default).t)
      else
      false)
      (11 :
      Int))]] !=
      (0 : Int)) =
      false →
      In64
      ((↑g : Int) +
      (1 : Int)) ∧
      ∃ (g' : Nat),
      (g' ≤
      (List.map encFx
      l).length ∧
      ∀ (k : Nat),
      k < g' →
      fTrackR l k =
      (0 : Int)) ∧
      (List.map encFx
      l).length -
      g' <
      (List.map encFx
      l).length -
      g ∧
      AS.mk
      [((0 : Nat),
      AV.sl
      (5 :
      Nat)
      (List.map
      encFx
      l)),
      ((4 : Nat),
      AV.int
      IntKind.i64
      ((↑g :
      Int) +
      (1 :
      Int)))]
      [] (1 : Nat) =
      AS.mk
      [((0 : Nat),
      AV.sl
      (5 :
      Nat)
      (List.map
      encFx
      l)),
      ((4 : Nat),
      AV.int
      IntKind.i64
      (↑g' :
      Int))]
      []
      (1 : Nat))) ∧
      (decide ((↑g : Int) < (↑(List.map encFx l).length : Int)) = false →
      In64 ((↑(List.map encFx l).length : Int) - (1 : Int)) ∧
      (0 : Int) ≤ (↑(List.map encFx l).length : Int) - (1 : Int) ∧
      (↑(List.map encFx l).length : Int) - (1 : Int) < (↑(List.map encFx l).length : Int) ∧
      (0 : Int) ≤ (0 : Int) ∧
      (0 : Int) < (↑(List.map encFx l).length : Int) ∧
      In64
      ((l.getD ((↑(List.map encFx l).length : Int) - (1 : Int)).toNat default).t -
      (l.getD (Int.toNat (0 : Int)) default).t) ∧
      nth (nthR (List.map encFx l) ((↑(List.map encFx l).length : Int) - (1 : Int)).toNat)
      (0 : Nat) =
      AV.int IntKind.i64
      (l.getD ((↑(List.map encFx l).length : Int) - (1 : Int)).toNat default).t ∧
      nth (nthR (List.map encFx l) (0 : Nat)) (0 : Nat) =
      AV.int IntKind.i64 (l.getD (Int.toNat (0 : Int)) default).t ∧
      PCall Tryz.prog G0 (94 : Nat)
      [AV.bool
      (decide
      ((l.getD ((↑(List.map encFx l).length : Int) - (1 : Int)).toNat
      default).t -
      (l.getD (Int.toNat (0 : Int)) default).t >
      (1000 : Int))),
      AV.int IntKind.i64 (14 : Int)]
      (AV.int IntKind.i64
      (sWhen
      (decide
      ((l.getD ((↑(List.map encFx l).length : Int) - (1 : Int)).toNat
      default).t -
      (l.getD (Int.toNat (0 : Int)) default).t >
      (1000 : Int)))
      (14 : Int))) ∧
      AV.int IntKind.i64
      (sWhen
      (decide
      ((l.getD ((↑(List.map encFx l).length : Int) - (1 : Int)).toNat
      default).t -
      (l.getD (Int.toNat (0 : Int)) default).t >
      (1000 : Int)))
      (14 : Int)) =
      AV.int IntKind.i64 (sTrackR l))) := by
    repeat' (first | apply And.intro | intro _ | refine impB_iff.2 fun _ => ?_)
    all_goals try first
      | exact c94 _ _
      | exact c20 _
      | exact c35 _ _ _
      | exact c44 _
      | exact c93 [_, _] (by simp)
      | exact c93 [_, _, _, _] (by simp)
      | assumption
      | (simp only [decide_eq_true_eq, decide_eq_false_iff_not, List.length_map, maxI, minI, In64, Int.toNat_natCast, bne_iff_ne, ne_eq, beq_iff_eq, Bool.not_eq_true', Int.natCast_add, Int.cast_ofNat_Int] at *; omega)
      | (show (_ : Bool) = true; simp_all; done)
      | (rw [row_at _ (by simp only [decide_eq_true_eq, decide_eq_false_iff_not, List.length_map, maxI, minI, In64, Int.toNat_natCast, bne_iff_ne, ne_eq, beq_iff_eq, Bool.not_eq_true', Int.natCast_add, Int.cast_ofNat_Int] at *; omega)]; rfl)
    · rename_i h; exact av_int (ls_first h)
    · exact ⟨0, ⟨by omega, by intros; omega⟩, rfl⟩
    · rename_i h g hg hd hne; exact av_int (ls_hit (f := fTrackR l) h hd hg.2 hne)
    · rename_i h g hg hd hne; have := lt_of_dec hd; exact ⟨g + 1, ⟨this, all_succ (f := fTrackR l) hg.2 hne⟩, by omega, rfl⟩
    all_goals (rename_i h g hg hd)
    all_goals have hn := len_ge (n := (l.map encFx).length) h
    all_goals have hgn := ge_of_dec hd hg.1
    all_goals have ht := fun k (hk : k < g) => fTrackR_t (hg.2 k hk)
    all_goals have h1 := ht (lastOf (l.map encFx).length) (by unfold lastOf; omega)
    all_goals have h2 := ht 0 (by omega)
    all_goals unfold lastOf at h1
    all_goals first
      | omega
      | (simp only [Int.toNat_zero]; omega)
      | (rw [row_at _ (by rw [List.length_map] at hn; simp only [List.length_map]; omega)]; rfl)
      | exact congrArg (fun r => nth r 0) (row_at encFx (i := 0) (by rw [List.length_map] at hn; omega))
      | exact av_int (ls_end h hd hg.1 hg.2)
  exact c_of Tryz.f33 (mkB spA 33 [(7, 4, rdOr [rdL 5 encFx l 1 false]), (7, 10, rdOr [rdL 5 encFx l 3 true]), (7, 16, rdOr [rdL 5 encFx l 1 false]), (7, 25, rdOr [rdL 5 encFx l 1 false]), (7, 32, rdOr [rdL 5 encFx l 1 false]), (10, 6, rdOr [rdL 5 encFx l 1 false]), (10, 10, rdOr [rdL 5 encFx l 1 false])] (fun i => if i.beq 0 then some (la33 l) else none)) (by kernel_rfl) (by kernel_rfl) (by kernel_rfl) (by kernel_rfl) key (by kernel_rfl)
end Go.Proofs.YtjhjmncjidbieaaGreatDoor
namespace Go.Proofs.YtjhjmncjidbieaaGreatDoor
open Go Go.Av Go.RowKit Go.ChangeShapes Go.WideShapes
theorem hA : PCall Tryz.prog G0 13 [] (.bool true) := awc115
theorem laidOut : laidOutB Tryz.prog = true := by kernel_rfl
theorem own : ownKnob Tryz.prog.godebug = none := by kernel_rfl
def laid5 : List (String × DataW Unit) := Rows.sourcePathsRow.laid
/-- The door's own heap meets the condition. -/
theorem door_met (os : Os) (args : Array Value) : laidMetH Tryz.prog laid5 ((World.doorLaid Tryz.prog 400 os).forCall (fun _ _ => 0) ⟨#[], args, []⟩).memory :=
  laidMetH_of_parts3 (fuel := 8) (laidMet_of_run' 8 (by kernel_rfl) (by kernel_rfl)) (by kernel_rfl) (by kernel_rfl)
theorem globs {W : World} (h : laidMetH Tryz.prog laid5 W) : ∀ g cells, lk g G0 = some cells → GlobOK NoX W g cells := by
  rw [MakeChecks.laidMetH_plain _ _ _ (by kernel_rfl)] at h
  obtain ⟨ps, hl, _⟩ := h
  have m0 := laid_glob (T := T0) tok (n := 8) (name := "flyover/flyoverlaw02.turned") (d := Rows.laid_flyover_flyoverlaw02_turned) (g := 0) (t := 165) (cells := nthR (G0.map (·.2)) 0) (by kernel_rfl) (by kernel_rfl) (by kernel_rfl) (by kernel_rfl) (by kernel_rfl) (by simp [nthR, G0]) (laid := laid5) (ps := ps) (by simp [laid5, Rows.sourcePathsRow]) hl
  have m1 := laid_glob (T := T0) tok (n := 8) (name := "flyover/source.words") (d := Rows.laid_flyover_source_words) (g := 1) (t := 219) (cells := nthR (G0.map (·.2)) 1) (by kernel_rfl) (by kernel_rfl) (by kernel_rfl) (by kernel_rfl) (by kernel_rfl) (by simp [nthR, G0]) (laid := laid5) (ps := ps) (by simp [laid5, Rows.sourcePathsRow]) hl
  have m4 := laid_glob (T := T0) tok (n := 8) (name := "internal/strconv.uint64pow10") (d := Rows.laid_internal_strconv_uint64pow10) (g := 4) (t := 285) (cells := nthR (G0.map (·.2)) 2) (by kernel_rfl) (by kernel_rfl) (by kernel_rfl) (by kernel_rfl) (by kernel_rfl) (by simp [nthR, G0]) (laid := laid5) (ps := ps) (by simp [laid5, Rows.sourcePathsRow]) hl
  intro g cells hg
  obtain ⟨u, hu, e1⟩ := lk_mem hg
  subst e1
  simp only [G0, List.mem_cons, List.not_mem_nil, or_false, Prod.mk.injEq] at hu
  rcases hu with ⟨rfl, rfl⟩ | ⟨rfl, rfl⟩ | ⟨rfl, rfl⟩
  · exact m0
  · exact m1
  · exact m4
theorem wf64 {x : Int} (h : (Lit.int .i64 x).wf = true) : In64 x := by
  simp only [Lit.wf, Bool.and_eq_true, decide_eq_true_eq] at h
  exact h
theorem pt_of {n : Nat} {r : List AV} (hn : shapeT T0 n 85 = [.int .i64, .int .i64]) (hp : plainT T0 n 85 = true) (h : ASh T0 n 85 r) : ∃ x : Pt, r = encPt x ∧ In64 x.x ∧ In64 x.y := by
  have := ash_shape n 85 r hp h
  rw [hn] at this
  obtain ⟨_, _, rfl, ⟨x, rfl, hx⟩, _, _, rfl, ⟨y, rfl, hy⟩, rfl⟩ := this
  exact ⟨⟨x, y⟩, rfl, wf64 hx, wf64 hy⟩
theorem st_of {n : Nat} {r : List AV} (hn : shapeT T0 n 81 = [.int .i64, .int .i64, .int .i64]) (hp : plainT T0 n 81 = true) (h : ASh T0 n 81 r) : ∃ x : St, r = encSt x ∧ In64 x.a ∧ In64 x.h ∧ In64 x.p := by
  have := ash_shape n 81 r hp h
  rw [hn] at this
  obtain ⟨_, _, rfl, ⟨x, rfl, hx⟩, _, _, rfl, ⟨y, rfl, hy⟩, _, _, rfl, ⟨z, rfl, hz⟩, rfl⟩ := this
  exact ⟨⟨x, y, z⟩, rfl, wf64 hx, wf64 hy, wf64 hz⟩
/-- A path, as an argument. -/
theorem path_arg {a : AV} (h : ASh1 T0 8 22 a) : ∃ l : List Pt, a = .sl 2 (l.map encPt) ∧ l.length ≤ maxLen ∧ ∀ x, x ∈ l → In64 x.x ∧ In64 x.y := by
  obtain ⟨rows, rfl, hl, hr⟩ := ash1_one (c := .sl 7 85 2) (ti := ⟨(.slice 85 2 16), 1, 24, false, [.ex (.slice none 0 0)], false⟩) (by kernel_rfl) rfl (by kernel_rfl) (by kernel_rfl) h
  obtain ⟨l, rfl, hq⟩ := rows_enc (enc := encPt) (Q := fun x => In64 x.x ∧ In64 x.y) (fun r hm => pt_of (by kernel_rfl) (by kernel_rfl) (hr r hm))
  exact ⟨l, rfl, by simpa using hl, hq⟩
/-- Steps, as an argument. -/
theorem steps_arg {a : AV} (h : ASh1 T0 8 23 a) : ∃ l : List St, a = .sl 3 (l.map encSt) ∧ l.length ≤ maxLen ∧ ∀ x, x ∈ l → In64 x.a ∧ In64 x.h ∧ In64 x.p := by
  obtain ⟨rows, rfl, hl, hr⟩ := ash1_one (c := .sl 7 81 3) (ti := ⟨(.slice 81 3 24), 1, 24, false, [.ex (.slice none 0 0)], false⟩) (by kernel_rfl) rfl (by kernel_rfl) (by kernel_rfl) h
  obtain ⟨l, rfl, hq⟩ := rows_enc (enc := encSt) (Q := fun x => In64 x.a ∧ In64 x.h ∧ In64 x.p) (fun r hm => st_of (by kernel_rfl) (by kernel_rfl) (hr r hm))
  exact ⟨l, rfl, by simpa using hl, hq⟩
/-- Two ints, as an argument. -/
theorem two_arg {a : AV} (h : ASh1 T0 8 24 a) : ∃ x y : Int, a = .agg [.i x, .i y] ∧ In64 x ∧ In64 y := by
  obtain ⟨l, rfl, h2⟩ := ash1_agg (cs := [.int .i64, .int .i64]) (ti := ⟨(.arr 2 3 1), 2, 16, true, [.int .i64 0, .int .i64 0], true⟩) (by kernel_rfl) rfl (by kernel_rfl) (by kernel_rfl) h
  obtain ⟨_, _, rfl, ⟨x, rfl, hx⟩, _, _, rfl, ⟨y, rfl, hy⟩, rfl⟩ := h2
  exact ⟨x, y, rfl, wf64 hx, wf64 hy⟩
end Go.Proofs.YtjhjmncjidbieaaGreatDoor
namespace Go.Proofs.YtjhjmncjidbieaaGreatDoor
open Go Go.Av Go.RowKit
def sBetween (a b p w : Int) : Int := a + sFloor ((b - a) * p) w
theorem mul_bound {x y A B : Int} (h1 : -A ≤ x) (h2 : x ≤ A) (h3 : -B ≤ y) (h4 : y ≤ B) : -(A * B) ≤ x * y ∧ x * y ≤ A * B := by
  have hx : x.natAbs ≤ A.natAbs := by omega
  have hy : y.natAbs ≤ B.natAbs := by omega
  have := Nat.mul_le_mul hx hy
  rw [← Int.natAbs_mul, ← Int.natAbs_mul] at this
  have hA : 0 ≤ A * B := Int.mul_nonneg (by omega) (by omega)
  omega
theorem floor_in {n d : Int} (hd : 0 < d) (h1 : -2000000000000000000 ≤ n) (h2 : n ≤ 2000000000000000000) :
    In64 (n.tdiv d) ∧ In64 (n.tdiv d * d) ∧ In64 (n.tdiv d - 1) ∧ -2000000000000000001 ≤ sFloor n d ∧ sFloor n d ≤ 2000000000000000000 := by
  have e := Int.mul_tdiv_add_tmod n d
  have e2 : n.tdiv d * d = d * n.tdiv d := Int.mul_comm _ _
  have h3 : n.tmod d < d := Int.tmod_lt_of_pos n hd
  have h4 : -d < n.tmod d := by
    have := Int.tmod_lt_of_pos (-n) hd
    rw [Int.neg_tmod] at this
    omega
  have h5 : (n.tdiv d).natAbs ≤ n.natAbs := by rw [Int.natAbs_tdiv]; exact Nat.div_le_self _ _
  have h6 : (n.tmod d).natAbs ≤ n.natAbs := by rw [Int.natAbs_tmod]; exact Nat.mod_le _ _
  unfold In64 sFloor
  refine ⟨by omega, by omega, by omega, ?_⟩
  split <;> omega
def spC : Nat → List AV → Option AV
  | 142, [.int _ a, .int _ b, .int _ p, .int _ w] => some (.i (sBetween a b p w))
  | 97, [.int _ a, .int _ b, .int _ p, .int _ w] => some (.i (sBetween a b p w))
  | n, l => spB n l
structure BetOK (a b p w : Int) : Prop where
  a1 : -1000000000 ≤ a
  a2 : a ≤ 1000000000
  b1 : -1000000000 ≤ b - a
  b2 : b - a ≤ 1000000000
  p1 : -1000000000 ≤ p
  p2 : p ≤ 1000000000
  w : 0 < w
theorem c142 (a b p w : Int) (h : BetOK a b p w) : PCall Tryz.prog G0 142 [.i a, .i b, .i p, .i w] (.i (sBetween a b p w)) := by
  have key :
      In64 (b - a) ∧
      In64 ((b - a) * p) ∧
      In64 (a + sFloor ((b - a) * p) w) ∧
      PCall Tryz.prog G0 (91 : Nat) [AV.int IntKind.i64 ((b - a) * p), AV.int IntKind.i64 w]
      (AV.int IntKind.i64 (sFloor ((b - a) * p) w)) ∧
      AV.int IntKind.i64 (a + sFloor ((b - a) * p) w) = AV.int IntKind.i64 (sBetween a b p w) := by
    have hm := mul_bound h.b1 h.b2 h.p1 h.p2
    have hf := floor_in (n := (b - a) * p) h.w (by omega) (by omega)
    have ha1 := h.a1
    have ha2 := h.a2
    have hb1 := h.b1
    have hb2 := h.b2
    exact ⟨by unfold In64; omega, by unfold In64; omega, by unfold In64; omega, c91 _ _ (by have := h.w; omega) hf.1 hf.2.1 hf.2.2.1, rfl⟩
  exact c_of Tryz.f142 (mkB spC 142 [] noLa) (by kernel_rfl) (by kernel_rfl) (by kernel_rfl) (by kernel_rfl) key (by kernel_rfl)
theorem c97 (a b p w : Int) (h : BetOK a b p w) : PCall Tryz.prog G0 97 [.i a, .i b, .i p, .i w] (.i (sBetween a b p w)) := by
  have key :
      In64 (b - a) ∧
      In64 ((b - a) * p) ∧
      In64 (a + sFloor ((b - a) * p) w) ∧
      PCall Tryz.prog G0 (143 : Nat) [AV.int IntKind.i64 ((b - a) * p), AV.int IntKind.i64 w]
      (AV.int IntKind.i64 (sFloor ((b - a) * p) w)) ∧
      AV.int IntKind.i64 (a + sFloor ((b - a) * p) w) = AV.int IntKind.i64 (sBetween a b p w) := by
    have hm := mul_bound h.b1 h.b2 h.p1 h.p2
    have hf := floor_in (n := (b - a) * p) h.w (by omega) (by omega)
    have ha1 := h.a1
    have ha2 := h.a2
    have hb1 := h.b1
    have hb2 := h.b2
    exact ⟨by unfold In64; omega, by unfold In64; omega, by unfold In64; omega, c143 _ _ (by have := h.w; omega) hf.1 hf.2.1 hf.2.2.1, rfl⟩
  exact c_of Tryz.f97 (mkB spC 97 [] noLa) (by kernel_rfl) (by kernel_rfl) (by kernel_rfl) (by kernel_rfl) key (by kernel_rfl)
/-- The step at a length, from the i-th on. -/
def sStepF (p : List St) (along : Int) : Nat → Nat → St
  | 0, _ => p.getD (lastOf (p.map encSt).length) default
  | n + 1, i => if decide (along < (p.getD (i + 1) default).a) = true then
      ⟨along, sBetween (p.getD i default).h (p.getD (i + 1) default).h (along - (p.getD i default).a) ((p.getD (i + 1) default).a - (p.getD i default).a),
        sBetween (p.getD i default).p (p.getD (i + 1) default).p (along - (p.getD i default).a) ((p.getD (i + 1) default).a - (p.getD i default).a)⟩ else sStepF p along n (i + 1)
def sStep (p : List St) (along : Int) : St := sStepF p along ((p.map encSt).length - 1) 0
def la90 (p : List St) (along : Int) : LA := {
  pre := [.keep [0, 1, 4, 5, 19, 20] [1, 8], .bound 9], post := [.keep [0, 1, 4, 5, 19, 20] [1, 8], .bound 9]
  Gh := Nat
  st := fun i => ⟨[(0, .sl 3 (p.map encSt)), (1, .i along), (4, .ptr 1 0), (5, .ptr 8 0), (19, .i ((p.map encSt).length - 1)), (20, .i i)],
    [(1, .box [.i 0, .i 0, .i 0]), (8, .box (encSt (p.getD (lastOf (p.map encSt).length) default)))], 9⟩
  ok := fun i => i + 1 ≤ (p.map encSt).length ∧ sStep p along = sStepF p along ((p.map encSt).length - 1 - i) i
  ms := fun i => (p.map encSt).length - i }
structure ProcOK (l : List St) : Prop where
  n1 : 2 ≤ l.length
  n2 : l.length ≤ 8
  b : ∀ i, i < l.length → 0 ≤ (l.getD i default).a ∧ (l.getD i default).a ≤ 400000 ∧ 0 ≤ (l.getD i default).h ∧ (l.getD i default).h ≤ 20000 ∧ 1 ≤ (l.getD i default).p ∧ (l.getD i default).p ≤ 100
  s : ∀ i, i + 1 < l.length → (l.getD i default).a < (l.getD (i + 1) default).a
  z : (l.getD 0 default).a = 0
theorem c90 (p : List St) (along : Int) (hv : ProcOK p) (ha : 0 ≤ along) (ha2 : along ≤ 10000000) : PCall Tryz.prog G0 90 [.sl 3 (p.map encSt), .i along] (.agg (encSt (sStep p along))) := by
  have key :
      In64 ((↑(List.map encSt p).length : Int) - (1 : Int)) ∧
      (0 : Int) ≤ (↑(List.map encSt p).length : Int) - (1 : Int) ∧
      (↑(List.map encSt p).length : Int) - (1 : Int) < (↑(List.map encSt p).length : Int) ∧
      AV.agg (nthR (List.map encSt p) ((↑(List.map encSt p).length : Int) - (1 : Int)).toNat) =
      AV.agg
      [AV.int IntKind.i64 (p.getD ((↑(List.map encSt p).length : Int) - (1 : Int)).toNat default).a,
      AV.int IntKind.i64 (p.getD ((↑(List.map encSt p).length : Int) - (1 : Int)).toNat default).h,
      AV.int IntKind.i64 (p.getD ((↑(List.map encSt p).length : Int) - (1 : Int)).toNat default).p] ∧
      In64 ((↑(List.map encSt p).length : Int) - (1 : Int)) ∧
      (∃ (g : Nat),
      (g + (1 : Nat) ≤ (List.map encSt p).length ∧
      sStep p along = sStepF p along ((List.map encSt p).length - (1 : Nat) - g) g) ∧
      AS.mk
      [((0 : Nat), AV.sl (3 : Nat) (List.map encSt p)), ((1 : Nat), AV.int IntKind.i64 along),
      ((4 : Nat), AV.ptr (1 : Nat) (0 : Nat)), ((5 : Nat), AV.ptr (8 : Nat) (0 : Nat)),
      ((19 : Nat), AV.int IntKind.i64 ((↑(List.map encSt p).length : Int) - (1 : Int))),
      ((20 : Nat), AV.int IntKind.i64 (0 : Int))]
      [((1 : Nat),
      ABlk.box
      [AV.int IntKind.i64 (0 : Int), AV.int IntKind.i64 (0 : Int), AV.int IntKind.i64 (0 : Int)]),
      ((8 : Nat),
      ABlk.box
      [AV.int IntKind.i64
      (p.getD ((↑(List.map encSt p).length : Int) - (1 : Int)).toNat default).a,
      AV.int IntKind.i64
      (p.getD ((↑(List.map encSt p).length : Int) - (1 : Int)).toNat default).h,
      AV.int IntKind.i64
      (p.getD ((↑(List.map encSt p).length : Int) - (1 : Int)).toNat default).p])]
      (9 : Nat) =
      AS.mk
      [((0 : Nat), AV.sl (3 : Nat) (List.map encSt p)), ((1 : Nat), AV.int IntKind.i64 along),
      ((4 : Nat), AV.ptr (1 : Nat) (0 : Nat)), ((5 : Nat), AV.ptr (8 : Nat) (0 : Nat)),
      ((19 : Nat), AV.int IntKind.i64 ((↑(List.map encSt p).length : Int) - (1 : Int))),
      ((20 : Nat), AV.int IntKind.i64 (↑g : Int))]
      [((1 : Nat),
      ABlk.box
      [AV.int IntKind.i64 (0 : Int), AV.int IntKind.i64 (0 : Int), AV.int IntKind.i64 (0 : Int)]),
      ((8 : Nat),
      ABlk.box
      [AV.int IntKind.i64 (p.getD (lastOf (List.map encSt p).length) default).a,
      AV.int IntKind.i64 (p.getD (lastOf (List.map encSt p).length) default).h,
      AV.int IntKind.i64 (p.getD (lastOf (List.map encSt p).length) default).p])]
      (9 : Nat)) ∧
      ∀ (g : Nat),
      g + (1 : Nat) ≤ (List.map encSt p).length ∧
      sStep p along = sStepF p along ((List.map encSt p).length - (1 : Nat) - g) g →
      (decide ((↑g : Int) < (↑(List.map encSt p).length : Int) - (1 : Int)) = true →
      (0 : Int) ≤ (↑g : Int) ∧
      (↑g : Int) < (↑(List.map encSt p).length : Int) ∧
      In64 ((↑g : Int) + (1 : Int)) ∧
      (0 : Int) ≤ (↑g : Int) + (1 : Int) ∧
      (↑g : Int) + (1 : Int) < (↑(List.map encSt p).length : Int) ∧
      AV.agg (nthR (List.map encSt p) (↑g : Int).toNat) =
      AV.agg
      [AV.int IntKind.i64 (p.getD (↑g : Int).toNat default).a,
      AV.int IntKind.i64 (p.getD (↑g : Int).toNat default).h,
      AV.int IntKind.i64 (p.getD (↑g : Int).toNat default).p] ∧
      AV.agg (nthR (List.map encSt p) ((↑g : Int) + (1 : Int)).toNat) =
      AV.agg
      [AV.int IntKind.i64 (p.getD ((↑g : Int) + (1 : Int)).toNat default).a,
      AV.int IntKind.i64 (p.getD ((↑g : Int) + (1 : Int)).toNat default).h,
      AV.int IntKind.i64 (p.getD ((↑g : Int) + (1 : Int)).toNat default).p] ∧
      (decide (along < (p.getD ((↑g : Int) + (1 : Int)).toNat default).a) = true →
      In64 (along - (p.getD (↑g : Int).toNat default).a) ∧
      In64
      ((p.getD ((↑g : Int) + (1 : Int)).toNat default).a -
      (p.getD (↑g : Int).toNat default).a) ∧
      PCall Tryz.prog G0 (142 : Nat)
      [AV.int IntKind.i64 (p.getD (↑g : Int).toNat default).h,
      AV.int IntKind.i64 (p.getD ((↑g : Int) + (1 : Int)).toNat default).h,
      AV.int IntKind.i64 (along - (p.getD (↑g : Int).toNat default).a),
      AV.int IntKind.i64
      ((p.getD ((↑g : Int) + (1 : Int)).toNat default).a -
      (p.getD (↑g : Int).toNat default).a)]
      (AV.int IntKind.i64
      (sBetween (p.getD (↑g : Int).toNat default).h
      (p.getD ((↑g : Int) + (1 : Int)).toNat default).h
      (along - (p.getD (↑g : Int).toNat default).a)
      ((p.getD ((↑g : Int) + (1 : Int)).toNat default).a -
      (p.getD (↑g : Int).toNat default).a))) ∧
      PCall Tryz.prog G0 (142 : Nat)
      [AV.int IntKind.i64 (p.getD (↑g : Int).toNat default).p,
      AV.int IntKind.i64
      (p.getD ((↑g : Int) + (1 : Int)).toNat default).p,
      AV.int IntKind.i64 (along - (p.getD (↑g : Int).toNat default).a),
      AV.int IntKind.i64
      ((p.getD ((↑g : Int) + (1 : Int)).toNat default).a -
      (p.getD (↑g : Int).toNat default).a)]
      (AV.int IntKind.i64
      (sBetween (p.getD (↑g : Int).toNat default).p
      (p.getD ((↑g : Int) + (1 : Int)).toNat default).p
      (along - (p.getD (↑g : Int).toNat default).a)
      ((p.getD ((↑g : Int) + (1 : Int)).toNat default).a -
      (p.getD (↑g : Int).toNat default).a))) ∧
      AV.agg
      [AV.int IntKind.i64 along,
      AV.int IntKind.i64
      (sBetween (p.getD (↑g : Int).toNat default).h
      (p.getD ((↑g : Int) + (1 : Int)).toNat default).h
      (along - (p.getD (↑g : Int).toNat default).a)
      ((p.getD ((↑g : Int) + (1 : Int)).toNat default).a -
      (p.getD (↑g : Int).toNat default).a)),
      AV.int IntKind.i64
      (sBetween (p.getD (↑g : Int).toNat default).p
      (p.getD ((↑g : Int) + (1 : Int)).toNat default).p
      (along - (p.getD (↑g : Int).toNat default).a)
      ((p.getD ((↑g : Int) + (1 : Int)).toNat default).a -
      (p.getD (↑g : Int).toNat default).a))] =
      AV.agg
      [AV.int IntKind.i64 (sStep p along).a,
      AV.int IntKind.i64 (sStep p along).h,
      AV.int IntKind.i64 (sStep p along).p]) ∧
      (decide (along < (p.getD ((↑g : Int) + (1 : Int)).toNat default).a) = false →
      In64 ((↑g : Int) + (1 : Int)) ∧
      ∃ (g' : Nat),
      (g' + (1 : Nat) ≤ (List.map encSt p).length ∧
      sStep p along =
      sStepF p along ((List.map encSt p).length - (1 : Nat) - g') g') ∧
      (List.map encSt p).length - g' < (List.map encSt p).length - g ∧
      AS.mk
      [((0 : Nat), AV.sl (3 : Nat) (List.map encSt p)),
      ((1 : Nat), AV.int IntKind.i64 along),
      ((4 : Nat), AV.ptr (1 : Nat) (0 : Nat)),
      ((5 : Nat), AV.ptr (8 : Nat) (0 : Nat)),
      ((19 : Nat),
      AV.int IntKind.i64
      ((↑(List.map encSt p).length : Int) - (1 : Int))),
      ((20 : Nat), AV.int IntKind.i64 ((↑g : Int) + (1 : Int)))]
      [((1 : Nat),
      ABlk.box
      [AV.int IntKind.i64 (0 : Int), AV.int IntKind.i64 (0 : Int),
      AV.int IntKind.i64 (0 : Int)]),
      ((8 : Nat),
      ABlk.box
      [AV.int IntKind.i64
      (p.getD (lastOf (List.map encSt p).length) default).a,
      AV.int IntKind.i64
      (p.getD (lastOf (List.map encSt p).length) default).h,
      AV.int IntKind.i64
      (p.getD (lastOf (List.map encSt p).length) default).p])]
      (9 : Nat) =
      AS.mk
      [((0 : Nat), AV.sl (3 : Nat) (List.map encSt p)),
      ((1 : Nat), AV.int IntKind.i64 along),
      ((4 : Nat), AV.ptr (1 : Nat) (0 : Nat)),
      ((5 : Nat), AV.ptr (8 : Nat) (0 : Nat)),
      ((19 : Nat),
      AV.int IntKind.i64
      ((↑(List.map encSt p).length : Int) - (1 : Int))),
      ((20 : Nat), AV.int IntKind.i64 (↑g' : Int))]
      [((1 : Nat),
      ABlk.box
      [AV.int IntKind.i64 (0 : Int), AV.int IntKind.i64 (0 : Int),
      AV.int IntKind.i64 (0 : Int)]),
      ((8 : Nat),
      ABlk.box
      [AV.int IntKind.i64
      (p.getD (lastOf (List.map encSt p).length) default).a,
      AV.int IntKind.i64
      (p.getD (lastOf (List.map encSt p).length) default).h,
      AV.int IntKind.i64
      (p.getD (lastOf (List.map encSt p).length) default).p])]
      (9 : Nat))) ∧
      (decide ((↑g : Int) < (↑(List.map encSt p).length : Int) - (1 : Int)) = false →
      AV.agg
      [AV.int IntKind.i64 (p.getD (lastOf (List.map encSt p).length) default).a,
      AV.int IntKind.i64 (p.getD (lastOf (List.map encSt p).length) default).h,
      AV.int IntKind.i64 (p.getD (lastOf (List.map encSt p).length) default).p] =
      AV.agg
      [AV.int IntKind.i64 (sStep p along).a, AV.int IntKind.i64 (sStep p along).h,
      AV.int IntKind.i64 (sStep p along).p]) := by
    have hn1 := hv.n1
    have hn2 := hv.n2
    have e1 : ∀ g : Nat, ((g : Int) + 1).toNat = g + 1 := fun g => by omega
    have el : ((p.length : Int) - 1).toNat = lastOf p.length := rfl
    have hla : lastOf p.length < p.length := by unfold lastOf; omega
    simp only [List.length_map]
    simp only [el, e1, Int.toNat_natCast]
    refine ⟨by unfold In64; omega, by omega, by omega, by rw [row_at _ hla]; rfl, by unfold In64; omega, ⟨0, ⟨by omega, by rw [sStep, List.length_map]; rfl⟩, rfl⟩, fun g hg => ⟨fun hd => ?_, fun hd => ?_⟩⟩
    · have hlt : g + 1 < p.length := by simp only [decide_eq_true_eq] at hd; omega
      have b1 := hv.b g (by omega)
      have b2 := hv.b (g + 1) hlt
      have b3 := hv.s g hlt
      have hs : sStep p along = sStepF p along (p.length - 1 - (g + 1) + 1) g := by rw [show p.length - 1 - (g + 1) + 1 = p.length - 1 - g by omega]; exact hg.2
      refine ⟨by omega, by omega, by unfold In64; omega, by omega, by omega, by rw [row_at _ (by omega)]; rfl, by rw [row_at _ hlt]; rfl, fun hc => ⟨by unfold In64; omega, by unfold In64; omega, c142 _ _ _ _ ⟨by omega, by omega, by omega, by omega, by omega, by omega, by omega⟩, c142 _ _ _ _ ⟨by omega, by omega, by omega, by omega, by omega, by omega, by omega⟩, ?_⟩, fun hc => ⟨by unfold In64; omega, g + 1, ⟨by omega, ?_⟩, by omega, rfl⟩⟩
      · rw [hs, sStepF, if_pos hc]
      · rw [hs, sStepF, if_neg (by rw [hc]; decide)]
    · have : p.length - 1 - g = 0 := by simp only [decide_eq_false_iff_not] at hd; omega
      rw [hg.2, this, sStepF, List.length_map]
  exact c_of Tryz.f90 (mkB spC 90 [(1, 5, rdOr [rdL 3 encSt p 3 true]), (5, 3, rdOr [rdL 3 encSt p 3 true]), (5, 8, rdOr [rdL 3 encSt p 3 true]), (6, 2, rdOr [rdL 3 encSt p 1 false]), (7, 2, rdOr [rdL 3 encSt p 1 false]), (7, 5, rdOr [rdL 3 encSt p 1 false]), (7, 7, rdOr [rdL 3 encSt p 1 false]), (8, 2, rdOr [rdL 3 encSt p 1 false]), (8, 4, rdOr [rdL 3 encSt p 1 false]), (8, 9, rdOr [rdL 3 encSt p 1 false]), (8, 11, rdOr [rdL 3 encSt p 1 false]), (10, 0, rdOr [rdL 3 encSt p 3 true])] (fun i => if i.beq 0 then some (la90 p along) else none)) (by kernel_rfl) (by kernel_rfl) (by kernel_rfl) (by kernel_rfl) key (by kernel_rfl)
theorem take_succ {α : Type} [Inhabited α] (enc : α → List AV) {l : List α} {g : Nat} (h : g < l.length) : (l.take g).map enc ++ [enc (l.getD g default)] = (l.take (g + 1)).map enc := by
  rw [List.take_add_one, List.map_append]
  simp [List.getD_eq_getElem?_getD, h]
def la15 (l : List St) : LA := {
  pre := [.own 3 166 3, .keep [0, 3, 6, 7, 8] [6], .bound 7], post := [.ren 6 15, .keep [0, 3, 6, 7, 8] [6], .bound 7]
  Gh := Nat
  st := fun i => ⟨[(0, .sl 3 (l.map encSt)), (3, .own 6 ((l.take i).map encSt).length), (6, .sl 3 (l.map encSt)), (7, .i (l.map encSt).length), (8, .i i)], [(6, .buf 166 3 ((l.take i).map encSt))], 7⟩
  ok := fun i => i ≤ (l.map encSt).length
  ms := fun i => (l.map encSt).length - i }
theorem take_len {α : Type} (enc : α → List AV) {l : List α} {g : Nat} (h : g ≤ l.length) : ((l.take g).map enc).length = g := by
  rw [List.length_map, List.length_take]; omega
theorem c15 (l : List St) (hl : l.length ≤ 1000) : PCall Tryz.prog G0 15 [.sl 3 (l.map encSt)] (.fresh 166 3 (l.map encSt)) := by
  have key :
      (∃ (g : Nat),
      g ≤ (List.map encSt l).length ∧
      AS.mk
      [((0 : Nat), AV.sl (3 : Nat) (List.map encSt l)), ((3 : Nat), AV.own (6 : Nat) (0 : Nat)),
      ((6 : Nat), AV.sl (3 : Nat) (List.map encSt l)),
      ((7 : Nat), AV.int IntKind.i64 (↑(List.map encSt l).length : Int)),
      ((8 : Nat), AV.int IntKind.i64 (0 : Int))]
      [((6 : Nat), ABlk.buf (166 : Nat) (3 : Nat) [])] (7 : Nat) =
      AS.mk
      [((0 : Nat), AV.sl (3 : Nat) (List.map encSt l)),
      ((3 : Nat), AV.own (6 : Nat) (List.map encSt (List.take g l)).length),
      ((6 : Nat), AV.sl (3 : Nat) (List.map encSt l)),
      ((7 : Nat), AV.int IntKind.i64 (↑(List.map encSt l).length : Int)),
      ((8 : Nat), AV.int IntKind.i64 (↑g : Int))]
      [((6 : Nat), ABlk.buf (166 : Nat) (3 : Nat) (List.map encSt (List.take g l)))] (7 : Nat)) ∧
      ∀ (g : Nat),
      g ≤ (List.map encSt l).length →
      (decide ((↑g : Int) < (↑(List.map encSt l).length : Int)) = true →
      (0 : Int) ≤ (↑g : Int) ∧
      (↑g : Int) < (↑(List.map encSt l).length : Int) ∧
      AV.agg (nthR (List.map encSt l) (↑g : Int).toNat) =
      AV.agg
      [AV.int IntKind.i64 (l.getD (↑g : Int).toNat default).a,
      AV.int IntKind.i64 (l.getD (↑g : Int).toNat default).h,
      AV.int IntKind.i64 (l.getD (↑g : Int).toNat default).p] ∧
      (List.map encSt (List.take g l)).length + (1 : Nat) ≤ (9223372036854775807 : Nat) ∧
      ((List.map encSt (List.take g l)).length + (1 : Nat)) * (24 : Nat) ≤ (140737488355328 : Nat) ∧
      In64 ((↑g : Int) + (1 : Int)) ∧
      ∃ (g' : Nat),
      g' ≤ (List.map encSt l).length ∧
      (List.map encSt l).length - g' < (List.map encSt l).length - g ∧
      AS.mk
      [((0 : Nat), AV.sl (3 : Nat) (List.map encSt l)),
      ((3 : Nat), AV.own (6 : Nat) ((List.map encSt (List.take g l)).length + (1 : Nat))),
      ((6 : Nat), AV.sl (3 : Nat) (List.map encSt l)),
      ((7 : Nat), AV.int IntKind.i64 (↑(List.map encSt l).length : Int)),
      ((8 : Nat), AV.int IntKind.i64 ((↑g : Int) + (1 : Int)))]
      [((6 : Nat),
      ABlk.buf (166 : Nat) (3 : Nat)
      (List.map encSt (List.take g l) ++
      [[AV.int IntKind.i64 (l.getD (↑g : Int).toNat default).a,
      AV.int IntKind.i64 (l.getD (↑g : Int).toNat default).h,
      AV.int IntKind.i64 (l.getD (↑g : Int).toNat default).p]]))]
      (7 : Nat) =
      AS.mk
      [((0 : Nat), AV.sl (3 : Nat) (List.map encSt l)),
      ((3 : Nat), AV.own (6 : Nat) (List.map encSt (List.take g' l)).length),
      ((6 : Nat), AV.sl (3 : Nat) (List.map encSt l)),
      ((7 : Nat), AV.int IntKind.i64 (↑(List.map encSt l).length : Int)),
      ((8 : Nat), AV.int IntKind.i64 (↑g' : Int))]
      [((6 : Nat), ABlk.buf (166 : Nat) (3 : Nat) (List.map encSt (List.take g' l)))]
      (7 : Nat)) ∧
      (decide ((↑g : Int) < (↑(List.map encSt l).length : Int)) = false →
      AV.fresh (166 : Nat) (3 : Nat) (List.map encSt (List.take g l)) =
      AV.fresh (166 : Nat) (3 : Nat) (List.map encSt l)) := by
    simp only [List.length_map]
    refine ⟨⟨0, by omega, rfl⟩, fun g hg => ⟨fun hd => ?_, fun hd => ?_⟩⟩
    · have hlt := lt_of_dec hd
      simp only [Int.toNat_natCast]
      refine ⟨by omega, by omega, by rw [row_at _ hlt]; rfl, by rw [List.length_take]; omega, by rw [List.length_take]; omega, by unfold In64; omega, g + 1, hlt, by omega, ?_⟩
      have h2 := take_succ encSt hlt
      simp only [encSt] at h2
      rw [show (l.take g).length + 1 = (l.take (g + 1)).length by simp only [List.length_take]; omega, h2]
      rfl
    · rw [ge_of_dec hd hg, List.take_length]
  exact c_of Tryz.f15 (mkB spC 15 [(4, 1, rdOr [rdL 3 encSt l 3 true]), (5, 1, rdOr [rdL 3 encSt l 3 true])] (fun i => if i.beq 0 then some (la15 l) else none)) (by kernel_rfl) (by kernel_rfl) (by kernel_rfl) (by kernel_rfl) key (by kernel_rfl)
def la24 (l : List Fx) : LA := {
  pre := [.own 3 110 5, .keep [0, 3, 6, 7, 8] [6], .bound 7], post := [.ren 6 15, .keep [0, 3, 6, 7, 8] [6], .bound 7]
  Gh := Nat
  st := fun i => ⟨[(0, .sl 5 (l.map encFx)), (3, .own 6 ((l.take i).map encFx).length), (6, .sl 5 (l.map encFx)), (7, .i (l.map encFx).length), (8, .i i)], [(6, .buf 110 5 ((l.take i).map encFx))], 7⟩
  ok := fun i => i ≤ (l.map encFx).length
  ms := fun i => (l.map encFx).length - i }
theorem c24 (l : List Fx) (hl : l.length ≤ 1000) : PCall Tryz.prog G0 24 [.sl 5 (l.map encFx)] (.fresh 110 5 (l.map encFx)) := by
  have key :
      (∃ (g : Nat),
      g ≤ (List.map encFx l).length ∧
      AS.mk
      [((0 : Nat), AV.sl (5 : Nat) (List.map encFx l)), ((3 : Nat), AV.own (6 : Nat) (0 : Nat)),
      ((6 : Nat), AV.sl (5 : Nat) (List.map encFx l)),
      ((7 : Nat), AV.int IntKind.i64 (↑(List.map encFx l).length : Int)),
      ((8 : Nat), AV.int IntKind.i64 (0 : Int))]
      [((6 : Nat), ABlk.buf (110 : Nat) (5 : Nat) [])] (7 : Nat) =
      AS.mk
      [((0 : Nat), AV.sl (5 : Nat) (List.map encFx l)),
      ((3 : Nat), AV.own (6 : Nat) (List.map encFx (List.take g l)).length),
      ((6 : Nat), AV.sl (5 : Nat) (List.map encFx l)),
      ((7 : Nat), AV.int IntKind.i64 (↑(List.map encFx l).length : Int)),
      ((8 : Nat), AV.int IntKind.i64 (↑g : Int))]
      [((6 : Nat), ABlk.buf (110 : Nat) (5 : Nat) (List.map encFx (List.take g l)))] (7 : Nat)) ∧
      ∀ (g : Nat),
      g ≤ (List.map encFx l).length →
      (decide ((↑g : Int) < (↑(List.map encFx l).length : Int)) = true →
      (0 : Int) ≤ (↑g : Int) ∧
      (↑g : Int) < (↑(List.map encFx l).length : Int) ∧
      AV.agg (nthR (List.map encFx l) (↑g : Int).toNat) =
      AV.agg
      [AV.int IntKind.i64 (l.getD (↑g : Int).toNat default).t,
      AV.int IntKind.i64 (l.getD (↑g : Int).toNat default).x,
      AV.int IntKind.i64 (l.getD (↑g : Int).toNat default).y,
      AV.int IntKind.i64 (l.getD (↑g : Int).toNat default).z,
      AV.int IntKind.i64 (l.getD (↑g : Int).toNat default).p] ∧
      (List.map encFx (List.take g l)).length + (1 : Nat) ≤ (9223372036854775807 : Nat) ∧
      ((List.map encFx (List.take g l)).length + (1 : Nat)) * (40 : Nat) ≤ (140737488355328 : Nat) ∧
      In64 ((↑g : Int) + (1 : Int)) ∧
      ∃ (g' : Nat),
      g' ≤ (List.map encFx l).length ∧
      (List.map encFx l).length - g' < (List.map encFx l).length - g ∧
      AS.mk
      [((0 : Nat), AV.sl (5 : Nat) (List.map encFx l)),
      ((3 : Nat), AV.own (6 : Nat) ((List.map encFx (List.take g l)).length + (1 : Nat))),
      ((6 : Nat), AV.sl (5 : Nat) (List.map encFx l)),
      ((7 : Nat), AV.int IntKind.i64 (↑(List.map encFx l).length : Int)),
      ((8 : Nat), AV.int IntKind.i64 ((↑g : Int) + (1 : Int)))]
      [((6 : Nat),
      ABlk.buf (110 : Nat) (5 : Nat)
      (List.map encFx (List.take g l) ++
      [[AV.int IntKind.i64 (l.getD (↑g : Int).toNat default).t,
      AV.int IntKind.i64 (l.getD (↑g : Int).toNat default).x,
      AV.int IntKind.i64 (l.getD (↑g : Int).toNat default).y,
      AV.int IntKind.i64 (l.getD (↑g : Int).toNat default).z,
      AV.int IntKind.i64 (l.getD (↑g : Int).toNat default).p]]))]
      (7 : Nat) =
      AS.mk
      [((0 : Nat), AV.sl (5 : Nat) (List.map encFx l)),
      ((3 : Nat), AV.own (6 : Nat) (List.map encFx (List.take g' l)).length),
      ((6 : Nat), AV.sl (5 : Nat) (List.map encFx l)),
      ((7 : Nat), AV.int IntKind.i64 (↑(List.map encFx l).length : Int)),
      ((8 : Nat), AV.int IntKind.i64 (↑g' : Int))]
      [((6 : Nat), ABlk.buf (110 : Nat) (5 : Nat) (List.map encFx (List.take g' l)))]
      (7 : Nat)) ∧
      (decide ((↑g : Int) < (↑(List.map encFx l).length : Int)) = false →
      AV.fresh (110 : Nat) (5 : Nat) (List.map encFx (List.take g l)) =
      AV.fresh (110 : Nat) (5 : Nat) (List.map encFx l)) := by
    simp only [List.length_map]
    refine ⟨⟨0, by omega, rfl⟩, fun g hg => ⟨fun hd => ?_, fun hd => ?_⟩⟩
    · have hlt := lt_of_dec hd
      simp only [Int.toNat_natCast]
      refine ⟨by omega, by omega, by rw [row_at _ hlt]; rfl, by rw [List.length_take]; omega, by rw [List.length_take]; omega, by unfold In64; omega, g + 1, hlt, by omega, ?_⟩
      have h2 := take_succ encFx hlt
      simp only [encFx] at h2
      rw [show (l.take g).length + 1 = (l.take (g + 1)).length by simp only [List.length_take]; omega, h2]
      rfl
    · rw [ge_of_dec hd hg, List.take_length]
  exact c_of Tryz.f24 (mkB spC 24 [(4, 1, rdOr [rdL 5 encFx l 5 true]), (5, 1, rdOr [rdL 5 encFx l 5 true])] (fun i => if i.beq 0 then some (la24 l) else none)) (by kernel_rfl) (by kernel_rfl) (by kernel_rfl) (by kernel_rfl) key (by kernel_rfl)
def eqFx (a b : Fx) : Bool := a.t == b.t && true && (a.x == b.x && true && (a.y == b.y && true && (a.z == b.z && true && true)) && (a.p == b.p && true && true))
def sSame (l m : List Fx) : Bool := if ((l.length : Int) != (m.length : Int)) = true then false else (List.range l.length).all fun i => eqFx (l.getD i default) (m.getD i default)
def la23 (l m : List Fx) : LA := {
  pre := [.keep [0, 1, 5] [], .bound 1], post := [.keep [0, 1, 5] [], .bound 1]
  Gh := Nat
  st := fun i => ⟨[(0, .sl 5 (l.map encFx)), (1, .sl 5 (m.map encFx)), (5, .i i)], [], 1⟩
  ok := fun i => i ≤ l.length ∧ ∀ k, k < i → eqFx (l.getD k default) (m.getD k default) = true
  ms := fun i => l.length - i }
theorem c23 (l m : List Fx) (hl : l.length ≤ 1000) : PCall Tryz.prog G0 23 [.sl 5 (l.map encFx), .sl 5 (m.map encFx)] (.bool (sSame l m)) := by
  have key :
      (((↑(List.map encFx l).length : Int) != (↑(List.map encFx m).length : Int)) = true →
      AV.bool false = AV.bool (sSame l m)) ∧
      (((↑(List.map encFx l).length : Int) != (↑(List.map encFx m).length : Int)) = false →
      (∃ (g : Nat),
      (g ≤ l.length ∧ ∀ (k : Nat), k < g → eqFx (l.getD k default) (m.getD k default) = true) ∧
      AS.mk
      [((0 : Nat), AV.sl (5 : Nat) (List.map encFx l)), ((1 : Nat), AV.sl (5 : Nat) (List.map encFx m)),
      ((5 : Nat), AV.int IntKind.i64 (0 : Int))]
      [] (1 : Nat) =
      AS.mk
      [((0 : Nat), AV.sl (5 : Nat) (List.map encFx l)), ((1 : Nat), AV.sl (5 : Nat) (List.map encFx m)),
      ((5 : Nat), AV.int IntKind.i64 (↑g : Int))]
      [] (1 : Nat)) ∧
      ∀ (g : Nat),
      (g ≤ l.length ∧ ∀ (k : Nat), k < g → eqFx (l.getD k default) (m.getD k default) = true) →
      (decide ((↑g : Int) < (↑(List.map encFx l).length : Int)) = true →
      (0 : Int) ≤ (↑g : Int) ∧
      (↑g : Int) < (↑(List.map encFx l).length : Int) ∧
      (0 : Int) ≤ (↑g : Int) ∧
      (↑g : Int) < (↑(List.map encFx m).length : Int) ∧
      AV.agg (nthR (List.map encFx l) (↑g : Int).toNat) =
      AV.agg
      [AV.int IntKind.i64 (l.getD (↑g : Int).toNat default).t,
      AV.int IntKind.i64 (l.getD (↑g : Int).toNat default).x,
      AV.int IntKind.i64 (l.getD (↑g : Int).toNat default).y,
      AV.int IntKind.i64 (l.getD (↑g : Int).toNat default).z,
      AV.int IntKind.i64 (l.getD (↑g : Int).toNat default).p] ∧
      AV.agg (nthR (List.map encFx m) (↑g : Int).toNat) =
      AV.agg
      [AV.int IntKind.i64 (m.getD (↑g : Int).toNat default).t,
      AV.int IntKind.i64 (m.getD (↑g : Int).toNat default).x,
      AV.int IntKind.i64 (m.getD (↑g : Int).toNat default).y,
      AV.int IntKind.i64 (m.getD (↑g : Int).toNat default).z,
      AV.int IntKind.i64 (m.getD (↑g : Int).toNat default).p] ∧
      ((!((l.getD (↑g : Int).toNat default).t == (m.getD (↑g : Int).toNat default).t && true &&
      ((l.getD (↑g : Int).toNat default).x == (m.getD (↑g : Int).toNat default).x &&
      true &&
      ((l.getD (↑g : Int).toNat default).y == (m.getD (↑g : Int).toNat default).y &&
      true &&
      ((l.getD (↑g : Int).toNat default).z ==
      (m.getD (↑g : Int).toNat default).z &&
      true &&
      true)) &&
      ((l.getD (↑g : Int).toNat default).p == (m.getD (↑g : Int).toNat default).p &&
      true &&
      true)))) =
      true →
      AV.bool false = AV.bool (sSame l m)) ∧
      ((!((l.getD (↑g : Int).toNat default).t == (m.getD (↑g : Int).toNat default).t && true &&
      ((l.getD (↑g : Int).toNat default).x == (m.getD (↑g : Int).toNat default).x &&
      true &&
      ((l.getD (↑g : Int).toNat default).y == (m.getD (↑g : Int).toNat default).y &&
      true &&
      ((l.getD (↑g : Int).toNat default).z ==
      (m.getD (↑g : Int).toNat default).z &&
      true &&
      true)) &&
      ((l.getD (↑g : Int).toNat default).p == (m.getD (↑g : Int).toNat default).p &&
      true &&
      true)))) =
      false →
      In64 ((↑g : Int) + (1 : Int)) ∧
      ∃ (g' : Nat),
      (g' ≤ l.length ∧
      ∀ (k : Nat), k < g' → eqFx (l.getD k default) (m.getD k default) = true) ∧
      l.length - g' < l.length - g ∧
      AS.mk
      [((0 : Nat), AV.sl (5 : Nat) (List.map encFx l)),
      ((1 : Nat), AV.sl (5 : Nat) (List.map encFx m)),
      ((5 : Nat), AV.int IntKind.i64 ((↑g : Int) + (1 : Int)))]
      [] (1 : Nat) =
      AS.mk
      [((0 : Nat), AV.sl (5 : Nat) (List.map encFx l)),
      ((1 : Nat), AV.sl (5 : Nat) (List.map encFx m)),
      ((5 : Nat), AV.int IntKind.i64 (↑g' : Int))]
      [] (1 : Nat))) ∧
      (decide ((↑g : Int) < (↑(List.map encFx l).length : Int)) = false → AV.bool true = AV.bool (sSame l m))) := by
    simp only [List.length_map]
    refine ⟨fun h => by rw [sSame, if_pos h], fun h => ⟨⟨0, ⟨by omega, by intros; omega⟩, rfl⟩, fun g hg => ⟨fun hd => ?_, fun hd => ?_⟩⟩⟩
    · have hlt := lt_of_dec hd
      have hm : l.length = m.length := by simp at h; omega
      refine ⟨by omega, by omega, by omega, by omega, by simp only [Int.toNat_natCast]; rw [row_at _ hlt]; rfl, by simp only [Int.toNat_natCast]; rw [row_at _ (by omega)]; rfl, fun hne => ?_, fun heq => ⟨by unfold In64; omega, g + 1, ⟨hlt, fun k hk => ?_⟩, by omega, rfl⟩⟩
      · have h3 : (!eqFx (l.getD g default) (m.getD g default)) = true := hne
        have h2 : eqFx (l.getD g default) (m.getD g default) = false := by simpa using h3
        rw [sSame, if_neg (by rw [h]; decide), List.all_eq_false.2 ⟨g, by simpa using hlt, by rw [h2]; decide⟩]
      · by_cases e : k = g
        · subst e
          have h2 : (!eqFx (l.getD k default) (m.getD k default)) = false := heq
          simpa using h2
        · exact hg.2 k (by omega)
    · rw [sSame, if_neg (by rw [h]; decide), List.all_eq_true.2 fun i hi => hg.2 i (by rw [ge_of_dec hd hg.1]; simpa using hi)]
  exact c_of Tryz.f23 (mkB spC 23 [(6, 3, rdL 5 encFx l 5 true), (6, 7, rdL 5 encFx m 5 true)] (fun i => if i.beq 0 then some (la23 l m) else none)) (by kernel_rfl) (by kernel_rfl) (by kernel_rfl) (by kernel_rfl) key (by kernel_rfl)
end Go.Proofs.YtjhjmncjidbieaaGreatDoor
