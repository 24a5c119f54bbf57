/-
  Calls on concrete values. No condition: runs in the kernel. The arguments of chapter 2's statements, and the way from a contract of a statement to its row. No condition but the theorems' own. A type, and what is asked of it, as arguments. No condition but the theorems' own. A track, and ticks with a receiver, as arguments. No condition but the theorems' own.
-/
import Derived.Test.YtjhjmncjidbieaaGreatDoorPF
import Derived.Test.YtjhjmncjidbieaaGreatDoorPB
import Derived.Test.YtjhjmncjidbieaaGreatDoorAvD
import Derived.Test.YtjhjmncjidbieaaGreatDoorCards
import Derived.Test.YtjhjmncjidbieaaGreatDoorTie
import Derived.LaidMore
import Derived.LaidOnce
import Derived.Stop.Joined
import Derived.SevenTiedAt
import Derived.Test.YtjhjmncjidbieaaGreatDoorPE
namespace Go.Proofs.YtjhjmncjidbieaaGreatDoor
open Go Go.Av Go.RowKit
def awv0 : List (List AV) := [[.i 5, .i 0, .i 0, .i 0, .i 10], [.i 9, .i 8, .i 0, .i 0, .i 20]]
def awv1 : List (List AV) := [[.i 10, .sl 1 [[.i 1000], [.i 400]]], [.i 20, .sl 1 [[.i 2000], [.i 600]]]]
def awv2 : List AV := [.sl 5 awv0, .i 6]
def awv3 : List (List AV) := [[.i 1000], [.i 1000], [.i 1000], [.i 1000], [.i 500], [.i 500], [.i 500], [.i 500]]
def awv4 : List AV := [.sl 1 awv3]
def awv5 : List (List AV) := [[.i 100, .i 0, .i 0, .i 0, .i 100], [.i 103, .i 10, .i 0, .i 50, .i 80], [.i 104, .i 10, .i 5, .i 50, .i 80]]
def awv6 : List AV := [.str [111, 110, 101], .str [106, 101, 116], .sl 5 awv0]
def awv7 : List AV := [.str [116, 119, 111], .str [106, 101, 116], .sl 5 awv0]
def awv8 : List AV := [.str [111, 110, 101], .str [106, 101, 116], .sl 5 awv0, .i 2700]
def awv9 : List AV := [.str [116, 119, 111], .str [106, 101, 116], .sl 5 awv0, .i 2700]
def awv10 : List AV := [.str [106, 101, 116], .sl 1 [[.i 600], [.i 400]], .i 1000, .i 1000, .i 1000, .i 1000, .i 500, .i 500, .i 500, .i 500, .i 500, .sl 1 [[.i 0], [.i 100]], .sl 2 awv1]
def awv11 : List (List AV) := [awv10]
def awv12 : List (List AV) := [awv6, awv7]
def awv13 : List AV := [.agg awv10]
def awv14 : List AV := [.sl 13 awv11]
def awv15 : List (List AV) := [awv14]
def awv16 : List AV := [.agg awv10, .i 30, .i 0]
def awv17 : List AV := [.agg awv10, .i 15, .i 99]
def awv18 : List AV := [.agg awv10, .i 15, .i 100]
def awv19 : List (List AV) := [awv8, awv9]
def awv20 : List AV := [.agg awv10, .sl 5 awv0, .agg [.i 6, .i 8], .agg [.i 4, .i 2, .i 0]]
def awv21 : List AV := [.agg awv10, .sl 5 awv0, .agg [.i 0, .i 100000000], .agg [.i 4, .i 2, .i 0]]
def awv22 : List AV := [.sl 13 awv11, .sl 3 awv12, .agg [.i 4, .i 2, .i 0]]
def awM0 : List Mem := []
theorem awK0 : KnownM Tryz.prog G0 awM0 := KnownM.nil
theorem awc1 : PCall Tryz.prog G0 122 ([.str [106, 101, 116]]) (.bool true) := run_c awK0 (by kernel_rfl)
def awM1 : List Mem := ⟨122, [.str [106, 101, 116]], .bool true⟩ :: awM0
theorem awK1 : KnownM Tryz.prog G0 awM1 := KnownM.cons awc1 awK0
theorem awc2 : PCall Tryz.prog G0 123 ([.i 2, .i 8]) (.i 0) := run_c awK1 (by kernel_rfl)
def awM2 : List Mem := ⟨123, [.i 2, .i 8], .i 0⟩ :: awM1
theorem awK2 : KnownM Tryz.prog G0 awM2 := KnownM.cons awc2 awK1
theorem awc3 : PCall Tryz.prog G0 124 ([.sl 1 [[.i 600], [.i 400]], .i 1000]) (.i 0) := run_c awK2 (by kernel_rfl)
def awM3 : List Mem := ⟨124, [.sl 1 [[.i 600], [.i 400]], .i 1000], .i 0⟩ :: awM2
theorem awK3 : KnownM Tryz.prog G0 awM3 := KnownM.cons awc3 awK2
theorem awc4 : PCall Tryz.prog G0 87 ([.sl 1 [[.i 0], [.i 0], [.i 0], [.i 0]]]) (.i 0) := run_c awK3 (by kernel_rfl)
def awM4 : List Mem := ⟨87, [.sl 1 [[.i 0], [.i 0], [.i 0], [.i 0]]], .i 0⟩ :: awM3
theorem awK4 : KnownM Tryz.prog G0 awM4 := KnownM.cons awc4 awK3
theorem awc5 : PCall Tryz.prog G0 87 ([.sl 1 [[.i 0], [.i 0], [.i 0], [.i 0], [.i 0], [.i 0], [.i 0], [.i 0]]]) (.i 0) := run_c awK4 (by kernel_rfl)
def awM5 : List Mem := ⟨87, [.sl 1 [[.i 0], [.i 0], [.i 0], [.i 0], [.i 0], [.i 0], [.i 0], [.i 0]]], .i 0⟩ :: awM4
theorem awK5 : KnownM Tryz.prog G0 awM5 := KnownM.cons awc5 awK4
theorem awc6 : PCall Tryz.prog G0 124 ([.sl 1 awv3, .i 2000]) (.i 0) := run_c awK5 (by kernel_rfl)
def awM6 : List Mem := ⟨124, [.sl 1 awv3, .i 2000], .i 0⟩ :: awM5
theorem awK6 : KnownM Tryz.prog G0 awM6 := KnownM.cons awc6 awK5
theorem awc7 : PCall Tryz.prog G0 124 ([.sl 1 [[.i 0], [.i 100]], .i 100000000000]) (.i 0) := run_c awK6 (by kernel_rfl)
def awM7 : List Mem := ⟨124, [.sl 1 [[.i 0], [.i 100]], .i 100000000000], .i 0⟩ :: awM6
theorem awK7 : KnownM Tryz.prog G0 awM7 := KnownM.cons awc7 awK6
theorem awc8 : PCall Tryz.prog G0 123 ([.i 2, .i 6]) (.i 0) := run_c awK7 (by kernel_rfl)
def awM8 : List Mem := ⟨123, [.i 2, .i 6], .i 0⟩ :: awM7
theorem awK8 : KnownM Tryz.prog G0 awM8 := KnownM.cons awc8 awK7
theorem awc9 : PCall Tryz.prog G0 124 ([.sl 1 [[.i 1000], [.i 400]], .i 100000000]) (.i 0) := run_c awK8 (by kernel_rfl)
def awM9 : List Mem := ⟨124, [.sl 1 [[.i 1000], [.i 400]], .i 100000000], .i 0⟩ :: awM8
theorem awK9 : KnownM Tryz.prog G0 awM9 := KnownM.cons awc9 awK8
theorem awc10 : PCall Tryz.prog G0 124 ([.sl 1 [[.i 2000], [.i 600]], .i 100000000]) (.i 0) := run_c awK9 (by kernel_rfl)
def awM10 : List Mem := ⟨124, [.sl 1 [[.i 2000], [.i 600]], .i 100000000], .i 0⟩ :: awM9
theorem awK10 : KnownM Tryz.prog G0 awM10 := KnownM.cons awc10 awK9
theorem awc11 : PCall Tryz.prog G0 125 (awv13) (.i 0) := run_c awK10 (by kernel_rfl)
def awM11 : List Mem := ⟨125, awv13, .i 0⟩ :: awM10
theorem awK11 : KnownM Tryz.prog G0 awM11 := KnownM.cons awc11 awK10
theorem awc12 : PCall Tryz.prog G0 53 (awv13) (.i 0) := run_c awK11 (by kernel_rfl)
def awM12 : List Mem := ⟨53, awv13, .i 0⟩ :: awM11
theorem awK12 : KnownM Tryz.prog G0 awM12 := KnownM.cons awc12 awK11
theorem awc13 : PCall Tryz.prog G0 87 ([.sl 1 [[.i 0], [.i 0], [.i 0]]]) (.i 0) := run_c awK12 (by kernel_rfl)
def awM13 : List Mem := ⟨87, [.sl 1 [[.i 0], [.i 0], [.i 0]]], .i 0⟩ :: awM12
theorem awK13 : KnownM Tryz.prog G0 awM13 := KnownM.cons awc13 awK12
theorem awc14 : PCall Tryz.prog G0 114 (awv17) (.i 1500) := run_c awK13 (by kernel_rfl)
def awM14 : List Mem := ⟨114, awv17, .i 1500⟩ :: awM13
theorem awK14 : KnownM Tryz.prog G0 awM14 := KnownM.cons awc14 awK13
theorem awc15 : PCall Tryz.prog G0 40 (awv17) (.tup [.i 1500, .i 0]) := run_c awK14 (by kernel_rfl)
def awM15 : List Mem := ⟨40, awv17, .tup [.i 1500, .i 0]⟩ :: awM14
theorem awK15 : KnownM Tryz.prog G0 awM15 := KnownM.cons awc15 awK14
theorem awc16 : PCall Tryz.prog G0 114 (awv18) (.i 500) := run_c awK15 (by kernel_rfl)
def awM16 : List Mem := ⟨114, awv18, .i 500⟩ :: awM15
theorem awK16 : KnownM Tryz.prog G0 awM16 := KnownM.cons awc16 awK15
theorem awc17 : PCall Tryz.prog G0 40 (awv18) (.tup [.i 500, .i 0]) := run_c awK16 (by kernel_rfl)
def awM17 : List Mem := ⟨40, awv18, .tup [.i 500, .i 0]⟩ :: awM16
theorem awK17 : KnownM Tryz.prog G0 awM17 := KnownM.cons awc17 awK16
theorem awc18 : PCall Tryz.prog G0 114 (awv16) (.i 2000) := run_c awK17 (by kernel_rfl)
def awM18 : List Mem := ⟨114, awv16, .i 2000⟩ :: awM17
theorem awK18 : KnownM Tryz.prog G0 awM18 := KnownM.cons awc18 awK17
theorem awc19 : PCall Tryz.prog G0 40 (awv16) (.tup [.i 2000, .i 0]) := run_c awK18 (by kernel_rfl)
def awM19 : List Mem := ⟨40, awv16, .tup [.i 2000, .i 0]⟩ :: awM18
theorem awK19 : KnownM Tryz.prog G0 awM19 := KnownM.cons awc19 awK18
theorem awc20 : PCall Tryz.prog G0 104 ([.agg [.i 0, .i 0, .i 0]]) (.i 0) := run_c awK19 (by kernel_rfl)
def awM20 : List Mem := ⟨104, [.agg [.i 0, .i 0, .i 0]], .i 0⟩ :: awM19
theorem awK20 : KnownM Tryz.prog G0 awM20 := KnownM.cons awc20 awK19
theorem awc21 : PCall Tryz.prog G0 134 ([.agg [.i 5, .i 0, .i 0, .i 0, .i 10]]) (.i 0) := run_c awK20 (by kernel_rfl)
def awM21 : List Mem := ⟨134, [.agg [.i 5, .i 0, .i 0, .i 0, .i 10]], .i 0⟩ :: awM20
theorem awK21 : KnownM Tryz.prog G0 awM21 := KnownM.cons awc21 awK20
theorem awc22 : PCall Tryz.prog G0 104 ([.agg [.i 8, .i 0, .i 0]]) (.i 0) := run_c awK21 (by kernel_rfl)
def awM22 : List Mem := ⟨104, [.agg [.i 8, .i 0, .i 0]], .i 0⟩ :: awM21
theorem awK22 : KnownM Tryz.prog G0 awM22 := KnownM.cons awc22 awK21
theorem awc23 : PCall Tryz.prog G0 134 ([.agg [.i 9, .i 8, .i 0, .i 0, .i 20]]) (.i 0) := run_c awK22 (by kernel_rfl)
def awM23 : List Mem := ⟨134, [.agg [.i 9, .i 8, .i 0, .i 0, .i 20]], .i 0⟩ :: awM22
theorem awK23 : KnownM Tryz.prog G0 awM23 := KnownM.cons awc23 awK22
theorem awc24 : PCall Tryz.prog G0 76 ([.sl 5 awv0]) (.i 0) := run_c awK23 (by kernel_rfl)
def awM24 : List Mem := ⟨76, [.sl 5 awv0], .i 0⟩ :: awM23
theorem awK24 : KnownM Tryz.prog G0 awM24 := KnownM.cons awc24 awK23
theorem awc25 : PCall Tryz.prog G0 126 (awv2) (.agg [.i 2, .i 0, .i 0, .i 8, .i 0, .i 12]) := run_c awK24 (by kernel_rfl)
def awM25 : List Mem := ⟨126, awv2, .agg [.i 2, .i 0, .i 0, .i 8, .i 0, .i 12]⟩ :: awM24
theorem awK25 : KnownM Tryz.prog G0 awM25 := KnownM.cons awc25 awK24
theorem awc26 : PCall Tryz.prog G0 56 (awv2) (.tup [.agg [.i 2, .i 0, .i 0, .i 8, .i 0, .i 12], .i 0]) := run_c awK25 (by kernel_rfl)
def awM26 : List Mem := ⟨56, awv2, .tup [.agg [.i 2, .i 0, .i 0, .i 8, .i 0, .i 12], .i 0]⟩ :: awM25
theorem awK26 : KnownM Tryz.prog G0 awM26 := KnownM.cons awc26 awK25
theorem awc27 : PCall Tryz.prog G0 104 ([.agg [.i 4, .i 2, .i 0]]) (.i 0) := run_c awK26 (by kernel_rfl)
def awM27 : List Mem := ⟨104, [.agg [.i 4, .i 2, .i 0]], .i 0⟩ :: awM26
theorem awK27 : KnownM Tryz.prog G0 awM27 := KnownM.cons awc27 awK26
theorem awc28 : PCall Tryz.prog G0 99 (awv21) (.i 0) := run_c awK27 (by kernel_rfl)
def awM28 : List Mem := ⟨99, awv21, .i 0⟩ :: awM27
theorem awK28 : KnownM Tryz.prog G0 awM28 := KnownM.cons awc28 awK27
theorem awc29 : PCall Tryz.prog G0 126 ([.sl 5 awv0, .i 5]) (.agg [.i 0, .i 0, .i 0, .i 8, .i 0, .i 10]) := run_c awK28 (by kernel_rfl)
def awM29 : List Mem := ⟨126, [.sl 5 awv0, .i 5], .agg [.i 0, .i 0, .i 0, .i 8, .i 0, .i 10]⟩ :: awM28
theorem awK29 : KnownM Tryz.prog G0 awM29 := KnownM.cons awc29 awK28
theorem awc30 : PCall Tryz.prog G0 116 ([.agg [.i 8, .i 0], .agg [.i 4, .i 2]]) (.i 0) := run_c awK29 (by kernel_rfl)
def awM30 : List Mem := ⟨116, [.agg [.i 8, .i 0], .agg [.i 4, .i 2]], .i 0⟩ :: awM29
theorem awK30 : KnownM Tryz.prog G0 awM30 := KnownM.cons awc30 awK29
theorem awc31 : PCall Tryz.prog G0 114 ([.agg awv10, .i 10, .i 20]) (.i 1000) := run_c awK30 (by kernel_rfl)
def awM31 : List Mem := ⟨114, [.agg awv10, .i 10, .i 20], .i 1000⟩ :: awM30
theorem awK31 : KnownM Tryz.prog G0 awM31 := KnownM.cons awc31 awK30
theorem awc32 : PCall Tryz.prog G0 117 ([.agg awv10, .agg [.i 0, .i 0, .i 0, .i 8, .i 0, .i 10], .agg [.i 4, .i 2, .i 0]]) (.i 500) := run_c awK31 (by kernel_rfl)
def awM32 : List Mem := ⟨117, [.agg awv10, .agg [.i 0, .i 0, .i 0, .i 8, .i 0, .i 10], .agg [.i 4, .i 2, .i 0]], .i 500⟩ :: awM31
theorem awK32 : KnownM Tryz.prog G0 awM32 := KnownM.cons awc32 awK31
theorem awc33 : PCall Tryz.prog G0 116 ([.agg [.i 8, .i 0], .agg [.i 2, .i 2]]) (.i 1) := run_c awK32 (by kernel_rfl)
def awM33 : List Mem := ⟨116, [.agg [.i 8, .i 0], .agg [.i 2, .i 2]], .i 1⟩ :: awM32
theorem awK33 : KnownM Tryz.prog G0 awM33 := KnownM.cons awc33 awK32
theorem awc34 : PCall Tryz.prog G0 114 ([.agg awv10, .i 12, .i 8]) (.i 1200) := run_c awK33 (by kernel_rfl)
def awM34 : List Mem := ⟨114, [.agg awv10, .i 12, .i 8], .i 1200⟩ :: awM33
theorem awK34 : KnownM Tryz.prog G0 awM34 := KnownM.cons awc34 awK33
theorem awc35 : PCall Tryz.prog G0 117 ([.agg awv10, .agg [.i 2, .i 0, .i 0, .i 8, .i 0, .i 12], .agg [.i 4, .i 2, .i 0]]) (.i 600) := run_c awK34 (by kernel_rfl)
def awM35 : List Mem := ⟨117, [.agg awv10, .agg [.i 2, .i 0, .i 0, .i 8, .i 0, .i 12], .agg [.i 4, .i 2, .i 0]], .i 600⟩ :: awM34
theorem awK35 : KnownM Tryz.prog G0 awM35 := KnownM.cons awc35 awK34
theorem awc36 : PCall Tryz.prog G0 126 ([.sl 5 awv0, .i 7]) (.agg [.i 4, .i 0, .i 0, .i 8, .i 0, .i 15]) := run_c awK35 (by kernel_rfl)
def awM36 : List Mem := ⟨126, [.sl 5 awv0, .i 7], .agg [.i 4, .i 0, .i 0, .i 8, .i 0, .i 15]⟩ :: awM35
theorem awK36 : KnownM Tryz.prog G0 awM36 := KnownM.cons awc36 awK35
theorem awc37 : PCall Tryz.prog G0 116 ([.agg [.i 8, .i 0], .agg [.i 0, .i 2]]) (.i 2) := run_c awK36 (by kernel_rfl)
def awM37 : List Mem := ⟨116, [.agg [.i 8, .i 0], .agg [.i 0, .i 2]], .i 2⟩ :: awM36
theorem awK37 : KnownM Tryz.prog G0 awM37 := KnownM.cons awc37 awK36
theorem awc38 : PCall Tryz.prog G0 114 ([.agg awv10, .i 15, .i 4]) (.i 1500) := run_c awK37 (by kernel_rfl)
def awM38 : List Mem := ⟨114, [.agg awv10, .i 15, .i 4], .i 1500⟩ :: awM37
theorem awK38 : KnownM Tryz.prog G0 awM38 := KnownM.cons awc38 awK37
theorem awc39 : PCall Tryz.prog G0 117 ([.agg awv10, .agg [.i 4, .i 0, .i 0, .i 8, .i 0, .i 15], .agg [.i 4, .i 2, .i 0]]) (.i 750) := run_c awK38 (by kernel_rfl)
def awM39 : List Mem := ⟨117, [.agg awv10, .agg [.i 4, .i 0, .i 0, .i 8, .i 0, .i 15], .agg [.i 4, .i 2, .i 0]], .i 750⟩ :: awM38
theorem awK39 : KnownM Tryz.prog G0 awM39 := KnownM.cons awc39 awK38
theorem awc40 : PCall Tryz.prog G0 126 ([.sl 5 awv0, .i 8]) (.agg [.i 6, .i 0, .i 0, .i 8, .i 0, .i 17]) := run_c awK39 (by kernel_rfl)
def awM40 : List Mem := ⟨126, [.sl 5 awv0, .i 8], .agg [.i 6, .i 0, .i 0, .i 8, .i 0, .i 17]⟩ :: awM39
theorem awK40 : KnownM Tryz.prog G0 awM40 := KnownM.cons awc40 awK39
theorem awc41 : PCall Tryz.prog G0 116 ([.agg [.i 8, .i 0], .agg [.i (-2), .i 2]]) (.i 3) := run_c awK40 (by kernel_rfl)
def awM41 : List Mem := ⟨116, [.agg [.i 8, .i 0], .agg [.i (-2), .i 2]], .i 3⟩ :: awM40
theorem awK41 : KnownM Tryz.prog G0 awM41 := KnownM.cons awc41 awK40
theorem awc42 : PCall Tryz.prog G0 114 ([.agg awv10, .i 17, .i 8]) (.i 1700) := run_c awK41 (by kernel_rfl)
def awM42 : List Mem := ⟨114, [.agg awv10, .i 17, .i 8], .i 1700⟩ :: awM41
theorem awK42 : KnownM Tryz.prog G0 awM42 := KnownM.cons awc42 awK41
theorem awc43 : PCall Tryz.prog G0 117 ([.agg awv10, .agg [.i 6, .i 0, .i 0, .i 8, .i 0, .i 17], .agg [.i 4, .i 2, .i 0]]) (.i 850) := run_c awK42 (by kernel_rfl)
def awM43 : List Mem := ⟨117, [.agg awv10, .agg [.i 6, .i 0, .i 0, .i 8, .i 0, .i 17], .agg [.i 4, .i 2, .i 0]], .i 850⟩ :: awM42
theorem awK43 : KnownM Tryz.prog G0 awM43 := KnownM.cons awc43 awK42
theorem awc44 : PCall Tryz.prog G0 100 (awv21) (.i 2700) := run_c awK43 (by kernel_rfl)
def awM44 : List Mem := ⟨100, awv21, .i 2700⟩ :: awM43
theorem awK44 : KnownM Tryz.prog G0 awM44 := KnownM.cons awc44 awK43
theorem awc45 : PCall Tryz.prog G0 27 (awv21) (.tup [.i 2700, .i 0]) := run_c awK44 (by kernel_rfl)
def awM45 : List Mem := ⟨27, awv21, .tup [.i 2700, .i 0]⟩ :: awM44
theorem awK45 : KnownM Tryz.prog G0 awM45 := KnownM.cons awc45 awK44
theorem awc46 : PCall Tryz.prog G0 99 (awv20) (.i 0) := run_c awK45 (by kernel_rfl)
def awM46 : List Mem := ⟨99, awv20, .i 0⟩ :: awM45
theorem awK46 : KnownM Tryz.prog G0 awM46 := KnownM.cons awc46 awK45
theorem awc47 : PCall Tryz.prog G0 100 (awv20) (.i 1350) := run_c awK46 (by kernel_rfl)
def awM47 : List Mem := ⟨100, awv20, .i 1350⟩ :: awM46
theorem awK47 : KnownM Tryz.prog G0 awM47 := KnownM.cons awc47 awK46
theorem awc48 : PCall Tryz.prog G0 27 (awv20) (.tup [.i 1350, .i 0]) := run_c awK47 (by kernel_rfl)
def awM48 : List Mem := ⟨27, awv20, .tup [.i 1350, .i 0]⟩ :: awM47
theorem awK48 : KnownM Tryz.prog G0 awM48 := KnownM.cons awc48 awK47
theorem awc49 : PCall Tryz.prog G0 30 (awv21) (.tup [.i 850, .i 8, .i 0]) := run_c awK48 (by kernel_rfl)
def awM49 : List Mem := ⟨30, awv21, .tup [.i 850, .i 8, .i 0]⟩ :: awM48
theorem awK49 : KnownM Tryz.prog G0 awM49 := KnownM.cons awc49 awK48
theorem awc50 : PCall Tryz.prog G0 146 (awv4) (.i 500) := run_c awK49 (by kernel_rfl)
def awM50 : List Mem := ⟨146, awv4, .i 500⟩ :: awM49
theorem awK50 : KnownM Tryz.prog G0 awM50 := KnownM.cons awc50 awK49
theorem awc51 : PCall Tryz.prog G0 114 ([.agg awv10, .i 20, .i 4]) (.i 2000) := run_c awK50 (by kernel_rfl)
def awM51 : List Mem := ⟨114, [.agg awv10, .i 20, .i 4], .i 2000⟩ :: awM50
theorem awK51 : KnownM Tryz.prog G0 awM51 := KnownM.cons awc51 awK50
theorem awc52 : PCall Tryz.prog G0 147 (awv4) (.i 1000) := run_c awK51 (by kernel_rfl)
def awM52 : List Mem := ⟨147, awv4, .i 1000⟩ :: awM51
theorem awK52 : KnownM Tryz.prog G0 awM52 := KnownM.cons awc52 awK51
theorem awc53 : PCall Tryz.prog G0 105 ([.agg awv10, .agg [.i 5, .i 0, .i 0, .i 0, .i 10], .agg [.i 9, .i 8, .i 0, .i 0, .i 20], .agg [.i 4, .i 2, .i 0]]) (.agg [.i 1000, .i 8000]) := run_c awK52 (by kernel_rfl)
def awM53 : List Mem := ⟨105, [.agg awv10, .agg [.i 5, .i 0, .i 0, .i 0, .i 10], .agg [.i 9, .i 8, .i 0, .i 0, .i 20], .agg [.i 4, .i 2, .i 0]], .agg [.i 1000, .i 8000]⟩ :: awM52
theorem awK53 : KnownM Tryz.prog G0 awM53 := KnownM.cons awc53 awK52
theorem awc54 : PCall Tryz.prog G0 31 ([.agg awv10, .sl 5 awv0, .agg [.i 4, .i 2, .i 0]]) (.tup [.agg [.i 1000, .i 8000], .i 0]) := run_c awK53 (by kernel_rfl)
def awM54 : List Mem := ⟨31, [.agg awv10, .sl 5 awv0, .agg [.i 4, .i 2, .i 0]], .tup [.agg [.i 1000, .i 8000], .i 0]⟩ :: awM53
theorem awK54 : KnownM Tryz.prog G0 awM54 := KnownM.cons awc54 awK53
theorem awc55 : PCall Tryz.prog G0 43 ([.agg awv10, .i 101]) (.tup [.sl 1 [[.i 61], [.i 40]], .i 0]) := run_c awK54 (by kernel_rfl)
def awM55 : List Mem := ⟨43, [.agg awv10, .i 101], .tup [.sl 1 [[.i 61], [.i 40]], .i 0]⟩ :: awM54
theorem awK55 : KnownM Tryz.prog G0 awM55 := KnownM.cons awc55 awK54
theorem awc56 : PCall Tryz.prog G0 39 ([.sl 5 awv0, .i 2]) (.tup [.sl 5 awv0, .i 0]) := run_c awK55 (by kernel_rfl)
def awM56 : List Mem := ⟨39, [.sl 5 awv0, .i 2], .tup [.sl 5 awv0, .i 0]⟩ :: awM55
theorem awK56 : KnownM Tryz.prog G0 awM56 := KnownM.cons awc56 awK55
theorem awc57 : PCall Tryz.prog G0 39 ([.sl 5 awv0, .i 1]) (.tup [.ex (.slice none 0 0), .i 16]) := run_c awK56 (by kernel_rfl)
def awM57 : List Mem := ⟨39, [.sl 5 awv0, .i 1], .tup [.ex (.slice none 0 0), .i 16]⟩ :: awM56
theorem awK57 : KnownM Tryz.prog G0 awM57 := KnownM.cons awc57 awK56
theorem awc58 : PCall Tryz.prog G0 54 ([.sl 1 [[.i 61], [.i 40]], .sl 1 [[.i 61], [.i 40]]]) (.bool true) := run_c awK57 (by kernel_rfl)
def awM58 : List Mem := ⟨54, [.sl 1 [[.i 61], [.i 40]], .sl 1 [[.i 61], [.i 40]]], .bool true⟩ :: awM57
theorem awK58 : KnownM Tryz.prog G0 awM58 := KnownM.cons awc58 awK57
theorem awc59 : PCall Tryz.prog G0 115 ([.agg [.i 1, .i 0]]) (.i 0) := run_c awK58 (by kernel_rfl)
def awM59 : List Mem := ⟨115, [.agg [.i 1, .i 0]], .i 0⟩ :: awM58
theorem awK59 : KnownM Tryz.prog G0 awM59 := KnownM.cons awc59 awK58
theorem awc60 : PCall Tryz.prog G0 115 ([.agg [.i 3, .i 1]]) (.i 0) := run_c awK59 (by kernel_rfl)
def awM60 : List Mem := ⟨115, [.agg [.i 3, .i 1]], .i 0⟩ :: awM59
theorem awK60 : KnownM Tryz.prog G0 awM60 := KnownM.cons awc60 awK59
theorem awc61 : PCall Tryz.prog G0 116 ([.agg [.i 1, .i 0], .agg [.i 3, .i 1]]) (.i 0) := run_c awK60 (by kernel_rfl)
def awM61 : List Mem := ⟨116, [.agg [.i 1, .i 0], .agg [.i 3, .i 1]], .i 0⟩ :: awM60
theorem awK61 : KnownM Tryz.prog G0 awM61 := KnownM.cons awc61 awK60
theorem awc62 : PCall Tryz.prog G0 41 ([.agg [.i 1, .i 0], .agg [.i 3, .i 1]]) (.tup [.i 0, .i 0]) := run_c awK61 (by kernel_rfl)
def awM62 : List Mem := ⟨41, [.agg [.i 1, .i 0], .agg [.i 3, .i 1]], .tup [.i 0, .i 0]⟩ :: awM61
theorem awK62 : KnownM Tryz.prog G0 awM62 := KnownM.cons awc62 awK61
theorem awc63 : PCall Tryz.prog G0 115 ([.agg [.i 2, .i 2]]) (.i 0) := run_c awK62 (by kernel_rfl)
def awM63 : List Mem := ⟨115, [.agg [.i 2, .i 2]], .i 0⟩ :: awM62
theorem awK63 : KnownM Tryz.prog G0 awM63 := KnownM.cons awc63 awK62
theorem awc64 : PCall Tryz.prog G0 116 ([.agg [.i 1, .i 0], .agg [.i 2, .i 2]]) (.i 1) := run_c awK63 (by kernel_rfl)
def awM64 : List Mem := ⟨116, [.agg [.i 1, .i 0], .agg [.i 2, .i 2]], .i 1⟩ :: awM63
theorem awK64 : KnownM Tryz.prog G0 awM64 := KnownM.cons awc64 awK63
theorem awc65 : PCall Tryz.prog G0 41 ([.agg [.i 1, .i 0], .agg [.i 2, .i 2]]) (.tup [.i 1, .i 0]) := run_c awK64 (by kernel_rfl)
def awM65 : List Mem := ⟨41, [.agg [.i 1, .i 0], .agg [.i 2, .i 2]], .tup [.i 1, .i 0]⟩ :: awM64
theorem awK65 : KnownM Tryz.prog G0 awM65 := KnownM.cons awc65 awK64
theorem awc66 : PCall Tryz.prog G0 115 ([.agg [.i 0, .i 5]]) (.i 0) := run_c awK65 (by kernel_rfl)
def awM66 : List Mem := ⟨115, [.agg [.i 0, .i 5]], .i 0⟩ :: awM65
theorem awK66 : KnownM Tryz.prog G0 awM66 := KnownM.cons awc66 awK65
theorem awc67 : PCall Tryz.prog G0 116 ([.agg [.i 1, .i 0], .agg [.i 0, .i 5]]) (.i 2) := run_c awK66 (by kernel_rfl)
def awM67 : List Mem := ⟨116, [.agg [.i 1, .i 0], .agg [.i 0, .i 5]], .i 2⟩ :: awM66
theorem awK67 : KnownM Tryz.prog G0 awM67 := KnownM.cons awc67 awK66
theorem awc68 : PCall Tryz.prog G0 41 ([.agg [.i 1, .i 0], .agg [.i 0, .i 5]]) (.tup [.i 2, .i 0]) := run_c awK67 (by kernel_rfl)
def awM68 : List Mem := ⟨41, [.agg [.i 1, .i 0], .agg [.i 0, .i 5]], .tup [.i 2, .i 0]⟩ :: awM67
theorem awK68 : KnownM Tryz.prog G0 awM68 := KnownM.cons awc68 awK67
theorem awc69 : PCall Tryz.prog G0 115 ([.agg [.i (-2), .i 2]]) (.i 0) := run_c awK68 (by kernel_rfl)
def awM69 : List Mem := ⟨115, [.agg [.i (-2), .i 2]], .i 0⟩ :: awM68
theorem awK69 : KnownM Tryz.prog G0 awM69 := KnownM.cons awc69 awK68
theorem awc70 : PCall Tryz.prog G0 116 ([.agg [.i 1, .i 0], .agg [.i (-2), .i 2]]) (.i 3) := run_c awK69 (by kernel_rfl)
def awM70 : List Mem := ⟨116, [.agg [.i 1, .i 0], .agg [.i (-2), .i 2]], .i 3⟩ :: awM69
theorem awK70 : KnownM Tryz.prog G0 awM70 := KnownM.cons awc70 awK69
theorem awc71 : PCall Tryz.prog G0 41 ([.agg [.i 1, .i 0], .agg [.i (-2), .i 2]]) (.tup [.i 3, .i 0]) := run_c awK70 (by kernel_rfl)
def awM71 : List Mem := ⟨41, [.agg [.i 1, .i 0], .agg [.i (-2), .i 2]], .tup [.i 3, .i 0]⟩ :: awM70
theorem awK71 : KnownM Tryz.prog G0 awM71 := KnownM.cons awc71 awK70
theorem awc72 : PCall Tryz.prog G0 115 ([.agg [.i (-3), .i 0]]) (.i 0) := run_c awK71 (by kernel_rfl)
def awM72 : List Mem := ⟨115, [.agg [.i (-3), .i 0]], .i 0⟩ :: awM71
theorem awK72 : KnownM Tryz.prog G0 awM72 := KnownM.cons awc72 awK71
theorem awc73 : PCall Tryz.prog G0 116 ([.agg [.i 1, .i 0], .agg [.i (-3), .i 0]]) (.i 4) := run_c awK72 (by kernel_rfl)
def awM73 : List Mem := ⟨116, [.agg [.i 1, .i 0], .agg [.i (-3), .i 0]], .i 4⟩ :: awM72
theorem awK73 : KnownM Tryz.prog G0 awM73 := KnownM.cons awc73 awK72
theorem awc74 : PCall Tryz.prog G0 41 ([.agg [.i 1, .i 0], .agg [.i (-3), .i 0]]) (.tup [.i 4, .i 0]) := run_c awK73 (by kernel_rfl)
def awM74 : List Mem := ⟨41, [.agg [.i 1, .i 0], .agg [.i (-3), .i 0]], .tup [.i 4, .i 0]⟩ :: awM73
theorem awK74 : KnownM Tryz.prog G0 awM74 := KnownM.cons awc74 awK73
theorem awc75 : PCall Tryz.prog G0 115 ([.agg [.i (-1), .i (-1)]]) (.i 0) := run_c awK74 (by kernel_rfl)
def awM75 : List Mem := ⟨115, [.agg [.i (-1), .i (-1)]], .i 0⟩ :: awM74
theorem awK75 : KnownM Tryz.prog G0 awM75 := KnownM.cons awc75 awK74
theorem awc76 : PCall Tryz.prog G0 116 ([.agg [.i 1, .i 0], .agg [.i (-1), .i (-1)]]) (.i 5) := run_c awK75 (by kernel_rfl)
def awM76 : List Mem := ⟨116, [.agg [.i 1, .i 0], .agg [.i (-1), .i (-1)]], .i 5⟩ :: awM75
theorem awK76 : KnownM Tryz.prog G0 awM76 := KnownM.cons awc76 awK75
theorem awc77 : PCall Tryz.prog G0 41 ([.agg [.i 1, .i 0], .agg [.i (-1), .i (-1)]]) (.tup [.i 5, .i 0]) := run_c awK76 (by kernel_rfl)
def awM77 : List Mem := ⟨41, [.agg [.i 1, .i 0], .agg [.i (-1), .i (-1)]], .tup [.i 5, .i 0]⟩ :: awM76
theorem awK77 : KnownM Tryz.prog G0 awM77 := KnownM.cons awc77 awK76
theorem awc78 : PCall Tryz.prog G0 115 ([.agg [.i 0, .i (-4)]]) (.i 0) := run_c awK77 (by kernel_rfl)
def awM78 : List Mem := ⟨115, [.agg [.i 0, .i (-4)]], .i 0⟩ :: awM77
theorem awK78 : KnownM Tryz.prog G0 awM78 := KnownM.cons awc78 awK77
theorem awc79 : PCall Tryz.prog G0 116 ([.agg [.i 1, .i 0], .agg [.i 0, .i (-4)]]) (.i 6) := run_c awK78 (by kernel_rfl)
def awM79 : List Mem := ⟨116, [.agg [.i 1, .i 0], .agg [.i 0, .i (-4)]], .i 6⟩ :: awM78
theorem awK79 : KnownM Tryz.prog G0 awM79 := KnownM.cons awc79 awK78
theorem awc80 : PCall Tryz.prog G0 41 ([.agg [.i 1, .i 0], .agg [.i 0, .i (-4)]]) (.tup [.i 6, .i 0]) := run_c awK79 (by kernel_rfl)
def awM80 : List Mem := ⟨41, [.agg [.i 1, .i 0], .agg [.i 0, .i (-4)]], .tup [.i 6, .i 0]⟩ :: awM79
theorem awK80 : KnownM Tryz.prog G0 awM80 := KnownM.cons awc80 awK79
theorem awc81 : PCall Tryz.prog G0 115 ([.agg [.i 2, .i (-2)]]) (.i 0) := run_c awK80 (by kernel_rfl)
def awM81 : List Mem := ⟨115, [.agg [.i 2, .i (-2)]], .i 0⟩ :: awM80
theorem awK81 : KnownM Tryz.prog G0 awM81 := KnownM.cons awc81 awK80
theorem awc82 : PCall Tryz.prog G0 116 ([.agg [.i 1, .i 0], .agg [.i 2, .i (-2)]]) (.i 7) := run_c awK81 (by kernel_rfl)
def awM82 : List Mem := ⟨116, [.agg [.i 1, .i 0], .agg [.i 2, .i (-2)]], .i 7⟩ :: awM81
theorem awK82 : KnownM Tryz.prog G0 awM82 := KnownM.cons awc82 awK81
theorem awc83 : PCall Tryz.prog G0 41 ([.agg [.i 1, .i 0], .agg [.i 2, .i (-2)]]) (.tup [.i 7, .i 0]) := run_c awK82 (by kernel_rfl)
def awM83 : List Mem := ⟨41, [.agg [.i 1, .i 0], .agg [.i 2, .i (-2)]], .tup [.i 7, .i 0]⟩ :: awM82
theorem awK83 : KnownM Tryz.prog G0 awM83 := KnownM.cons awc83 awK82
theorem awc84 : PCall Tryz.prog G0 88 ([.sl 2 [[.i 0, .i 0], [.i 10, .i 0], [.i 10, .i 5]]]) (.i 0) := run_c awK83 (by kernel_rfl)
def awM84 : List Mem := ⟨88, [.sl 2 [[.i 0, .i 0], [.i 10, .i 0], [.i 10, .i 5]]], .i 0⟩ :: awM83
theorem awK84 : KnownM Tryz.prog G0 awM84 := KnownM.cons awc84 awK83
theorem awc85 : PCall Tryz.prog G0 22 ([.sl 3 [[.i 0, .i 0, .i 100], [.i 10, .i 50, .i 80]]]) (.i 0) := run_c awK84 (by kernel_rfl)
def awM85 : List Mem := ⟨22, [.sl 3 [[.i 0, .i 0, .i 100], [.i 10, .i 50, .i 80]]], .i 0⟩ :: awM84
theorem awK85 : KnownM Tryz.prog G0 awM85 := KnownM.cons awc85 awK84
theorem awc86 : PCall Tryz.prog G0 90 ([.sl 3 [[.i 0, .i 0, .i 100], [.i 10, .i 50, .i 80]], .i 0]) (.agg [.i 0, .i 0, .i 100]) := run_c awK85 (by kernel_rfl)
def awM86 : List Mem := ⟨90, [.sl 3 [[.i 0, .i 0, .i 100], [.i 10, .i 50, .i 80]], .i 0], .agg [.i 0, .i 0, .i 100]⟩ :: awM85
theorem awK86 : KnownM Tryz.prog G0 awM86 := KnownM.cons awc86 awK85
theorem awc87 : PCall Tryz.prog G0 90 ([.sl 3 [[.i 0, .i 0, .i 100], [.i 10, .i 50, .i 80]], .i 10]) (.agg [.i 10, .i 50, .i 80]) := run_c awK86 (by kernel_rfl)
def awM87 : List Mem := ⟨90, [.sl 3 [[.i 0, .i 0, .i 100], [.i 10, .i 50, .i 80]], .i 10], .agg [.i 10, .i 50, .i 80]⟩ :: awM86
theorem awK87 : KnownM Tryz.prog G0 awM87 := KnownM.cons awc87 awK86
theorem awc88 : PCall Tryz.prog G0 90 ([.sl 3 [[.i 0, .i 0, .i 100], [.i 10, .i 50, .i 80]], .i 15]) (.agg [.i 10, .i 50, .i 80]) := run_c awK87 (by kernel_rfl)
def awM88 : List Mem := ⟨90, [.sl 3 [[.i 0, .i 0, .i 100], [.i 10, .i 50, .i 80]], .i 15], .agg [.i 10, .i 50, .i 80]⟩ :: awM87
theorem awK88 : KnownM Tryz.prog G0 awM88 := KnownM.cons awc88 awK87
theorem awc89 : PCall Tryz.prog G0 134 ([.agg [.i 100, .i 0, .i 0, .i 0, .i 100]]) (.i 0) := run_c awK88 (by kernel_rfl)
def awM89 : List Mem := ⟨134, [.agg [.i 100, .i 0, .i 0, .i 0, .i 100]], .i 0⟩ :: awM88
theorem awK89 : KnownM Tryz.prog G0 awM89 := KnownM.cons awc89 awK88
theorem awc90 : PCall Tryz.prog G0 104 ([.agg [.i 10, .i 0, .i 50]]) (.i 0) := run_c awK89 (by kernel_rfl)
def awM90 : List Mem := ⟨104, [.agg [.i 10, .i 0, .i 50]], .i 0⟩ :: awM89
theorem awK90 : KnownM Tryz.prog G0 awM90 := KnownM.cons awc90 awK89
theorem awc91 : PCall Tryz.prog G0 134 ([.agg [.i 103, .i 10, .i 0, .i 50, .i 80]]) (.i 0) := run_c awK90 (by kernel_rfl)
def awM91 : List Mem := ⟨134, [.agg [.i 103, .i 10, .i 0, .i 50, .i 80]], .i 0⟩ :: awM90
theorem awK91 : KnownM Tryz.prog G0 awM91 := KnownM.cons awc91 awK90
theorem awc92 : PCall Tryz.prog G0 104 ([.agg [.i 10, .i 5, .i 50]]) (.i 0) := run_c awK91 (by kernel_rfl)
def awM92 : List Mem := ⟨104, [.agg [.i 10, .i 5, .i 50]], .i 0⟩ :: awM91
theorem awK92 : KnownM Tryz.prog G0 awM92 := KnownM.cons awc92 awK91
theorem awc93 : PCall Tryz.prog G0 134 ([.agg [.i 104, .i 10, .i 5, .i 50, .i 80]]) (.i 0) := run_c awK92 (by kernel_rfl)
def awM93 : List Mem := ⟨134, [.agg [.i 104, .i 10, .i 5, .i 50, .i 80]], .i 0⟩ :: awM92
theorem awK93 : KnownM Tryz.prog G0 awM93 := KnownM.cons awc93 awK92
theorem awc94 : PCall Tryz.prog G0 76 ([.sl 5 awv5]) (.i 0) := run_c awK93 (by kernel_rfl)
def awM94 : List Mem := ⟨76, [.sl 5 awv5], .i 0⟩ :: awM93
theorem awK94 : KnownM Tryz.prog G0 awM94 := KnownM.cons awc94 awK93
theorem awc95 : PCall Tryz.prog G0 14 ([.sl 2 [[.i 0, .i 0], [.i 10, .i 0], [.i 10, .i 5]], .sl 3 [[.i 0, .i 0, .i 100], [.i 10, .i 50, .i 80]], .i 4, .i 100]) (.tup [.sl 5 awv5, .i 0]) := run_c awK94 (by kernel_rfl)
def awM95 : List Mem := ⟨14, [.sl 2 [[.i 0, .i 0], [.i 10, .i 0], [.i 10, .i 5]], .sl 3 [[.i 0, .i 0, .i 100], [.i 10, .i 50, .i 80]], .i 4, .i 100], .tup [.sl 5 awv5, .i 0]⟩ :: awM94
theorem awK95 : KnownM Tryz.prog G0 awM95 := KnownM.cons awc95 awK94
theorem awc96 : PCall Tryz.prog G0 122 ([.str [111, 110, 101]]) (.bool true) := run_c awK95 (by kernel_rfl)
def awM96 : List Mem := ⟨122, [.str [111, 110, 101]], .bool true⟩ :: awM95
theorem awK96 : KnownM Tryz.prog G0 awM96 := KnownM.cons awc96 awK95
theorem awc97 : PCall Tryz.prog G0 122 ([.str [116, 119, 111]]) (.bool true) := run_c awK96 (by kernel_rfl)
def awM97 : List Mem := ⟨122, [.str [116, 119, 111]], .bool true⟩ :: awM96
theorem awK97 : KnownM Tryz.prog G0 awM97 := KnownM.cons awc97 awK96
theorem awc98 : PCall Tryz.prog G0 70 ([.sl 13 awv11, .sl 3 awv12]) (.i 0) := run_c awK97 (by kernel_rfl)
def awM98 : List Mem := ⟨70, [.sl 13 awv11, .sl 3 awv12], .i 0⟩ :: awM97
theorem awK98 : KnownM Tryz.prog G0 awM98 := KnownM.cons awc98 awK97
theorem awc99 : PCall Tryz.prog G0 100 ([.agg awv10, .sl 5 awv0, .agg [.i 5, .i 9], .agg [.i 4, .i 2, .i 0]]) (.i 2700) := run_c awK98 (by kernel_rfl)
def awM99 : List Mem := ⟨100, [.agg awv10, .sl 5 awv0, .agg [.i 5, .i 9], .agg [.i 4, .i 2, .i 0]], .i 2700⟩ :: awM98
theorem awK99 : KnownM Tryz.prog G0 awM99 := KnownM.cons awc99 awK98
theorem awc100 : PCall Tryz.prog G0 155 ([.agg awv6, .elt 1 awv15 0 0, .elt 3 [[.i 4, .i 2, .i 0]] 0 0]) (.agg awv8) := run_c awK99 (by kernel_rfl)
def awM100 : List Mem := ⟨155, [.agg awv6, .elt 1 awv15 0 0, .elt 3 [[.i 4, .i 2, .i 0]] 0 0], .agg awv8⟩ :: awM99
theorem awK100 : KnownM Tryz.prog G0 awM100 := KnownM.cons awc100 awK99
theorem awc101 : PCall Tryz.prog G0 155 ([.agg awv7, .elt 1 awv15 0 0, .elt 3 [[.i 4, .i 2, .i 0]] 0 0]) (.agg awv9) := run_c awK100 (by kernel_rfl)
def awM101 : List Mem := ⟨155, [.agg awv7, .elt 1 awv15 0 0, .elt 3 [[.i 4, .i 2, .i 0]] 0 0], .agg awv9⟩ :: awM100
theorem awK101 : KnownM Tryz.prog G0 awM101 := KnownM.cons awc101 awK100
theorem awc102 : PCall Tryz.prog G0 127 (awv22) (.tup [.sl 4 awv19, .i 0]) := run_c awK101 (by kernel_rfl)
def awM102 : List Mem := ⟨127, awv22, .tup [.sl 4 awv19, .i 0]⟩ :: awM101
theorem awK102 : KnownM Tryz.prog G0 awM102 := KnownM.cons awc102 awK101
theorem awc103 : PCall Tryz.prog G0 128 ([.sl 4 awv19]) (.sl 1 [[.i 2700], [.i 2700]]) := run_c awK102 (by kernel_rfl)
def awM103 : List Mem := ⟨128, [.sl 4 awv19], .sl 1 [[.i 2700], [.i 2700]]⟩ :: awM102
theorem awK103 : KnownM Tryz.prog G0 awM103 := KnownM.cons awc103 awK102
theorem awc104 : PCall Tryz.prog G0 61 (awv22) (.tup [.i 5400, .i 0]) := run_c awK103 (by kernel_rfl)
def awM104 : List Mem := ⟨61, awv22, .tup [.i 5400, .i 0]⟩ :: awM103
theorem awK104 : KnownM Tryz.prog G0 awM104 := KnownM.cons awc104 awK103
theorem awc105 : PCall Tryz.prog G0 130 ([.agg awv9, .agg awv8]) (.i 0) := run_c awK104 (by kernel_rfl)
def awM105 : List Mem := ⟨130, [.agg awv9, .agg awv8], .i 0⟩ :: awM104
theorem awK105 : KnownM Tryz.prog G0 awM105 := KnownM.cons awc105 awK104
theorem awc106 : PCall Tryz.prog G0 65 (awv22) (.tup [.str [111, 110, 101], .i 0]) := run_c awK105 (by kernel_rfl)
def awM106 : List Mem := ⟨65, awv22, .tup [.str [111, 110, 101], .i 0]⟩ :: awM105
theorem awK106 : KnownM Tryz.prog G0 awM106 := KnownM.cons awc106 awK105
theorem awc107 : PCall Tryz.prog G0 135 ([.str [116, 121, 112, 101, 32, 106, 101, 116], .sl 1 [[.i 500]]]) (.str [116, 121, 112, 101, 32, 106, 101, 116, 32, 53, 48, 48, 10]) := run_c awK106 (by kernel_rfl)
def awM107 : List Mem := ⟨135, [.str [116, 121, 112, 101, 32, 106, 101, 116], .sl 1 [[.i 500]]], .str [116, 121, 112, 101, 32, 106, 101, 116, 32, 53, 48, 48, 10]⟩ :: awM106
theorem awK107 : KnownM Tryz.prog G0 awM107 := KnownM.cons awc107 awK106
theorem awc108 : PCall Tryz.prog G0 135 ([.str [115, 104, 97, 114, 101, 115], .sl 1 [[.i 600], [.i 400]]]) (.str [115, 104, 97, 114, 101, 115, 32, 54, 48, 48, 32, 52, 48, 48, 10]) := run_c awK107 (by kernel_rfl)
def awM108 : List Mem := ⟨135, [.str [115, 104, 97, 114, 101, 115], .sl 1 [[.i 600], [.i 400]]], .str [115, 104, 97, 114, 101, 115, 32, 54, 48, 48, 32, 52, 48, 48, 10]⟩ :: awM107
theorem awK108 : KnownM Tryz.prog G0 awM108 := KnownM.cons awc108 awK107
theorem awc109 : PCall Tryz.prog G0 135 ([.str [100, 105, 114, 101, 99, 116], .sl 1 awv3]) (.str [100, 105, 114, 101, 99, 116, 32, 49, 48, 48, 48, 32, 49, 48, 48, 48, 32, 49, 48, 48, 48, 32, 49, 48, 48, 48, 32, 53, 48, 48, 32, 53, 48, 48, 32, 53, 48, 48, 32, 53, 48, 48, 10]) := run_c awK108 (by kernel_rfl)
def awM109 : List Mem := ⟨135, [.str [100, 105, 114, 101, 99, 116], .sl 1 awv3], .str [100, 105, 114, 101, 99, 116, 32, 49, 48, 48, 48, 32, 49, 48, 48, 48, 32, 49, 48, 48, 48, 32, 49, 48, 48, 48, 32, 53, 48, 48, 32, 53, 48, 48, 32, 53, 48, 48, 32, 53, 48, 48, 10]⟩ :: awM108
theorem awK109 : KnownM Tryz.prog G0 awM109 := KnownM.cons awc109 awK108
theorem awc110 : PCall Tryz.prog G0 135 ([.str [115, 113, 117, 97, 114, 101, 115], .sl 1 [[.i 0], [.i 100]]]) (.str [115, 113, 117, 97, 114, 101, 115, 32, 48, 32, 49, 48, 48, 10]) := run_c awK109 (by kernel_rfl)
def awM110 : List Mem := ⟨135, [.str [115, 113, 117, 97, 114, 101, 115], .sl 1 [[.i 0], [.i 100]]], .str [115, 113, 117, 97, 114, 101, 115, 32, 48, 32, 49, 48, 48, 10]⟩ :: awM109
theorem awK110 : KnownM Tryz.prog G0 awM110 := KnownM.cons awc110 awK109
theorem awc111 : PCall Tryz.prog G0 135 ([.str [112, 111, 119, 101, 114], .sl 1 [[.i 10], [.i 1000], [.i 400]]]) (.str [112, 111, 119, 101, 114, 32, 49, 48, 32, 49, 48, 48, 48, 32, 52, 48, 48, 10]) := run_c awK110 (by kernel_rfl)
def awM111 : List Mem := ⟨135, [.str [112, 111, 119, 101, 114], .sl 1 [[.i 10], [.i 1000], [.i 400]]], .str [112, 111, 119, 101, 114, 32, 49, 48, 32, 49, 48, 48, 48, 32, 52, 48, 48, 10]⟩ :: awM110
theorem awK111 : KnownM Tryz.prog G0 awM111 := KnownM.cons awc111 awK110
theorem awc112 : PCall Tryz.prog G0 135 ([.str [112, 111, 119, 101, 114], .sl 1 [[.i 20], [.i 2000], [.i 600]]]) (.str [112, 111, 119, 101, 114, 32, 50, 48, 32, 50, 48, 48, 48, 32, 54, 48, 48, 10]) := run_c awK111 (by kernel_rfl)
def awM112 : List Mem := ⟨135, [.str [112, 111, 119, 101, 114], .sl 1 [[.i 20], [.i 2000], [.i 600]]], .str [112, 111, 119, 101, 114, 32, 50, 48, 32, 50, 48, 48, 48, 32, 54, 48, 48, 10]⟩ :: awM111
theorem awK112 : KnownM Tryz.prog G0 awM112 := KnownM.cons awc112 awK111
theorem awc113 : PCall Tryz.prog G0 77 (awv13) (.tup [.str [116, 121, 112, 101, 32, 106, 101, 116, 32, 53, 48, 48, 10, 115, 104, 97, 114, 101, 115, 32, 54, 48, 48, 32, 52, 48, 48, 10, 100, 105, 114, 101, 99, 116, 32, 49, 48, 48, 48, 32, 49, 48, 48, 48, 32, 49, 48, 48, 48, 32, 49, 48, 48, 48, 32, 53, 48, 48, 32, 53, 48, 48, 32, 53, 48, 48, 32, 53, 48, 48, 10, 115, 113, 117, 97, 114, 101, 115, 32, 48, 32, 49, 48, 48, 10, 112, 111, 119, 101, 114, 32, 49, 48, 32, 49, 48, 48, 48, 32, 52, 48, 48, 10, 112, 111, 119, 101, 114, 32, 50, 48, 32, 50, 48, 48, 48, 32, 54, 48, 48, 10], .i 0]) := run_c awK112 (by kernel_rfl)
def awM113 : List Mem := ⟨77, awv13, .tup [.str [116, 121, 112, 101, 32, 106, 101, 116, 32, 53, 48, 48, 10, 115, 104, 97, 114, 101, 115, 32, 54, 48, 48, 32, 52, 48, 48, 10, 100, 105, 114, 101, 99, 116, 32, 49, 48, 48, 48, 32, 49, 48, 48, 48, 32, 49, 48, 48, 48, 32, 49, 48, 48, 48, 32, 53, 48, 48, 32, 53, 48, 48, 32, 53, 48, 48, 32, 53, 48, 48, 10, 115, 113, 117, 97, 114, 101, 115, 32, 48, 32, 49, 48, 48, 10, 112, 111, 119, 101, 114, 32, 49, 48, 32, 49, 48, 48, 48, 32, 52, 48, 48, 10, 112, 111, 119, 101, 114, 32, 50, 48, 32, 50, 48, 48, 48, 32, 54, 48, 48, 10], .i 0]⟩ :: awM112
theorem awK113 : KnownM Tryz.prog G0 awM113 := KnownM.cons awc113 awK112
theorem awc114 : PCall Tryz.prog G0 56 ([.sl 5 awv0, .i 9]) (.tup [.agg [.i 0, .i 0, .i 0, .i 0, .i 0, .i 0], .i 7]) := run_c awK113 (by kernel_rfl)
def awM114 : List Mem := ⟨56, [.sl 5 awv0, .i 9], .tup [.agg [.i 0, .i 0, .i 0, .i 0, .i 0, .i 0], .i 7]⟩ :: awM113
theorem awK114 : KnownM Tryz.prog G0 awM114 := KnownM.cons awc114 awK113
theorem awc115 : PCall Tryz.prog G0 13 ([]) (.bool true) := run_c awK114 (by kernel_rfl)
end Go.Proofs.YtjhjmncjidbieaaGreatDoor
namespace Go.Proofs.YtjhjmncjidbieaaGreatDoor
open Go Go.Av Go.RowKit Go.ChangeShapes Go.WideShapes
theorem hA : PCall Tryz.prog G0 13 [] (.bool true) := awc115
theorem laidOut : laidOutB Tryz.prog = true := by kernel_rfl
theorem own : ownKnob Tryz.prog.godebug = none := by kernel_rfl
def laid5 : List (String × DataW Unit) := Rows.sourcePathsRow.laid
theorem door_met (os : Os) (args : Array Value) : laidMetH Tryz.prog laid5 ((World.doorLaid Tryz.prog 400 os).forCall (fun _ _ => 0) ⟨#[], args, []⟩).memory :=
  laidMetH_of_parts3 (fuel := 8) (laidMet_of_run' 8 (by kernel_rfl) (by kernel_rfl)) (by kernel_rfl) (by kernel_rfl)
theorem globs {W : World} (h : laidMetH Tryz.prog laid5 W) : ∀ g cells, lk g G0 = some cells → GlobOK NoX W g cells := by
  rw [MakeChecks.laidMetH_plain _ _ _ (by kernel_rfl)] at h
  obtain ⟨ps, hl, _⟩ := h
  have m0 := laid_glob (T := T0) tok (n := 8) (name := "flyover/flyoverlaw02.turned") (d := Rows.laid_flyover_flyoverlaw02_turned) (g := 0) (t := 165) (cells := nthR (G0.map (·.2)) 0) (by kernel_rfl) (by kernel_rfl) (by kernel_rfl) (by kernel_rfl) (by kernel_rfl) (by simp [nthR, G0]) (laid := laid5) (ps := ps) (by simp [laid5, Rows.sourcePathsRow]) hl
  have m1 := laid_glob (T := T0) tok (n := 8) (name := "flyover/source.words") (d := Rows.laid_flyover_source_words) (g := 1) (t := 219) (cells := nthR (G0.map (·.2)) 1) (by kernel_rfl) (by kernel_rfl) (by kernel_rfl) (by kernel_rfl) (by kernel_rfl) (by simp [nthR, G0]) (laid := laid5) (ps := ps) (by simp [laid5, Rows.sourcePathsRow]) hl
  have m4 := laid_glob (T := T0) tok (n := 8) (name := "internal/strconv.uint64pow10") (d := Rows.laid_internal_strconv_uint64pow10) (g := 4) (t := 285) (cells := nthR (G0.map (·.2)) 2) (by kernel_rfl) (by kernel_rfl) (by kernel_rfl) (by kernel_rfl) (by kernel_rfl) (by simp [nthR, G0]) (laid := laid5) (ps := ps) (by simp [laid5, Rows.sourcePathsRow]) hl
  intro g cells hg
  obtain ⟨u, hu, e1⟩ := lk_mem hg
  subst e1
  simp only [G0, List.mem_cons, List.not_mem_nil, or_false, Prod.mk.injEq] at hu
  rcases hu with ⟨rfl, rfl⟩ | ⟨rfl, rfl⟩ | ⟨rfl, rfl⟩
  · exact m0
  · exact m1
  · exact m4
theorem wf64 {x : Int} (h : (Lit.int .i64 x).wf = true) : In64 x := by
  simp only [Lit.wf, Bool.and_eq_true, decide_eq_true_eq] at h
  exact h
theorem pt_of {n : Nat} {r : List AV} (hn : shapeT T0 n 85 = [.int .i64, .int .i64]) (hp : plainT T0 n 85 = true) (h : ASh T0 n 85 r) : ∃ x : Pt, r = encPt x ∧ In64 x.x ∧ In64 x.y := by
  have := ash_shape n 85 r hp h
  rw [hn] at this
  obtain ⟨_, _, rfl, ⟨x, rfl, hx⟩, _, _, rfl, ⟨y, rfl, hy⟩, rfl⟩ := this
  exact ⟨⟨x, y⟩, rfl, wf64 hx, wf64 hy⟩
theorem st_of {n : Nat} {r : List AV} (hn : shapeT T0 n 81 = [.int .i64, .int .i64, .int .i64]) (hp : plainT T0 n 81 = true) (h : ASh T0 n 81 r) : ∃ x : St, r = encSt x ∧ In64 x.a ∧ In64 x.h ∧ In64 x.p := by
  have := ash_shape n 81 r hp h
  rw [hn] at this
  obtain ⟨_, _, rfl, ⟨x, rfl, hx⟩, _, _, rfl, ⟨y, rfl, hy⟩, _, _, rfl, ⟨z, rfl, hz⟩, rfl⟩ := this
  exact ⟨⟨x, y, z⟩, rfl, wf64 hx, wf64 hy, wf64 hz⟩
theorem path_arg {a : AV} (h : ASh1 T0 8 22 a) : ∃ l : List Pt, a = .sl 2 (l.map encPt) ∧ l.length ≤ maxLen ∧ ∀ x, x ∈ l → In64 x.x ∧ In64 x.y := by
  obtain ⟨rows, rfl, hl, hr⟩ := ash1_one (c := .sl 7 85 2) (ti := ⟨(.slice 85 2 16), 1, 24, false, [.ex (.slice none 0 0)], false⟩) (by kernel_rfl) rfl (by kernel_rfl) (by kernel_rfl) h
  obtain ⟨l, rfl, hq⟩ := rows_enc (enc := encPt) (Q := fun x => In64 x.x ∧ In64 x.y) (fun r hm => pt_of (by kernel_rfl) (by kernel_rfl) (hr r hm))
  exact ⟨l, rfl, by simpa using hl, hq⟩
theorem steps_arg {a : AV} (h : ASh1 T0 8 23 a) : ∃ l : List St, a = .sl 3 (l.map encSt) ∧ l.length ≤ maxLen ∧ ∀ x, x ∈ l → In64 x.a ∧ In64 x.h ∧ In64 x.p := by
  obtain ⟨rows, rfl, hl, hr⟩ := ash1_one (c := .sl 7 81 3) (ti := ⟨(.slice 81 3 24), 1, 24, false, [.ex (.slice none 0 0)], false⟩) (by kernel_rfl) rfl (by kernel_rfl) (by kernel_rfl) h
  obtain ⟨l, rfl, hq⟩ := rows_enc (enc := encSt) (Q := fun x => In64 x.a ∧ In64 x.h ∧ In64 x.p) (fun r hm => st_of (by kernel_rfl) (by kernel_rfl) (hr r hm))
  exact ⟨l, rfl, by simpa using hl, hq⟩
end Go.Proofs.YtjhjmncjidbieaaGreatDoor
namespace Go.Proofs.YtjhjmncjidbieaaGreatDoor
open Go Go.Av Go.RowKit Go.ChangeShapes Go.WideShapes
end Go.Proofs.YtjhjmncjidbieaaGreatDoor
namespace Go.Proofs.YtjhjmncjidbieaaGreatDoor
open Go Go.Av Go.RowKit Go.ChangeShapes Go.WideShapes
end Go.Proofs.YtjhjmncjidbieaaGreatDoor
