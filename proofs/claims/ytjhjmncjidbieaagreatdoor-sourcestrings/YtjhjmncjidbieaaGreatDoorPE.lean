/-
  Calls on concrete values. The arguments of chapter 2's statements, and the way from a contract of a statement to its row. A type, and what is asked of it, as arguments. Contracts from the parts of a body. No condition but the theorems' own.
-/
import Derived.Test.YtjhjmncjidbieaaGreatDoorPD
import Derived.Test.YtjhjmncjidbieaaGreatDoorPB
import Derived.Test.YtjhjmncjidbieaaGreatDoorAvD
import Derived.Test.YtjhjmncjidbieaaGreatDoorCards
import Derived.Test.YtjhjmncjidbieaaGreatDoorTie
import Derived.LaidMore
import Derived.LaidOnce
import Derived.LaidHandle
import Derived.Lay
import Derived.Stop.Joined
import Derived.SevenTiedAt
import Derived.Shelf.Strings.Builder1
import Derived.Shelf.Strings.Builder2
import Derived.Shelf.Strings.OnBuilder
import Derived.Shelf.Small.Strs
import Derived.Shelf.Strconv.Itoa0
import Derived.Shelf.Strconv.Itoa1
import Derived.Shelf.LaysM
import Derived.Shelf.Strconv.Itoa2
import Derived.Shelf.Strconv.Itoa3
import Derived.Shelf.Strings.Search1
import Derived.Shelf.Strings.Search2
import Derived.Shelf.Strings.Search3
import Derived.Shelf.Strings.Count
import Derived.Shelf.Strings.Shaped
import Derived.Shelf.Strings.Split
import Derived.Shelf.Unicode.DecodeSlow
import Derived.Test.YtjhjmncjidbieaaGreatDoorProg
import Derived.Test.YtjhjmncjidbieaaGreatDoorPC
namespace Go.Proofs.YtjhjmncjidbieaaGreatDoor
open Go Go.Av Go.RowKit
def awv0:List (List AV):=[[.i 5,.i 0,.i 0,.i 0,.i 10],[.i 9,.i 8,.i 0,.i 0,.i 20]]
def awv1:List (List AV):=[[.i 10,.sl 1 [[.i 1000],[.i 400]]],[.i 20,.sl 1 [[.i 2000],[.i 600]]]]
def awv2:List AV:=[.sl 5 awv0,.i 6]
def awv3:List (List AV):=[[.i 1000],[.i 1000],[.i 1000],[.i 1000],[.i 500],[.i 500],[.i 500],[.i 500]]
def awv4:List AV:=[.sl 1 awv3]
def awv5:List (List AV):=[[.i 100,.i 0,.i 0,.i 0,.i 100],[.i 103,.i 10,.i 0,.i 50,.i 80],[.i 104,.i 10,.i 5,.i 50,.i 80]]
def awv6:List AV:=[.str [111,110,101],.str [106,101,116],.sl 5 awv0]
def awv7:List AV:=[.str [116,119,111],.str [106,101,116],.sl 5 awv0]
def awv8:List AV:=[.str [111,110,101],.str [106,101,116],.sl 5 awv0,.i 2700]
def awv9:List AV:=[.str [116,119,111],.str [106,101,116],.sl 5 awv0,.i 2700]
def awv10:List AV:=[.str [106,101,116],.sl 1 [[.i 600],[.i 400]],.i 1000,.i 1000,.i 1000,.i 1000,.i 500,.i 500,.i 500,.i 500,.i 500,.sl 1 [[.i 0],[.i 100]],.sl 2 awv1]
def awv11:List (List AV):=[awv10]
def awv12:List (List AV):=[awv6,awv7]
def awv13:List AV:=[.agg awv10]
def awv14:List AV:=[.sl 13 awv11]
def awv15:List (List AV):=[awv14]
def awv16:List AV:=[.agg awv10,.i 30,.i 0]
def awv17:List AV:=[.agg awv10,.i 15,.i 99]
def awv18:List AV:=[.agg awv10,.i 15,.i 100]
def awv19:List (List AV):=[awv8,awv9]
def awv20:List AV:=[.agg awv10,.sl 5 awv0,.agg [.i 6,.i 8],.agg [.i 4,.i 2,.i 0]]
def awv21:List AV:=[.agg awv10,.sl 5 awv0,.agg [.i 0,.i 100000000],.agg [.i 4,.i 2,.i 0]]
def awv22:List AV:=[.sl 13 awv11,.sl 3 awv12,.agg [.i 4,.i 2,.i 0]]
def awM0:List Mem:=[]
theorem awK0:KnownM Tryz.prog G0 awM0:=KnownM.nil
theorem awc1:PCall Tryz.prog G0 122 ([.str [106,101,116]]) (.bool true):=run_c awK0 (by kernel_rfl)
def awM1:List Mem:=⟨122,[.str [106,101,116]],.bool true⟩::awM0
theorem awK1:KnownM Tryz.prog G0 awM1:=KnownM.cons awc1 awK0
theorem awc2:PCall Tryz.prog G0 123 ([.i 2,.i 8]) (.i 0):=run_c awK1 (by kernel_rfl)
def awM2:List Mem:=⟨123,[.i 2,.i 8],.i 0⟩::awM1
theorem awK2:KnownM Tryz.prog G0 awM2:=KnownM.cons awc2 awK1
theorem awc3:PCall Tryz.prog G0 124 ([.sl 1 [[.i 600],[.i 400]],.i 1000]) (.i 0):=run_c awK2 (by kernel_rfl)
def awM3:List Mem:=⟨124,[.sl 1 [[.i 600],[.i 400]],.i 1000],.i 0⟩::awM2
theorem awK3:KnownM Tryz.prog G0 awM3:=KnownM.cons awc3 awK2
theorem awc4:PCall Tryz.prog G0 87 ([.sl 1 [[.i 0],[.i 0],[.i 0],[.i 0]]]) (.i 0):=run_c awK3 (by kernel_rfl)
def awM4:List Mem:=⟨87,[.sl 1 [[.i 0],[.i 0],[.i 0],[.i 0]]],.i 0⟩::awM3
theorem awK4:KnownM Tryz.prog G0 awM4:=KnownM.cons awc4 awK3
theorem awc5:PCall Tryz.prog G0 87 ([.sl 1 [[.i 0],[.i 0],[.i 0],[.i 0],[.i 0],[.i 0],[.i 0],[.i 0]]]) (.i 0):=run_c awK4 (by kernel_rfl)
def awM5:List Mem:=⟨87,[.sl 1 [[.i 0],[.i 0],[.i 0],[.i 0],[.i 0],[.i 0],[.i 0],[.i 0]]],.i 0⟩::awM4
theorem awK5:KnownM Tryz.prog G0 awM5:=KnownM.cons awc5 awK4
theorem awc6:PCall Tryz.prog G0 124 ([.sl 1 awv3,.i 2000]) (.i 0):=run_c awK5 (by kernel_rfl)
def awM6:List Mem:=⟨124,[.sl 1 awv3,.i 2000],.i 0⟩::awM5
theorem awK6:KnownM Tryz.prog G0 awM6:=KnownM.cons awc6 awK5
theorem awc7:PCall Tryz.prog G0 124 ([.sl 1 [[.i 0],[.i 100]],.i 100000000000]) (.i 0):=run_c awK6 (by kernel_rfl)
def awM7:List Mem:=⟨124,[.sl 1 [[.i 0],[.i 100]],.i 100000000000],.i 0⟩::awM6
theorem awK7:KnownM Tryz.prog G0 awM7:=KnownM.cons awc7 awK6
theorem awc8:PCall Tryz.prog G0 123 ([.i 2,.i 6]) (.i 0):=run_c awK7 (by kernel_rfl)
def awM8:List Mem:=⟨123,[.i 2,.i 6],.i 0⟩::awM7
theorem awK8:KnownM Tryz.prog G0 awM8:=KnownM.cons awc8 awK7
theorem awc9:PCall Tryz.prog G0 124 ([.sl 1 [[.i 1000],[.i 400]],.i 100000000]) (.i 0):=run_c awK8 (by kernel_rfl)
def awM9:List Mem:=⟨124,[.sl 1 [[.i 1000],[.i 400]],.i 100000000],.i 0⟩::awM8
theorem awK9:KnownM Tryz.prog G0 awM9:=KnownM.cons awc9 awK8
theorem awc10:PCall Tryz.prog G0 124 ([.sl 1 [[.i 2000],[.i 600]],.i 100000000]) (.i 0):=run_c awK9 (by kernel_rfl)
def awM10:List Mem:=⟨124,[.sl 1 [[.i 2000],[.i 600]],.i 100000000],.i 0⟩::awM9
theorem awK10:KnownM Tryz.prog G0 awM10:=KnownM.cons awc10 awK9
theorem awc11:PCall Tryz.prog G0 125 (awv13) (.i 0):=run_c awK10 (by kernel_rfl)
def awM11:List Mem:=⟨125,awv13,.i 0⟩::awM10
theorem awK11:KnownM Tryz.prog G0 awM11:=KnownM.cons awc11 awK10
theorem awc12:PCall Tryz.prog G0 53 (awv13) (.i 0):=run_c awK11 (by kernel_rfl)
def awM12:List Mem:=⟨53,awv13,.i 0⟩::awM11
theorem awK12:KnownM Tryz.prog G0 awM12:=KnownM.cons awc12 awK11
theorem awc13:PCall Tryz.prog G0 87 ([.sl 1 [[.i 0],[.i 0],[.i 0]]]) (.i 0):=run_c awK12 (by kernel_rfl)
def awM13:List Mem:=⟨87,[.sl 1 [[.i 0],[.i 0],[.i 0]]],.i 0⟩::awM12
theorem awK13:KnownM Tryz.prog G0 awM13:=KnownM.cons awc13 awK12
theorem awc14:PCall Tryz.prog G0 114 (awv17) (.i 1500):=run_c awK13 (by kernel_rfl)
def awM14:List Mem:=⟨114,awv17,.i 1500⟩::awM13
theorem awK14:KnownM Tryz.prog G0 awM14:=KnownM.cons awc14 awK13
theorem awc15:PCall Tryz.prog G0 40 (awv17) (.tup [.i 1500,.i 0]):=run_c awK14 (by kernel_rfl)
def awM15:List Mem:=⟨40,awv17,.tup [.i 1500,.i 0]⟩::awM14
theorem awK15:KnownM Tryz.prog G0 awM15:=KnownM.cons awc15 awK14
theorem awc16:PCall Tryz.prog G0 114 (awv18) (.i 500):=run_c awK15 (by kernel_rfl)
def awM16:List Mem:=⟨114,awv18,.i 500⟩::awM15
theorem awK16:KnownM Tryz.prog G0 awM16:=KnownM.cons awc16 awK15
theorem awc17:PCall Tryz.prog G0 40 (awv18) (.tup [.i 500,.i 0]):=run_c awK16 (by kernel_rfl)
def awM17:List Mem:=⟨40,awv18,.tup [.i 500,.i 0]⟩::awM16
theorem awK17:KnownM Tryz.prog G0 awM17:=KnownM.cons awc17 awK16
theorem awc18:PCall Tryz.prog G0 114 (awv16) (.i 2000):=run_c awK17 (by kernel_rfl)
def awM18:List Mem:=⟨114,awv16,.i 2000⟩::awM17
theorem awK18:KnownM Tryz.prog G0 awM18:=KnownM.cons awc18 awK17
theorem awc19:PCall Tryz.prog G0 40 (awv16) (.tup [.i 2000,.i 0]):=run_c awK18 (by kernel_rfl)
def awM19:List Mem:=⟨40,awv16,.tup [.i 2000,.i 0]⟩::awM18
theorem awK19:KnownM Tryz.prog G0 awM19:=KnownM.cons awc19 awK18
theorem awc20:PCall Tryz.prog G0 104 ([.agg [.i 0,.i 0,.i 0]]) (.i 0):=run_c awK19 (by kernel_rfl)
def awM20:List Mem:=⟨104,[.agg [.i 0,.i 0,.i 0]],.i 0⟩::awM19
theorem awK20:KnownM Tryz.prog G0 awM20:=KnownM.cons awc20 awK19
theorem awc21:PCall Tryz.prog G0 134 ([.agg [.i 5,.i 0,.i 0,.i 0,.i 10]]) (.i 0):=run_c awK20 (by kernel_rfl)
def awM21:List Mem:=⟨134,[.agg [.i 5,.i 0,.i 0,.i 0,.i 10]],.i 0⟩::awM20
theorem awK21:KnownM Tryz.prog G0 awM21:=KnownM.cons awc21 awK20
theorem awc22:PCall Tryz.prog G0 104 ([.agg [.i 8,.i 0,.i 0]]) (.i 0):=run_c awK21 (by kernel_rfl)
def awM22:List Mem:=⟨104,[.agg [.i 8,.i 0,.i 0]],.i 0⟩::awM21
theorem awK22:KnownM Tryz.prog G0 awM22:=KnownM.cons awc22 awK21
theorem awc23:PCall Tryz.prog G0 134 ([.agg [.i 9,.i 8,.i 0,.i 0,.i 20]]) (.i 0):=run_c awK22 (by kernel_rfl)
def awM23:List Mem:=⟨134,[.agg [.i 9,.i 8,.i 0,.i 0,.i 20]],.i 0⟩::awM22
theorem awK23:KnownM Tryz.prog G0 awM23:=KnownM.cons awc23 awK22
theorem awc24:PCall Tryz.prog G0 76 ([.sl 5 awv0]) (.i 0):=run_c awK23 (by kernel_rfl)
def awM24:List Mem:=⟨76,[.sl 5 awv0],.i 0⟩::awM23
theorem awK24:KnownM Tryz.prog G0 awM24:=KnownM.cons awc24 awK23
theorem awc25:PCall Tryz.prog G0 126 (awv2) (.agg [.i 2,.i 0,.i 0,.i 8,.i 0,.i 12]):=run_c awK24 (by kernel_rfl)
def awM25:List Mem:=⟨126,awv2,.agg [.i 2,.i 0,.i 0,.i 8,.i 0,.i 12]⟩::awM24
theorem awK25:KnownM Tryz.prog G0 awM25:=KnownM.cons awc25 awK24
theorem awc26:PCall Tryz.prog G0 56 (awv2) (.tup [.agg [.i 2,.i 0,.i 0,.i 8,.i 0,.i 12],.i 0]):=run_c awK25 (by kernel_rfl)
def awM26:List Mem:=⟨56,awv2,.tup [.agg [.i 2,.i 0,.i 0,.i 8,.i 0,.i 12],.i 0]⟩::awM25
theorem awK26:KnownM Tryz.prog G0 awM26:=KnownM.cons awc26 awK25
theorem awc27:PCall Tryz.prog G0 104 ([.agg [.i 4,.i 2,.i 0]]) (.i 0):=run_c awK26 (by kernel_rfl)
def awM27:List Mem:=⟨104,[.agg [.i 4,.i 2,.i 0]],.i 0⟩::awM26
theorem awK27:KnownM Tryz.prog G0 awM27:=KnownM.cons awc27 awK26
theorem awc28:PCall Tryz.prog G0 99 (awv21) (.i 0):=run_c awK27 (by kernel_rfl)
def awM28:List Mem:=⟨99,awv21,.i 0⟩::awM27
theorem awK28:KnownM Tryz.prog G0 awM28:=KnownM.cons awc28 awK27
theorem awc29:PCall Tryz.prog G0 126 ([.sl 5 awv0,.i 5]) (.agg [.i 0,.i 0,.i 0,.i 8,.i 0,.i 10]):=run_c awK28 (by kernel_rfl)
def awM29:List Mem:=⟨126,[.sl 5 awv0,.i 5],.agg [.i 0,.i 0,.i 0,.i 8,.i 0,.i 10]⟩::awM28
theorem awK29:KnownM Tryz.prog G0 awM29:=KnownM.cons awc29 awK28
theorem awc30:PCall Tryz.prog G0 116 ([.agg [.i 8,.i 0],.agg [.i 4,.i 2]]) (.i 0):=run_c awK29 (by kernel_rfl)
def awM30:List Mem:=⟨116,[.agg [.i 8,.i 0],.agg [.i 4,.i 2]],.i 0⟩::awM29
theorem awK30:KnownM Tryz.prog G0 awM30:=KnownM.cons awc30 awK29
theorem awc31:PCall Tryz.prog G0 114 ([.agg awv10,.i 10,.i 20]) (.i 1000):=run_c awK30 (by kernel_rfl)
def awM31:List Mem:=⟨114,[.agg awv10,.i 10,.i 20],.i 1000⟩::awM30
theorem awK31:KnownM Tryz.prog G0 awM31:=KnownM.cons awc31 awK30
theorem awc32:PCall Tryz.prog G0 117 ([.agg awv10,.agg [.i 0,.i 0,.i 0,.i 8,.i 0,.i 10],.agg [.i 4,.i 2,.i 0]]) (.i 500):=run_c awK31 (by kernel_rfl)
def awM32:List Mem:=⟨117,[.agg awv10,.agg [.i 0,.i 0,.i 0,.i 8,.i 0,.i 10],.agg [.i 4,.i 2,.i 0]],.i 500⟩::awM31
theorem awK32:KnownM Tryz.prog G0 awM32:=KnownM.cons awc32 awK31
theorem awc33:PCall Tryz.prog G0 116 ([.agg [.i 8,.i 0],.agg [.i 2,.i 2]]) (.i 1):=run_c awK32 (by kernel_rfl)
def awM33:List Mem:=⟨116,[.agg [.i 8,.i 0],.agg [.i 2,.i 2]],.i 1⟩::awM32
theorem awK33:KnownM Tryz.prog G0 awM33:=KnownM.cons awc33 awK32
theorem awc34:PCall Tryz.prog G0 114 ([.agg awv10,.i 12,.i 8]) (.i 1200):=run_c awK33 (by kernel_rfl)
def awM34:List Mem:=⟨114,[.agg awv10,.i 12,.i 8],.i 1200⟩::awM33
theorem awK34:KnownM Tryz.prog G0 awM34:=KnownM.cons awc34 awK33
theorem awc35:PCall Tryz.prog G0 117 ([.agg awv10,.agg [.i 2,.i 0,.i 0,.i 8,.i 0,.i 12],.agg [.i 4,.i 2,.i 0]]) (.i 600):=run_c awK34 (by kernel_rfl)
def awM35:List Mem:=⟨117,[.agg awv10,.agg [.i 2,.i 0,.i 0,.i 8,.i 0,.i 12],.agg [.i 4,.i 2,.i 0]],.i 600⟩::awM34
theorem awK35:KnownM Tryz.prog G0 awM35:=KnownM.cons awc35 awK34
theorem awc36:PCall Tryz.prog G0 126 ([.sl 5 awv0,.i 7]) (.agg [.i 4,.i 0,.i 0,.i 8,.i 0,.i 15]):=run_c awK35 (by kernel_rfl)
def awM36:List Mem:=⟨126,[.sl 5 awv0,.i 7],.agg [.i 4,.i 0,.i 0,.i 8,.i 0,.i 15]⟩::awM35
theorem awK36:KnownM Tryz.prog G0 awM36:=KnownM.cons awc36 awK35
theorem awc37:PCall Tryz.prog G0 116 ([.agg [.i 8,.i 0],.agg [.i 0,.i 2]]) (.i 2):=run_c awK36 (by kernel_rfl)
def awM37:List Mem:=⟨116,[.agg [.i 8,.i 0],.agg [.i 0,.i 2]],.i 2⟩::awM36
theorem awK37:KnownM Tryz.prog G0 awM37:=KnownM.cons awc37 awK36
theorem awc38:PCall Tryz.prog G0 114 ([.agg awv10,.i 15,.i 4]) (.i 1500):=run_c awK37 (by kernel_rfl)
def awM38:List Mem:=⟨114,[.agg awv10,.i 15,.i 4],.i 1500⟩::awM37
theorem awK38:KnownM Tryz.prog G0 awM38:=KnownM.cons awc38 awK37
theorem awc39:PCall Tryz.prog G0 117 ([.agg awv10,.agg [.i 4,.i 0,.i 0,.i 8,.i 0,.i 15],.agg [.i 4,.i 2,.i 0]]) (.i 750):=run_c awK38 (by kernel_rfl)
def awM39:List Mem:=⟨117,[.agg awv10,.agg [.i 4,.i 0,.i 0,.i 8,.i 0,.i 15],.agg [.i 4,.i 2,.i 0]],.i 750⟩::awM38
theorem awK39:KnownM Tryz.prog G0 awM39:=KnownM.cons awc39 awK38
theorem awc40:PCall Tryz.prog G0 126 ([.sl 5 awv0,.i 8]) (.agg [.i 6,.i 0,.i 0,.i 8,.i 0,.i 17]):=run_c awK39 (by kernel_rfl)
def awM40:List Mem:=⟨126,[.sl 5 awv0,.i 8],.agg [.i 6,.i 0,.i 0,.i 8,.i 0,.i 17]⟩::awM39
theorem awK40:KnownM Tryz.prog G0 awM40:=KnownM.cons awc40 awK39
theorem awc41:PCall Tryz.prog G0 116 ([.agg [.i 8,.i 0],.agg [.i (-2),.i 2]]) (.i 3):=run_c awK40 (by kernel_rfl)
def awM41:List Mem:=⟨116,[.agg [.i 8,.i 0],.agg [.i (-2),.i 2]],.i 3⟩::awM40
theorem awK41:KnownM Tryz.prog G0 awM41:=KnownM.cons awc41 awK40
theorem awc42:PCall Tryz.prog G0 114 ([.agg awv10,.i 17,.i 8]) (.i 1700):=run_c awK41 (by kernel_rfl)
def awM42:List Mem:=⟨114,[.agg awv10,.i 17,.i 8],.i 1700⟩::awM41
theorem awK42:KnownM Tryz.prog G0 awM42:=KnownM.cons awc42 awK41
theorem awc43:PCall Tryz.prog G0 117 ([.agg awv10,.agg [.i 6,.i 0,.i 0,.i 8,.i 0,.i 17],.agg [.i 4,.i 2,.i 0]]) (.i 850):=run_c awK42 (by kernel_rfl)
def awM43:List Mem:=⟨117,[.agg awv10,.agg [.i 6,.i 0,.i 0,.i 8,.i 0,.i 17],.agg [.i 4,.i 2,.i 0]],.i 850⟩::awM42
theorem awK43:KnownM Tryz.prog G0 awM43:=KnownM.cons awc43 awK42
theorem awc44:PCall Tryz.prog G0 100 (awv21) (.i 2700):=run_c awK43 (by kernel_rfl)
def awM44:List Mem:=⟨100,awv21,.i 2700⟩::awM43
theorem awK44:KnownM Tryz.prog G0 awM44:=KnownM.cons awc44 awK43
theorem awc45:PCall Tryz.prog G0 27 (awv21) (.tup [.i 2700,.i 0]):=run_c awK44 (by kernel_rfl)
def awM45:List Mem:=⟨27,awv21,.tup [.i 2700,.i 0]⟩::awM44
theorem awK45:KnownM Tryz.prog G0 awM45:=KnownM.cons awc45 awK44
theorem awc46:PCall Tryz.prog G0 99 (awv20) (.i 0):=run_c awK45 (by kernel_rfl)
def awM46:List Mem:=⟨99,awv20,.i 0⟩::awM45
theorem awK46:KnownM Tryz.prog G0 awM46:=KnownM.cons awc46 awK45
theorem awc47:PCall Tryz.prog G0 100 (awv20) (.i 1350):=run_c awK46 (by kernel_rfl)
def awM47:List Mem:=⟨100,awv20,.i 1350⟩::awM46
theorem awK47:KnownM Tryz.prog G0 awM47:=KnownM.cons awc47 awK46
theorem awc48:PCall Tryz.prog G0 27 (awv20) (.tup [.i 1350,.i 0]):=run_c awK47 (by kernel_rfl)
def awM48:List Mem:=⟨27,awv20,.tup [.i 1350,.i 0]⟩::awM47
theorem awK48:KnownM Tryz.prog G0 awM48:=KnownM.cons awc48 awK47
theorem awc49:PCall Tryz.prog G0 30 (awv21) (.tup [.i 850,.i 8,.i 0]):=run_c awK48 (by kernel_rfl)
def awM49:List Mem:=⟨30,awv21,.tup [.i 850,.i 8,.i 0]⟩::awM48
theorem awK49:KnownM Tryz.prog G0 awM49:=KnownM.cons awc49 awK48
theorem awc50:PCall Tryz.prog G0 146 (awv4) (.i 500):=run_c awK49 (by kernel_rfl)
def awM50:List Mem:=⟨146,awv4,.i 500⟩::awM49
theorem awK50:KnownM Tryz.prog G0 awM50:=KnownM.cons awc50 awK49
theorem awc51:PCall Tryz.prog G0 114 ([.agg awv10,.i 20,.i 4]) (.i 2000):=run_c awK50 (by kernel_rfl)
def awM51:List Mem:=⟨114,[.agg awv10,.i 20,.i 4],.i 2000⟩::awM50
theorem awK51:KnownM Tryz.prog G0 awM51:=KnownM.cons awc51 awK50
theorem awc52:PCall Tryz.prog G0 147 (awv4) (.i 1000):=run_c awK51 (by kernel_rfl)
def awM52:List Mem:=⟨147,awv4,.i 1000⟩::awM51
theorem awK52:KnownM Tryz.prog G0 awM52:=KnownM.cons awc52 awK51
theorem awc53:PCall Tryz.prog G0 105 ([.agg awv10,.agg [.i 5,.i 0,.i 0,.i 0,.i 10],.agg [.i 9,.i 8,.i 0,.i 0,.i 20],.agg [.i 4,.i 2,.i 0]]) (.agg [.i 1000,.i 8000]):=run_c awK52 (by kernel_rfl)
def awM53:List Mem:=⟨105,[.agg awv10,.agg [.i 5,.i 0,.i 0,.i 0,.i 10],.agg [.i 9,.i 8,.i 0,.i 0,.i 20],.agg [.i 4,.i 2,.i 0]],.agg [.i 1000,.i 8000]⟩::awM52
theorem awK53:KnownM Tryz.prog G0 awM53:=KnownM.cons awc53 awK52
theorem awc54:PCall Tryz.prog G0 31 ([.agg awv10,.sl 5 awv0,.agg [.i 4,.i 2,.i 0]]) (.tup [.agg [.i 1000,.i 8000],.i 0]):=run_c awK53 (by kernel_rfl)
def awM54:List Mem:=⟨31,[.agg awv10,.sl 5 awv0,.agg [.i 4,.i 2,.i 0]],.tup [.agg [.i 1000,.i 8000],.i 0]⟩::awM53
theorem awK54:KnownM Tryz.prog G0 awM54:=KnownM.cons awc54 awK53
theorem awc55:PCall Tryz.prog G0 43 ([.agg awv10,.i 101]) (.tup [.sl 1 [[.i 61],[.i 40]],.i 0]):=run_c awK54 (by kernel_rfl)
def awM55:List Mem:=⟨43,[.agg awv10,.i 101],.tup [.sl 1 [[.i 61],[.i 40]],.i 0]⟩::awM54
theorem awK55:KnownM Tryz.prog G0 awM55:=KnownM.cons awc55 awK54
theorem awc56:PCall Tryz.prog G0 39 ([.sl 5 awv0,.i 2]) (.tup [.sl 5 awv0,.i 0]):=run_c awK55 (by kernel_rfl)
def awM56:List Mem:=⟨39,[.sl 5 awv0,.i 2],.tup [.sl 5 awv0,.i 0]⟩::awM55
theorem awK56:KnownM Tryz.prog G0 awM56:=KnownM.cons awc56 awK55
theorem awc57:PCall Tryz.prog G0 39 ([.sl 5 awv0,.i 1]) (.tup [.ex (.slice none 0 0),.i 16]):=run_c awK56 (by kernel_rfl)
def awM57:List Mem:=⟨39,[.sl 5 awv0,.i 1],.tup [.ex (.slice none 0 0),.i 16]⟩::awM56
theorem awK57:KnownM Tryz.prog G0 awM57:=KnownM.cons awc57 awK56
theorem awc58:PCall Tryz.prog G0 54 ([.sl 1 [[.i 61],[.i 40]],.sl 1 [[.i 61],[.i 40]]]) (.bool true):=run_c awK57 (by kernel_rfl)
def awM58:List Mem:=⟨54,[.sl 1 [[.i 61],[.i 40]],.sl 1 [[.i 61],[.i 40]]],.bool true⟩::awM57
theorem awK58:KnownM Tryz.prog G0 awM58:=KnownM.cons awc58 awK57
theorem awc59:PCall Tryz.prog G0 115 ([.agg [.i 1,.i 0]]) (.i 0):=run_c awK58 (by kernel_rfl)
def awM59:List Mem:=⟨115,[.agg [.i 1,.i 0]],.i 0⟩::awM58
theorem awK59:KnownM Tryz.prog G0 awM59:=KnownM.cons awc59 awK58
theorem awc60:PCall Tryz.prog G0 115 ([.agg [.i 3,.i 1]]) (.i 0):=run_c awK59 (by kernel_rfl)
def awM60:List Mem:=⟨115,[.agg [.i 3,.i 1]],.i 0⟩::awM59
theorem awK60:KnownM Tryz.prog G0 awM60:=KnownM.cons awc60 awK59
theorem awc61:PCall Tryz.prog G0 116 ([.agg [.i 1,.i 0],.agg [.i 3,.i 1]]) (.i 0):=run_c awK60 (by kernel_rfl)
def awM61:List Mem:=⟨116,[.agg [.i 1,.i 0],.agg [.i 3,.i 1]],.i 0⟩::awM60
theorem awK61:KnownM Tryz.prog G0 awM61:=KnownM.cons awc61 awK60
theorem awc62:PCall Tryz.prog G0 41 ([.agg [.i 1,.i 0],.agg [.i 3,.i 1]]) (.tup [.i 0,.i 0]):=run_c awK61 (by kernel_rfl)
def awM62:List Mem:=⟨41,[.agg [.i 1,.i 0],.agg [.i 3,.i 1]],.tup [.i 0,.i 0]⟩::awM61
theorem awK62:KnownM Tryz.prog G0 awM62:=KnownM.cons awc62 awK61
theorem awc63:PCall Tryz.prog G0 115 ([.agg [.i 2,.i 2]]) (.i 0):=run_c awK62 (by kernel_rfl)
def awM63:List Mem:=⟨115,[.agg [.i 2,.i 2]],.i 0⟩::awM62
theorem awK63:KnownM Tryz.prog G0 awM63:=KnownM.cons awc63 awK62
theorem awc64:PCall Tryz.prog G0 116 ([.agg [.i 1,.i 0],.agg [.i 2,.i 2]]) (.i 1):=run_c awK63 (by kernel_rfl)
def awM64:List Mem:=⟨116,[.agg [.i 1,.i 0],.agg [.i 2,.i 2]],.i 1⟩::awM63
theorem awK64:KnownM Tryz.prog G0 awM64:=KnownM.cons awc64 awK63
theorem awc65:PCall Tryz.prog G0 41 ([.agg [.i 1,.i 0],.agg [.i 2,.i 2]]) (.tup [.i 1,.i 0]):=run_c awK64 (by kernel_rfl)
def awM65:List Mem:=⟨41,[.agg [.i 1,.i 0],.agg [.i 2,.i 2]],.tup [.i 1,.i 0]⟩::awM64
theorem awK65:KnownM Tryz.prog G0 awM65:=KnownM.cons awc65 awK64
theorem awc66:PCall Tryz.prog G0 115 ([.agg [.i 0,.i 5]]) (.i 0):=run_c awK65 (by kernel_rfl)
def awM66:List Mem:=⟨115,[.agg [.i 0,.i 5]],.i 0⟩::awM65
theorem awK66:KnownM Tryz.prog G0 awM66:=KnownM.cons awc66 awK65
theorem awc67:PCall Tryz.prog G0 116 ([.agg [.i 1,.i 0],.agg [.i 0,.i 5]]) (.i 2):=run_c awK66 (by kernel_rfl)
def awM67:List Mem:=⟨116,[.agg [.i 1,.i 0],.agg [.i 0,.i 5]],.i 2⟩::awM66
theorem awK67:KnownM Tryz.prog G0 awM67:=KnownM.cons awc67 awK66
theorem awc68:PCall Tryz.prog G0 41 ([.agg [.i 1,.i 0],.agg [.i 0,.i 5]]) (.tup [.i 2,.i 0]):=run_c awK67 (by kernel_rfl)
def awM68:List Mem:=⟨41,[.agg [.i 1,.i 0],.agg [.i 0,.i 5]],.tup [.i 2,.i 0]⟩::awM67
theorem awK68:KnownM Tryz.prog G0 awM68:=KnownM.cons awc68 awK67
theorem awc69:PCall Tryz.prog G0 115 ([.agg [.i (-2),.i 2]]) (.i 0):=run_c awK68 (by kernel_rfl)
def awM69:List Mem:=⟨115,[.agg [.i (-2),.i 2]],.i 0⟩::awM68
theorem awK69:KnownM Tryz.prog G0 awM69:=KnownM.cons awc69 awK68
theorem awc70:PCall Tryz.prog G0 116 ([.agg [.i 1,.i 0],.agg [.i (-2),.i 2]]) (.i 3):=run_c awK69 (by kernel_rfl)
def awM70:List Mem:=⟨116,[.agg [.i 1,.i 0],.agg [.i (-2),.i 2]],.i 3⟩::awM69
theorem awK70:KnownM Tryz.prog G0 awM70:=KnownM.cons awc70 awK69
theorem awc71:PCall Tryz.prog G0 41 ([.agg [.i 1,.i 0],.agg [.i (-2),.i 2]]) (.tup [.i 3,.i 0]):=run_c awK70 (by kernel_rfl)
def awM71:List Mem:=⟨41,[.agg [.i 1,.i 0],.agg [.i (-2),.i 2]],.tup [.i 3,.i 0]⟩::awM70
theorem awK71:KnownM Tryz.prog G0 awM71:=KnownM.cons awc71 awK70
theorem awc72:PCall Tryz.prog G0 115 ([.agg [.i (-3),.i 0]]) (.i 0):=run_c awK71 (by kernel_rfl)
def awM72:List Mem:=⟨115,[.agg [.i (-3),.i 0]],.i 0⟩::awM71
theorem awK72:KnownM Tryz.prog G0 awM72:=KnownM.cons awc72 awK71
theorem awc73:PCall Tryz.prog G0 116 ([.agg [.i 1,.i 0],.agg [.i (-3),.i 0]]) (.i 4):=run_c awK72 (by kernel_rfl)
def awM73:List Mem:=⟨116,[.agg [.i 1,.i 0],.agg [.i (-3),.i 0]],.i 4⟩::awM72
theorem awK73:KnownM Tryz.prog G0 awM73:=KnownM.cons awc73 awK72
theorem awc74:PCall Tryz.prog G0 41 ([.agg [.i 1,.i 0],.agg [.i (-3),.i 0]]) (.tup [.i 4,.i 0]):=run_c awK73 (by kernel_rfl)
def awM74:List Mem:=⟨41,[.agg [.i 1,.i 0],.agg [.i (-3),.i 0]],.tup [.i 4,.i 0]⟩::awM73
theorem awK74:KnownM Tryz.prog G0 awM74:=KnownM.cons awc74 awK73
theorem awc75:PCall Tryz.prog G0 115 ([.agg [.i (-1),.i (-1)]]) (.i 0):=run_c awK74 (by kernel_rfl)
def awM75:List Mem:=⟨115,[.agg [.i (-1),.i (-1)]],.i 0⟩::awM74
theorem awK75:KnownM Tryz.prog G0 awM75:=KnownM.cons awc75 awK74
theorem awc76:PCall Tryz.prog G0 116 ([.agg [.i 1,.i 0],.agg [.i (-1),.i (-1)]]) (.i 5):=run_c awK75 (by kernel_rfl)
def awM76:List Mem:=⟨116,[.agg [.i 1,.i 0],.agg [.i (-1),.i (-1)]],.i 5⟩::awM75
theorem awK76:KnownM Tryz.prog G0 awM76:=KnownM.cons awc76 awK75
theorem awc77:PCall Tryz.prog G0 41 ([.agg [.i 1,.i 0],.agg [.i (-1),.i (-1)]]) (.tup [.i 5,.i 0]):=run_c awK76 (by kernel_rfl)
def awM77:List Mem:=⟨41,[.agg [.i 1,.i 0],.agg [.i (-1),.i (-1)]],.tup [.i 5,.i 0]⟩::awM76
theorem awK77:KnownM Tryz.prog G0 awM77:=KnownM.cons awc77 awK76
theorem awc78:PCall Tryz.prog G0 115 ([.agg [.i 0,.i (-4)]]) (.i 0):=run_c awK77 (by kernel_rfl)
def awM78:List Mem:=⟨115,[.agg [.i 0,.i (-4)]],.i 0⟩::awM77
theorem awK78:KnownM Tryz.prog G0 awM78:=KnownM.cons awc78 awK77
theorem awc79:PCall Tryz.prog G0 116 ([.agg [.i 1,.i 0],.agg [.i 0,.i (-4)]]) (.i 6):=run_c awK78 (by kernel_rfl)
def awM79:List Mem:=⟨116,[.agg [.i 1,.i 0],.agg [.i 0,.i (-4)]],.i 6⟩::awM78
theorem awK79:KnownM Tryz.prog G0 awM79:=KnownM.cons awc79 awK78
theorem awc80:PCall Tryz.prog G0 41 ([.agg [.i 1,.i 0],.agg [.i 0,.i (-4)]]) (.tup [.i 6,.i 0]):=run_c awK79 (by kernel_rfl)
def awM80:List Mem:=⟨41,[.agg [.i 1,.i 0],.agg [.i 0,.i (-4)]],.tup [.i 6,.i 0]⟩::awM79
theorem awK80:KnownM Tryz.prog G0 awM80:=KnownM.cons awc80 awK79
theorem awc81:PCall Tryz.prog G0 115 ([.agg [.i 2,.i (-2)]]) (.i 0):=run_c awK80 (by kernel_rfl)
def awM81:List Mem:=⟨115,[.agg [.i 2,.i (-2)]],.i 0⟩::awM80
theorem awK81:KnownM Tryz.prog G0 awM81:=KnownM.cons awc81 awK80
theorem awc82:PCall Tryz.prog G0 116 ([.agg [.i 1,.i 0],.agg [.i 2,.i (-2)]]) (.i 7):=run_c awK81 (by kernel_rfl)
def awM82:List Mem:=⟨116,[.agg [.i 1,.i 0],.agg [.i 2,.i (-2)]],.i 7⟩::awM81
theorem awK82:KnownM Tryz.prog G0 awM82:=KnownM.cons awc82 awK81
theorem awc83:PCall Tryz.prog G0 41 ([.agg [.i 1,.i 0],.agg [.i 2,.i (-2)]]) (.tup [.i 7,.i 0]):=run_c awK82 (by kernel_rfl)
def awM83:List Mem:=⟨41,[.agg [.i 1,.i 0],.agg [.i 2,.i (-2)]],.tup [.i 7,.i 0]⟩::awM82
theorem awK83:KnownM Tryz.prog G0 awM83:=KnownM.cons awc83 awK82
theorem awc84:PCall Tryz.prog G0 88 ([.sl 2 [[.i 0,.i 0],[.i 10,.i 0],[.i 10,.i 5]]]) (.i 0):=run_c awK83 (by kernel_rfl)
def awM84:List Mem:=⟨88,[.sl 2 [[.i 0,.i 0],[.i 10,.i 0],[.i 10,.i 5]]],.i 0⟩::awM83
theorem awK84:KnownM Tryz.prog G0 awM84:=KnownM.cons awc84 awK83
theorem awc85:PCall Tryz.prog G0 22 ([.sl 3 [[.i 0,.i 0,.i 100],[.i 10,.i 50,.i 80]]]) (.i 0):=run_c awK84 (by kernel_rfl)
def awM85:List Mem:=⟨22,[.sl 3 [[.i 0,.i 0,.i 100],[.i 10,.i 50,.i 80]]],.i 0⟩::awM84
theorem awK85:KnownM Tryz.prog G0 awM85:=KnownM.cons awc85 awK84
theorem awc86:PCall Tryz.prog G0 90 ([.sl 3 [[.i 0,.i 0,.i 100],[.i 10,.i 50,.i 80]],.i 0]) (.agg [.i 0,.i 0,.i 100]):=run_c awK85 (by kernel_rfl)
def awM86:List Mem:=⟨90,[.sl 3 [[.i 0,.i 0,.i 100],[.i 10,.i 50,.i 80]],.i 0],.agg [.i 0,.i 0,.i 100]⟩::awM85
theorem awK86:KnownM Tryz.prog G0 awM86:=KnownM.cons awc86 awK85
theorem awc87:PCall Tryz.prog G0 90 ([.sl 3 [[.i 0,.i 0,.i 100],[.i 10,.i 50,.i 80]],.i 10]) (.agg [.i 10,.i 50,.i 80]):=run_c awK86 (by kernel_rfl)
def awM87:List Mem:=⟨90,[.sl 3 [[.i 0,.i 0,.i 100],[.i 10,.i 50,.i 80]],.i 10],.agg [.i 10,.i 50,.i 80]⟩::awM86
theorem awK87:KnownM Tryz.prog G0 awM87:=KnownM.cons awc87 awK86
theorem awc88:PCall Tryz.prog G0 90 ([.sl 3 [[.i 0,.i 0,.i 100],[.i 10,.i 50,.i 80]],.i 15]) (.agg [.i 10,.i 50,.i 80]):=run_c awK87 (by kernel_rfl)
def awM88:List Mem:=⟨90,[.sl 3 [[.i 0,.i 0,.i 100],[.i 10,.i 50,.i 80]],.i 15],.agg [.i 10,.i 50,.i 80]⟩::awM87
theorem awK88:KnownM Tryz.prog G0 awM88:=KnownM.cons awc88 awK87
theorem awc89:PCall Tryz.prog G0 134 ([.agg [.i 100,.i 0,.i 0,.i 0,.i 100]]) (.i 0):=run_c awK88 (by kernel_rfl)
def awM89:List Mem:=⟨134,[.agg [.i 100,.i 0,.i 0,.i 0,.i 100]],.i 0⟩::awM88
theorem awK89:KnownM Tryz.prog G0 awM89:=KnownM.cons awc89 awK88
theorem awc90:PCall Tryz.prog G0 104 ([.agg [.i 10,.i 0,.i 50]]) (.i 0):=run_c awK89 (by kernel_rfl)
def awM90:List Mem:=⟨104,[.agg [.i 10,.i 0,.i 50]],.i 0⟩::awM89
theorem awK90:KnownM Tryz.prog G0 awM90:=KnownM.cons awc90 awK89
theorem awc91:PCall Tryz.prog G0 134 ([.agg [.i 103,.i 10,.i 0,.i 50,.i 80]]) (.i 0):=run_c awK90 (by kernel_rfl)
def awM91:List Mem:=⟨134,[.agg [.i 103,.i 10,.i 0,.i 50,.i 80]],.i 0⟩::awM90
theorem awK91:KnownM Tryz.prog G0 awM91:=KnownM.cons awc91 awK90
theorem awc92:PCall Tryz.prog G0 104 ([.agg [.i 10,.i 5,.i 50]]) (.i 0):=run_c awK91 (by kernel_rfl)
def awM92:List Mem:=⟨104,[.agg [.i 10,.i 5,.i 50]],.i 0⟩::awM91
theorem awK92:KnownM Tryz.prog G0 awM92:=KnownM.cons awc92 awK91
theorem awc93:PCall Tryz.prog G0 134 ([.agg [.i 104,.i 10,.i 5,.i 50,.i 80]]) (.i 0):=run_c awK92 (by kernel_rfl)
def awM93:List Mem:=⟨134,[.agg [.i 104,.i 10,.i 5,.i 50,.i 80]],.i 0⟩::awM92
theorem awK93:KnownM Tryz.prog G0 awM93:=KnownM.cons awc93 awK92
theorem awc94:PCall Tryz.prog G0 76 ([.sl 5 awv5]) (.i 0):=run_c awK93 (by kernel_rfl)
def awM94:List Mem:=⟨76,[.sl 5 awv5],.i 0⟩::awM93
theorem awK94:KnownM Tryz.prog G0 awM94:=KnownM.cons awc94 awK93
theorem awc95:PCall Tryz.prog G0 14 ([.sl 2 [[.i 0,.i 0],[.i 10,.i 0],[.i 10,.i 5]],.sl 3 [[.i 0,.i 0,.i 100],[.i 10,.i 50,.i 80]],.i 4,.i 100]) (.tup [.sl 5 awv5,.i 0]):=run_c awK94 (by kernel_rfl)
def awM95:List Mem:=⟨14,[.sl 2 [[.i 0,.i 0],[.i 10,.i 0],[.i 10,.i 5]],.sl 3 [[.i 0,.i 0,.i 100],[.i 10,.i 50,.i 80]],.i 4,.i 100],.tup [.sl 5 awv5,.i 0]⟩::awM94
theorem awK95:KnownM Tryz.prog G0 awM95:=KnownM.cons awc95 awK94
theorem awc96:PCall Tryz.prog G0 122 ([.str [111,110,101]]) (.bool true):=run_c awK95 (by kernel_rfl)
def awM96:List Mem:=⟨122,[.str [111,110,101]],.bool true⟩::awM95
theorem awK96:KnownM Tryz.prog G0 awM96:=KnownM.cons awc96 awK95
theorem awc97:PCall Tryz.prog G0 122 ([.str [116,119,111]]) (.bool true):=run_c awK96 (by kernel_rfl)
def awM97:List Mem:=⟨122,[.str [116,119,111]],.bool true⟩::awM96
theorem awK97:KnownM Tryz.prog G0 awM97:=KnownM.cons awc97 awK96
theorem awc98:PCall Tryz.prog G0 70 ([.sl 13 awv11,.sl 3 awv12]) (.i 0):=run_c awK97 (by kernel_rfl)
def awM98:List Mem:=⟨70,[.sl 13 awv11,.sl 3 awv12],.i 0⟩::awM97
theorem awK98:KnownM Tryz.prog G0 awM98:=KnownM.cons awc98 awK97
theorem awc99:PCall Tryz.prog G0 100 ([.agg awv10,.sl 5 awv0,.agg [.i 5,.i 9],.agg [.i 4,.i 2,.i 0]]) (.i 2700):=run_c awK98 (by kernel_rfl)
def awM99:List Mem:=⟨100,[.agg awv10,.sl 5 awv0,.agg [.i 5,.i 9],.agg [.i 4,.i 2,.i 0]],.i 2700⟩::awM98
theorem awK99:KnownM Tryz.prog G0 awM99:=KnownM.cons awc99 awK98
theorem awc100:PCall Tryz.prog G0 155 ([.agg awv6,.elt 1 awv15 0 0,.elt 3 [[.i 4,.i 2,.i 0]] 0 0]) (.agg awv8):=run_c awK99 (by kernel_rfl)
def awM100:List Mem:=⟨155,[.agg awv6,.elt 1 awv15 0 0,.elt 3 [[.i 4,.i 2,.i 0]] 0 0],.agg awv8⟩::awM99
theorem awK100:KnownM Tryz.prog G0 awM100:=KnownM.cons awc100 awK99
theorem awc101:PCall Tryz.prog G0 155 ([.agg awv7,.elt 1 awv15 0 0,.elt 3 [[.i 4,.i 2,.i 0]] 0 0]) (.agg awv9):=run_c awK100 (by kernel_rfl)
def awM101:List Mem:=⟨155,[.agg awv7,.elt 1 awv15 0 0,.elt 3 [[.i 4,.i 2,.i 0]] 0 0],.agg awv9⟩::awM100
theorem awK101:KnownM Tryz.prog G0 awM101:=KnownM.cons awc101 awK100
theorem awc102:PCall Tryz.prog G0 127 (awv22) (.tup [.sl 4 awv19,.i 0]):=run_c awK101 (by kernel_rfl)
def awM102:List Mem:=⟨127,awv22,.tup [.sl 4 awv19,.i 0]⟩::awM101
theorem awK102:KnownM Tryz.prog G0 awM102:=KnownM.cons awc102 awK101
theorem awc103:PCall Tryz.prog G0 128 ([.sl 4 awv19]) (.sl 1 [[.i 2700],[.i 2700]]):=run_c awK102 (by kernel_rfl)
def awM103:List Mem:=⟨128,[.sl 4 awv19],.sl 1 [[.i 2700],[.i 2700]]⟩::awM102
theorem awK103:KnownM Tryz.prog G0 awM103:=KnownM.cons awc103 awK102
theorem awc104:PCall Tryz.prog G0 61 (awv22) (.tup [.i 5400,.i 0]):=run_c awK103 (by kernel_rfl)
def awM104:List Mem:=⟨61,awv22,.tup [.i 5400,.i 0]⟩::awM103
theorem awK104:KnownM Tryz.prog G0 awM104:=KnownM.cons awc104 awK103
theorem awc105:PCall Tryz.prog G0 130 ([.agg awv9,.agg awv8]) (.i 0):=run_c awK104 (by kernel_rfl)
def awM105:List Mem:=⟨130,[.agg awv9,.agg awv8],.i 0⟩::awM104
theorem awK105:KnownM Tryz.prog G0 awM105:=KnownM.cons awc105 awK104
theorem awc106:PCall Tryz.prog G0 65 (awv22) (.tup [.str [111,110,101],.i 0]):=run_c awK105 (by kernel_rfl)
def awM106:List Mem:=⟨65,awv22,.tup [.str [111,110,101],.i 0]⟩::awM105
theorem awK106:KnownM Tryz.prog G0 awM106:=KnownM.cons awc106 awK105
theorem awc107:PCall Tryz.prog G0 135 ([.str [116,121,112,101,32,106,101,116],.sl 1 [[.i 500]]]) (.str [116,121,112,101,32,106,101,116,32,53,48,48,10]):=run_c awK106 (by kernel_rfl)
def awM107:List Mem:=⟨135,[.str [116,121,112,101,32,106,101,116],.sl 1 [[.i 500]]],.str [116,121,112,101,32,106,101,116,32,53,48,48,10]⟩::awM106
theorem awK107:KnownM Tryz.prog G0 awM107:=KnownM.cons awc107 awK106
theorem awc108:PCall Tryz.prog G0 135 ([.str [115,104,97,114,101,115],.sl 1 [[.i 600],[.i 400]]]) (.str [115,104,97,114,101,115,32,54,48,48,32,52,48,48,10]):=run_c awK107 (by kernel_rfl)
def awM108:List Mem:=⟨135,[.str [115,104,97,114,101,115],.sl 1 [[.i 600],[.i 400]]],.str [115,104,97,114,101,115,32,54,48,48,32,52,48,48,10]⟩::awM107
theorem awK108:KnownM Tryz.prog G0 awM108:=KnownM.cons awc108 awK107
theorem awc109:PCall Tryz.prog G0 135 ([.str [100,105,114,101,99,116],.sl 1 awv3]) (.str [100,105,114,101,99,116,32,49,48,48,48,32,49,48,48,48,32,49,48,48,48,32,49,48,48,48,32,53,48,48,32,53,48,48,32,53,48,48,32,53,48,48,10]):=run_c awK108 (by kernel_rfl)
def awM109:List Mem:=⟨135,[.str [100,105,114,101,99,116],.sl 1 awv3],.str [100,105,114,101,99,116,32,49,48,48,48,32,49,48,48,48,32,49,48,48,48,32,49,48,48,48,32,53,48,48,32,53,48,48,32,53,48,48,32,53,48,48,10]⟩::awM108
theorem awK109:KnownM Tryz.prog G0 awM109:=KnownM.cons awc109 awK108
theorem awc110:PCall Tryz.prog G0 135 ([.str [115,113,117,97,114,101,115],.sl 1 [[.i 0],[.i 100]]]) (.str [115,113,117,97,114,101,115,32,48,32,49,48,48,10]):=run_c awK109 (by kernel_rfl)
def awM110:List Mem:=⟨135,[.str [115,113,117,97,114,101,115],.sl 1 [[.i 0],[.i 100]]],.str [115,113,117,97,114,101,115,32,48,32,49,48,48,10]⟩::awM109
theorem awK110:KnownM Tryz.prog G0 awM110:=KnownM.cons awc110 awK109
theorem awc111:PCall Tryz.prog G0 135 ([.str [112,111,119,101,114],.sl 1 [[.i 10],[.i 1000],[.i 400]]]) (.str [112,111,119,101,114,32,49,48,32,49,48,48,48,32,52,48,48,10]):=run_c awK110 (by kernel_rfl)
def awM111:List Mem:=⟨135,[.str [112,111,119,101,114],.sl 1 [[.i 10],[.i 1000],[.i 400]]],.str [112,111,119,101,114,32,49,48,32,49,48,48,48,32,52,48,48,10]⟩::awM110
theorem awK111:KnownM Tryz.prog G0 awM111:=KnownM.cons awc111 awK110
theorem awc112:PCall Tryz.prog G0 135 ([.str [112,111,119,101,114],.sl 1 [[.i 20],[.i 2000],[.i 600]]]) (.str [112,111,119,101,114,32,50,48,32,50,48,48,48,32,54,48,48,10]):=run_c awK111 (by kernel_rfl)
def awM112:List Mem:=⟨135,[.str [112,111,119,101,114],.sl 1 [[.i 20],[.i 2000],[.i 600]]],.str [112,111,119,101,114,32,50,48,32,50,48,48,48,32,54,48,48,10]⟩::awM111
theorem awK112:KnownM Tryz.prog G0 awM112:=KnownM.cons awc112 awK111
theorem awc113:PCall Tryz.prog G0 77 (awv13) (.tup [.str [116,121,112,101,32,106,101,116,32,53,48,48,10,115,104,97,114,101,115,32,54,48,48,32,52,48,48,10,100,105,114,101,99,116,32,49,48,48,48,32,49,48,48,48,32,49,48,48,48,32,49,48,48,48,32,53,48,48,32,53,48,48,32,53,48,48,32,53,48,48,10,115,113,117,97,114,101,115,32,48,32,49,48,48,10,112,111,119,101,114,32,49,48,32,49,48,48,48,32,52,48,48,10,112,111,119,101,114,32,50,48,32,50,48,48,48,32,54,48,48,10],.i 0]):=run_c awK112 (by kernel_rfl)
def awM113:List Mem:=⟨77,awv13,.tup [.str [116,121,112,101,32,106,101,116,32,53,48,48,10,115,104,97,114,101,115,32,54,48,48,32,52,48,48,10,100,105,114,101,99,116,32,49,48,48,48,32,49,48,48,48,32,49,48,48,48,32,49,48,48,48,32,53,48,48,32,53,48,48,32,53,48,48,32,53,48,48,10,115,113,117,97,114,101,115,32,48,32,49,48,48,10,112,111,119,101,114,32,49,48,32,49,48,48,48,32,52,48,48,10,112,111,119,101,114,32,50,48,32,50,48,48,48,32,54,48,48,10],.i 0]⟩::awM112
theorem awK113:KnownM Tryz.prog G0 awM113:=KnownM.cons awc113 awK112
theorem awc114:PCall Tryz.prog G0 56 ([.sl 5 awv0,.i 9]) (.tup [.agg [.i 0,.i 0,.i 0,.i 0,.i 0,.i 0],.i 7]):=run_c awK113 (by kernel_rfl)
def awM114:List Mem:=⟨56,[.sl 5 awv0,.i 9],.tup [.agg [.i 0,.i 0,.i 0,.i 0,.i 0,.i 0],.i 7]⟩::awM113
theorem awK114:KnownM Tryz.prog G0 awM114:=KnownM.cons awc114 awK113
theorem awc115:PCall Tryz.prog G0 13 ([]) (.bool true):=run_c awK114 (by kernel_rfl)
end Go.Proofs.YtjhjmncjidbieaaGreatDoor
namespace Go.Proofs.YtjhjmncjidbieaaGreatDoor
open Go Go.Av Go.RowKit Go.ChangeShapes Go.WideShapes
theorem hA:PCall Tryz.prog G0 13 [] (.bool true):=awc115
theorem laidOut:laidOutB Tryz.prog=true:=by kernel_rfl
theorem own:ownKnob Tryz.prog.godebug=none:=by kernel_rfl
def laid5:List (String × DataW Unit):=Rows.sourceStringsRow.laid
noncomputable def wS (os : Os) : World := (World.doorLaid Tryz.prog 400 os).layVars Tryz.prog [("unicode/utf8.first", Rows.laid_unicode_utf8_first)]
theorem wS_os (os:Os):(wS os).os=os:=World.layVars_os _ _ _
theorem door_met (os:Os) (args:Array Value):laidMetH Tryz.prog laid5 ((wS os).forCall (fun _ _=>0) ⟨#[],args,[]⟩).memory :=
 laidMetH_of_parts3 (fuel:=8) (laidMet_of_run' 8 (by kernel_rfl) (by kernel_rfl)) (by kernel_rfl) (by kernel_rfl)
theorem name_inj {a b:String} (h:a.toUTF8.data.toList=b.toUTF8.data.toList):a=b:=by
 apply String.toByteArray_inj.1
 apply ByteArray.ext
 exact Array.toList_inj.1 h
section
variable {H : Type} {enc : TypeId × Value → H} {P : Program} {w : World} {base : Nat} {sp : Nat → Bool} {fuel t : Nat} {cs : List Value} {x : DataW H × List MemPlace}
theorem trod_func {ps rs:Array TypeId} {va:Bool} (ht:P.underlying t=some (.func ps rs va)) (h:DataW.trod enc P w base sp true fuel t cs=some x) :
 (∃ fn first cap,cs=[.func fn first cap]∧x.1=.held (enc (t,.func fn first cap))) ∨ x.1=.nil:=by
 cases fuel with
 | zero=>simp [DataW.trod] at h
 | succ m =>
  unfold DataW.trod at h
  rw [ht] at h
  split at h
  all_goals first
   | (simp_all;done)
   | (rename_i fn first cap _ _
      rw [if_pos rfl] at h
      cases h
      exact .inl ⟨_,_,_,rfl,rfl⟩)
   | (cases h;exact .inr rfl)
end
theorem form_cell {w:World} {fuel:Nat} {cs:List Value} {x:DataW (List UInt8) × List MemPlace} {tk:List UInt8} {N:String} {f:Nat}
 (h:DataW.trod (funcToken Tryz.prog) Tryz.prog w 0 (fun _=>true) true fuel 232 cs=some x) (hx:x.1=.agg [.held tk]) (hN:N.toUTF8.data.toList=tk) (h0:tk ≠ []) (hf:Tryz.prog.funcNamed N=some f):cs=[.func (.func f) #[] #[]]:=by
 obtain ⟨fs,hu,hs⟩:∃ fs:Array Field,Tryz.prog.underlying 232=some (.struct fs)∧fs.toList.map (fun f=>(f.offset,f.type))=[(0,230)]:=by
  have e:(match Tryz.prog.underlying 232 with
   | some (.struct fs)=>fs.toList.map fun f=>(f.offset,f.type)
   | _=>[])=[(0,230)]:=by kernel_rfl
  split at e
  · rename_i fs h
    exact ⟨fs,h,e⟩
  · cases e
 have hsz:fs.size=1:=by simpa using congrArg List.length hs
 obtain ⟨fd,hfd,ho,hty⟩:∃ fd:Field,fs[0]?=some fd∧fd.offset=0∧fd.type=230:=by
  have h0:=congrArg (fun l=>l[0]?) hs
  rw [List.getElem?_map] at h0
  obtain ⟨fd,h1,h2⟩:=Option.map_eq_some_iff.1 h0
  exact ⟨fd,by simpa using h1,congrArg Prod.fst h2,congrArg Prod.snd h2⟩
 obtain ⟨xs,m,_,rfl,hl,hxl,hel⟩:=DataW.trod_struct hu h
 have e1:Tryz.prog.cellsOf 232=1:=by kernel_rfl
 have e2:Tryz.prog.cellsOf 230=1:=by kernel_rfl
 have h1:=hel 0 fd hfd
 rw [ho,hty,e2,List.drop_zero,List.take_of_length_le (by omega),List.getElem?_eq_getElem (by omega)] at h1
 have hx:DataW.agg (xs.map (·.1))=.agg [.held tk]:=hx
 have hx2:=(DataW.agg.inj hx)
 have h3:xs[0].1=.held tk:=by
  have:=congrArg (fun l=>l[0]?) hx2
  simpa [List.getElem?_eq_getElem (show 0 < xs.length by omega)] using this
 obtain ⟨ps,rs,va,hu2⟩:∃ ps rs va,Tryz.prog.underlying 230=some (.func ps rs va):=⟨#[234,225],#[],false,by kernel_rfl⟩
 rcases trod_func hu2 h1 with ⟨fn,first,cap,rfl,h4⟩ | h4
 · rw [h4] at h3
   have h5:=DataW.held.inj h3
   obtain ⟨b,r,hbr⟩:∃ b r,tk=b::r:=by
    cases tk with
    | nil=>exact absurd rfl h0
    | cons b r=>exact ⟨b,r,rfl⟩
   obtain ⟨g,gn,hv,hg,hgn,hgb⟩:=funcToken_tells (h5.trans hbr)
   have h6:gn.name=N:=name_inj (hgb.trans (hbr.symm.trans hN.symm))
   rw [h6,hf] at hgn
   rw [hv,Option.some.inj hgn]
 · rw [h4] at h3
   cases h3
theorem forms_glob {W:World} (h:laidMetH Tryz.prog laid5 W):GlobOK NoX W 2 [.fn (.func 226) [] [],.fn (.func 227) [] [],.fn (.func 229) [] [],.fn (.func 230) [] [],.fn (.func 231) [] []]:=by
 obtain ⟨d, hd⟩ : ∃ d : DataW Unit, Rows.laid_flyover_source_forms = .iface "func table" d := ⟨_, rfl⟩
 have hf := laidMetH.funcs h (n := "flyover/source.forms") (d := d) (by rw [← hd]; simp [laid5, Rows.sourceStringsRow])
 obtain ⟨g,t,cs,fuel,p,hg,ht,hv,htr⟩:=hf
 obtain rfl:g=2:=Option.some.inj (hg.symm.trans (by kernel_rfl))
 obtain rfl:t=233:=Option.some.inj (ht.symm.trans (by kernel_rfl))
 have hu:Tryz.prog.underlying 233=some (.array 5 232):=by kernel_rfl
 obtain ⟨xs,m,_,hx,hl,hxl,hel⟩:=DataW.trod_array hu htr
 have e1:Tryz.prog.cellsOf 233=5:=by kernel_rfl
 have e2:Tryz.prog.cellsOf 232=1:=by kernel_rfl
 rw [e1] at hl
 rw [e2] at hel
 have hd2 : d.funcsOut = .agg [.agg [.held "flyover/source.forms$1".toUTF8.data.toList], .agg [.held "flyover/source.forms$2".toUTF8.data.toList], .agg [.held "flyover/source.forms$3".toUTF8.data.toList], .agg [.held "flyover/source.forms$4".toUTF8.data.toList], .agg [.held "flyover/source.forms$5".toUTF8.data.toList]] := by
  obtain rfl:=(DataW.iface.inj hd).2
  kernel_rfl
 have hx1:=congrArg Prod.fst hx
 rw [show (d.funcsOut,p).1=d.funcsOut from rfl,hd2] at hx1
 have hx2:=DataW.agg.inj hx1
 have key:∀ i,i < 5->∀ (N:String) (f:Nat),xs[i]?.map (·.1)=some (.agg [.held N.toUTF8.data.toList])->N.toUTF8.data.toList ≠ []->Tryz.prog.funcNamed N=some f->cs.toList[i]?=some (.func (.func f) #[] #[]):=fun i hi N f hxi h0 hf=>by
  have h1:=hel i hi
  rw [List.getElem?_eq_getElem (by omega)] at h1 hxi
  have h2:=form_cell h1 (Option.some.inj hxi) rfl h0 hf
  have h3:=congrArg (fun l=>l[0]?) h2
  simpa using h3
 have hxi:∀ i:Nat,xs[i]?.map (·.1)=(xs.map (·.1))[i]?:=fun i=>by simp
 have c0 := key 0 (by decide) "flyover/source.forms$1" 226 (by rw [hxi, ← hx2]; rfl) (by decide +kernel) (by kernel_rfl)
 have c1 := key 1 (by decide) "flyover/source.forms$2" 227 (by rw [hxi, ← hx2]; rfl) (by decide +kernel) (by kernel_rfl)
 have c2 := key 2 (by decide) "flyover/source.forms$3" 229 (by rw [hxi, ← hx2]; rfl) (by decide +kernel) (by kernel_rfl)
 have c3 := key 3 (by decide) "flyover/source.forms$4" 230 (by rw [hxi, ← hx2]; rfl) (by decide +kernel) (by kernel_rfl)
 have c4 := key 4 (by decide) "flyover/source.forms$5" 231 (by rw [hxi, ← hx2]; rfl) (by decide +kernel) (by kernel_rfl)
 unfold World.var? at hv
 rw [hg] at hv
 simp only [Option.bind_some] at hv
 split at hv
 · rename_i cs' ty fr hb
   cases hv
   have hbs:2 < W.heap.size:=(Array.getElem?_eq_some_iff.1 hb).1
   have hcell:∀ j,j < 5->W.cell? ⟨2,j,none⟩=some (cs.getD j undef):=fun j hj=>by
    unfold World.cell?
    rw [hb]
    have:j < cs.size:=by simpa using (by omega:j < cs.toList.length)
    simp [Array.getD,this]
   have hcv:∀ (j f:Nat),cs.toList[j]?=some (.func (.func f) #[] #[])->cs.getD j undef=.func (.func f) #[] #[]:=fun j f hj=>by
    have h1:cs[j]?=some (.func (.func f) #[] #[]):=by simpa using hj
    rw [Array.getD_eq_getD_getElem?,h1]
    rfl
   have hrep:∀ f:Nat,Rep NoX W (.func (.func f) #[] #[]) (.fn (.func f) [] []):=fun f=>by
    have:=Rep.fn (X:=NoX) (w:=W) (.func f) (fun _=>undef) (fun _=>undef) [] [] (fun i hi=>absurd hi (by simp)) (fun i hi=>absurd hi (by simp))
    simpa using this
   refine ⟨?_,cs,ty,fr,hb,by simpa using hl⟩
   refine Rep.elt (X:=NoX) (w:=W) 2 0 5 [_] 0 0 (fun i j=>cs.getD j undef) hbs (fun h=>h) (by simp) (fun i hi=>?_) (fun i hi j hj=>?_) (fun i hi j hj=>?_) (fun i hi j hj=>?_)
   · have:i=0:=by simp at hi;exact hi
     subst this
     rfl
   · have:i=0:=by simp at hi;exact hi
     subst this
     simpa using hcell j hj
   · have:i=0:=by simp at hi;exact hi
     subst this
     match j,hj with
     | 0,_=>show Rep NoX W (cs.getD 0 undef) _;rw [hcv 0 226 c0];exact hrep 226
     | 1,_=>show Rep NoX W (cs.getD 1 undef) _;rw [hcv 1 227 c1];exact hrep 227
     | 2,_=>show Rep NoX W (cs.getD 2 undef) _;rw [hcv 2 229 c2];exact hrep 229
     | 3,_=>show Rep NoX W (cs.getD 3 undef) _;rw [hcv 3 230 c3];exact hrep 230
     | 4,_=>show Rep NoX W (cs.getD 4 undef) _;rw [hcv 4 231 c4];exact hrep 231
   · match j,hj with
     | 0,_=>show (cs.getD 0 undef).oneCell'=true;rw [hcv 0 226 c0];rfl
     | 1,_=>show (cs.getD 1 undef).oneCell'=true;rw [hcv 1 227 c1];rfl
     | 2,_=>show (cs.getD 2 undef).oneCell'=true;rw [hcv 2 229 c2];rfl
     | 3,_=>show (cs.getD 3 undef).oneCell'=true;rw [hcv 3 230 c3];rfl
     | 4,_=>show (cs.getD 4 undef).oneCell'=true;rw [hcv 4 231 c4];rfl
 · cases hv
theorem laidH_plain {P:Program} {l:List (String × DataW Unit)} {w:World} (h:laidMetH P l w):laidMet P (l.filter fun x=>x.2.handleName?.isNone) w:=by
 unfold laidMetH at h
 split at h
 · rename_i hfl
   have e:(l.filter fun x=>x.2.handleName?.isNone)=l:=by
    rw [List.filter_eq_self]
    intro x hx
    have:=(List.filter_eq_nil_iff.1 hfl) x hx
    cases hn:x.2.handleName? with
    | none=>rfl
    | some s=>rw [hn] at this;exact absurd rfl this
   rw [e]
   exact h
 · exact h.1
theorem globs {W:World} (h:laidMetH Tryz.prog laid5 W):∀ g cells,lk g G0=some cells->GlobOK NoX W g cells:=by
 have m2:=forms_glob h
 have h:=laidH_plain h
 obtain ⟨ps,hl,_⟩:=h
 have m0 := laid_glob (T := T0) tok (n := 8) (name := "flyover/flyoverlaw02.turned") (d := Rows.laid_flyover_flyoverlaw02_turned) (g := 0) (t := 165) (cells := nthR (G0.map (·.2)) 0) (by kernel_rfl) (by kernel_rfl) (by kernel_rfl) (by kernel_rfl) (by kernel_rfl) (by simp [nthR, G0]) (ps := ps) (by simp [laid5, Rows.sourceStringsRow, DataW.handleName?, Rows.laid_flyover_flyoverlaw02_turned]) hl
 have m1 := laid_glob (T := T0) tok (n := 8) (name := "flyover/source.words") (d := Rows.laid_flyover_source_words) (g := 1) (t := 219) (cells := nthR (G0.map (·.2)) 1) (by kernel_rfl) (by kernel_rfl) (by kernel_rfl) (by kernel_rfl) (by kernel_rfl) (by simp [nthR, G0]) (ps := ps) (by simp [laid5, Rows.sourceStringsRow, DataW.handleName?, Rows.laid_flyover_source_words]) hl
 have m4 := laid_glob (T := T0) tok (n := 8) (name := "internal/strconv.uint64pow10") (d := Rows.laid_internal_strconv_uint64pow10) (g := 4) (t := 285) (cells := nthR (G0.map (·.2)) 2) (by kernel_rfl) (by kernel_rfl) (by kernel_rfl) (by kernel_rfl) (by kernel_rfl) (by simp [nthR, G0]) (ps := ps) (by simp [laid5, Rows.sourceStringsRow, DataW.handleName?, Rows.laid_internal_strconv_uint64pow10]) hl
 intro g cells hg
 obtain ⟨u,hu,e1⟩:=lk_mem hg
 subst e1
 simp only [G0,List.mem_cons,List.not_mem_nil,or_false,Prod.mk.injEq] at hu
 rcases hu with ⟨rfl,rfl⟩ | ⟨rfl,rfl⟩ | ⟨rfl,rfl⟩ | ⟨rfl,rfl⟩
 · exact m0
 · exact m1
 · exact m4
 · exact m2
theorem wf64 {x:Int} (h:(Lit.int .i64 x).wf=true):In64 x:=by
 simp only [Lit.wf,Bool.and_eq_true,decide_eq_true_eq] at h
 exact h
end Go.Proofs.YtjhjmncjidbieaaGreatDoor
namespace Go.Proofs.YtjhjmncjidbieaaGreatDoor
open Go Go.Av Go.RowKit Go.ChangeShapes Go.WideShapes
theorem int_of {n:Nat} {r:List AV} (hn:shapeT T0 n 3=[.int .i64]) (hp:plainT T0 n 3=true) (h:ASh T0 n 3 r):∃ x:Int,r=encI x∧In64 x:=by
 have:=ash_shape n 3 r hp h
 rw [hn] at this
 obtain ⟨_,_,rfl,⟨x,rfl,hx⟩,rfl⟩:=this
 exact ⟨x,rfl,wf64 hx⟩
theorem sg_of {n m:Nat} {r:List AV} (hn:shapeT T0 n 117=[.int .i64,.sl m 3 1]) (hp:plainT T0 n 117=true) (hm:shapeT T0 m 3=[.int .i64]) (hq:plainT T0 m 3=true) (h:ASh T0 n 117 r):∃ s:Sg,r=encSg s∧True:=by
 have:=ash_shape n 117 r hp h
 rw [hn] at this
 obtain ⟨_,_,rfl,⟨x,rfl,_⟩,_,_,rfl,⟨rows,rfl,_,hr⟩,rfl⟩:=this
 obtain ⟨e,rfl,_⟩:=rows_enc (enc:=encI) (Q:=In64) (fun r hm'=>int_of hm hq (hr r hm'))
 exact ⟨⟨x,e⟩,rfl,trivial⟩
theorem ty_arg {a:AV} (h:ASh1 T0 8 47 a):∃ t:Ty,a=.agg (encTy t)∧t.st.length<=maxLen:=by
 obtain ⟨l,rfl,h2⟩:=ash1_agg (cs:=[.str,.sl 6 3 1,.int .i64,.int .i64,.int .i64,.int .i64,.int .i64,.int .i64,.int .i64,.int .i64,.int .i64,.sl 6 3 1,.sl 6 117 2])
  (ti:=⟨(.struct [(0,9,1),(1,43,1),(2,44,8),(10,3,1),(11,43,1),(12,45,1)]),13,160,true,[.str [],.ex (.slice none 0 0),.int .i64 0,.int .i64 0,.int .i64 0,.int .i64 0,.int .i64 0,.int .i64 0,.int .i64 0,.int .i64 0,.int .i64 0,.ex (.slice none 0 0),.ex (.slice none 0 0)],true⟩)
  (by kernel_rfl) rfl (by kernel_rfl) (by kernel_rfl) h
 obtain ⟨_,_,rfl,⟨nm,rfl,_⟩,_,_,rfl,⟨rs,rfl,_,hrs⟩,_,_,rfl,⟨d0,rfl,_⟩,_,_,rfl,⟨d1,rfl,_⟩,_,_,rfl,⟨d2,rfl,_⟩,_,_,rfl,⟨d3,rfl,_⟩,_,_,rfl,⟨d4,rfl,_⟩,_,_,rfl,⟨d5,rfl,_⟩,_,_,rfl,⟨d6,rfl,_⟩,_,_,rfl,⟨d7,rfl,_⟩,_,_,rfl,⟨sd,rfl,_⟩,_,_,rfl,⟨rq,rfl,_,hrq⟩,_,_,rfl,⟨rt,rfl,hlt,hrt⟩,rfl⟩:=h2
 obtain ⟨sh,rfl,_⟩:=rows_enc (enc:=encI) (Q:=In64) (fun r hm=>int_of (by kernel_rfl) (by kernel_rfl) (hrs r hm))
 obtain ⟨sq,rfl,_⟩:=rows_enc (enc:=encI) (Q:=In64) (fun r hm=>int_of (by kernel_rfl) (by kernel_rfl) (hrq r hm))
 obtain ⟨st,rfl,_⟩:=rows_enc (enc:=encSg) (Q:=fun _=>True) (fun r hm=>sg_of (m:=4) (by kernel_rfl) (by kernel_rfl) (by kernel_rfl) (by kernel_rfl) (hrt r hm))
 exact ⟨⟨nm,sh,d0,d1,d2,d3,d4,d5,d6,d7,sd,sq,st⟩,rfl,by simpa using hlt⟩
end Go.Proofs.YtjhjmncjidbieaaGreatDoor
namespace Go.Proofs.YtjhjmncjidbieaaGreatDoor
open Go Go.Av Go.RowKit Go.ChangeShapes Go.WideShapes
theorem wS_shaped2 (os:Os) (args:Array Value):((wS os).forCall (fun _ _=>0) ⟨#[],args,[]⟩).Shaped Tryz.prog:=World.shaped_of_ZipB (by kernel_rfl) (by kernel_rfl)
theorem str_arg {a:AV} (h:ASh1 T0 8 9 a):∃ s:List UInt8,a=.str s∧s.length<=maxLen:=by
 obtain ⟨s,rfl,hs⟩:=ash1_one (c:=.str) (ti:=⟨.str,1,16,false,[.str []],false⟩) (by kernel_rfl) rfl (by kernel_rfl) (by kernel_rfl) h
 exact ⟨s,rfl,hs⟩
end Go.Proofs.YtjhjmncjidbieaaGreatDoor
namespace Go.Proofs
open Go.Shelf
def Tryz.lays137_ren:Go.Shelf.Ren:=⟨fun | 137=>165 | 217=>177 | 266=>185 | n=>n,fun | 9=>9 | 5=>5 | 3=>3 | n=>n,fun | n=>n⟩
theorem Tryz.lays137:Go.Proofs.Lays.n137 Tryz.prog Tryz.lays137_ren:={
 mixed:=by kernel_rfl
 f137:=Tryz.func165.trans (congrArg some (by kernel_rfl))
 f217:=Tryz.func177.trans (congrArg some (by kernel_rfl))
 f266:=Tryz.func185.trans (congrArg some (by kernel_rfl))
 t3:=Tryz.underlying3
 a3:=Tryz.isAgg3
 z3:=Tryz.sizeOf3
 v3:=Tryz.zeroValue3
 t5:=Tryz.underlying5
 a5:=Tryz.isAgg5
 z5:=Tryz.sizeOf5
 v5:=Tryz.zeroValue5
 t9:=Tryz.underlying9
 a9:=Tryz.isAgg9
 z9:=Tryz.sizeOf9
 v9:=Tryz.zeroValue9 }
open Go.RowKit in
theorem Tryz.strings_IndexByte (s:ByteArray) (c:Int) (w:World) :
 Calls Tryz.prog 165 #[.string s,.int .u8 c] w fun e w'=>e=.returned (.int .i64 (Lib.indexByte s.data.toList c.toNat.toUInt8))∧w'=w:=Any.strings_IndexByte Tryz.lays137 s c w
def Tryz.lays143_ren:Go.Shelf.Ren:=⟨fun | 143=>181 | 219=>189 | 217=>177 | 225=>197 | 224=>198 | 267=>199 | 266=>185 | 314=>205 | n=>n,fun | 9=>9 | 3=>3 | 4=>4 | 5=>5 | 46=>283 | 146=>292 | 51=>78 | n=>n,fun | 1=>3 | n=>n⟩
theorem Tryz.lays143:Go.Proofs.Lays.n143 Tryz.prog Tryz.lays143_ren:={
 mixed:=by kernel_rfl
 f143:=Tryz.func181.trans (congrArg some (by kernel_rfl))
 f217:=Tryz.func177.trans (congrArg some (by kernel_rfl))
 f219:=Tryz.func189.trans (congrArg some (by kernel_rfl))
 f224:=Tryz.func198.trans (congrArg some (by kernel_rfl))
 f225:=Tryz.func197.trans (congrArg some (by kernel_rfl))
 f266:=Tryz.func185.trans (congrArg some (by kernel_rfl))
 f267:=Tryz.func199.trans (congrArg some (by kernel_rfl))
 f314:=Tryz.func205.trans (congrArg some (by kernel_rfl))
 t3:=Tryz.underlying3
 a3:=Tryz.isAgg3
 z3:=Tryz.sizeOf3
 v3:=Tryz.zeroValue3
 t4:=Tryz.underlying4
 a4:=Tryz.isAgg4
 z4:=Tryz.sizeOf4
 v4:=Tryz.zeroValue4
 t5:=Tryz.underlying5
 a5:=Tryz.isAgg5
 z5:=Tryz.sizeOf5
 v5:=Tryz.zeroValue5
 t9:=Tryz.underlying9
 a9:=Tryz.isAgg9
 z9:=Tryz.sizeOf9
 v9:=Tryz.zeroValue9
 t46:=Tryz.underlying283
 a46:=Tryz.isAgg283
 z46:=Tryz.sizeOf283
 v46:=Tryz.zeroValue283
 t51:=Tryz.underlying78
 a51:=Tryz.isAgg78
 z51:=Tryz.sizeOf78
 v51:=Tryz.zeroValue78
 t146:=Tryz.underlying292
 a146:=Tryz.isAgg292
 z146:=Tryz.sizeOf292
 v146:=Tryz.zeroValue292
 g1:=by kernel_rfl }
open Go.RowKit Go.Lib in
theorem Tryz.strings_Index_one (s:ByteArray) (c:UInt8) (w:World) :
 Calls Tryz.prog 181 #[.string s,.string ⟨#[c]⟩] w fun e w'=>e=.returned (.int .i64 (Lib.indexByte s.data.toList c))∧w'=w:=Any.strings_Index_one Tryz.lays143 s c w
def Tryz.lays138_ren:Go.Shelf.Ren:=⟨fun | 138=>180 | 195=>186 | 218=>188 | 143=>181 | 219=>189 | 217=>177 | 225=>197 | 224=>198 | 267=>199 | 266=>185 | 314=>205 | n=>n,fun | 9=>9 | 3=>3 | 4=>4 | 5=>5 | 0=>0 | 46=>283 | 146=>292 | 51=>78 | n=>n,fun | 1=>3 | n=>n⟩
theorem Tryz.lays138:Go.Proofs.Lays.n138 Tryz.prog Tryz.lays138_ren:={
 mixed:=by kernel_rfl
 f138:=Tryz.func180.trans (congrArg some (by kernel_rfl))
 f143:=Tryz.func181.trans (congrArg some (by kernel_rfl))
 f195:=Tryz.func186.trans (congrArg some (by kernel_rfl))
 f217:=Tryz.func177.trans (congrArg some (by kernel_rfl))
 f218:=Tryz.func188.trans (congrArg some (by kernel_rfl))
 f219:=Tryz.func189.trans (congrArg some (by kernel_rfl))
 f224:=Tryz.func198.trans (congrArg some (by kernel_rfl))
 f225:=Tryz.func197.trans (congrArg some (by kernel_rfl))
 f266:=Tryz.func185.trans (congrArg some (by kernel_rfl))
 f267:=Tryz.func199.trans (congrArg some (by kernel_rfl))
 f314:=Tryz.func205.trans (congrArg some (by kernel_rfl))
 t0:=Tryz.underlying0
 a0:=Tryz.isAgg0
 z0:=Tryz.sizeOf0
 v0:=Tryz.zeroValue0
 t3:=Tryz.underlying3
 a3:=Tryz.isAgg3
 z3:=Tryz.sizeOf3
 v3:=Tryz.zeroValue3
 t4:=Tryz.underlying4
 a4:=Tryz.isAgg4
 z4:=Tryz.sizeOf4
 v4:=Tryz.zeroValue4
 t5:=Tryz.underlying5
 a5:=Tryz.isAgg5
 z5:=Tryz.sizeOf5
 v5:=Tryz.zeroValue5
 t9:=Tryz.underlying9
 a9:=Tryz.isAgg9
 z9:=Tryz.sizeOf9
 v9:=Tryz.zeroValue9
 t46:=Tryz.underlying283
 a46:=Tryz.isAgg283
 z46:=Tryz.sizeOf283
 v46:=Tryz.zeroValue283
 t51:=Tryz.underlying78
 a51:=Tryz.isAgg78
 z51:=Tryz.sizeOf78
 v51:=Tryz.zeroValue78
 t146:=Tryz.underlying292
 a146:=Tryz.isAgg292
 z146:=Tryz.sizeOf292
 v146:=Tryz.zeroValue292
 g1:=by kernel_rfl }
open Go.RowKit Go.Lib in
theorem Tryz.strings_Count_one (s:ByteArray) (c:UInt8) (w:World) :
 Calls Tryz.prog 180 #[.string s,.string ⟨#[c]⟩] w fun e w'=>e=.returned (.int .i64 (Lib.countByte s.data.toList c))∧w'=w:=Any.strings_Count_one Tryz.lays138 s c w
def Tryz.lays221_ren:Go.Shelf.Ren:=⟨fun | 221=>167 | 268=>179 | 138=>180 | 143=>181 | 195=>186 | 197=>187 | 218=>188 | 219=>189 | 260=>196 | 217=>177 | 225=>197 | 224=>198 | 267=>199 | 266=>185 | 314=>205 | n=>n,fun | 9=>9 | 3=>3 | 31=>160 | 4=>4 | 0=>0 | 105=>272 | 21=>21 | 5=>5 | 46=>283 | 119=>288 | 139=>291 | 138=>290 | 146=>292 | 51=>78 | n=>n,fun | 1=>3 | 3=>5 | 4=>6 | n=>n⟩
theorem Tryz.lays221:Go.Proofs.Lays.n221 Tryz.prog Tryz.lays221_ren:={
 mixed:=by kernel_rfl
 f138:=Tryz.func180.trans (congrArg some (by kernel_rfl))
 f143:=Tryz.func181.trans (congrArg some (by kernel_rfl))
 f195:=Tryz.func186.trans (congrArg some (by kernel_rfl))
 f197:=Tryz.func187.trans (congrArg some (by kernel_rfl))
 f217:=Tryz.func177.trans (congrArg some (by kernel_rfl))
 f218:=Tryz.func188.trans (congrArg some (by kernel_rfl))
 f219:=Tryz.func189.trans (congrArg some (by kernel_rfl))
 f221:=Tryz.func167.trans (congrArg some (by kernel_rfl))
 f224:=Tryz.func198.trans (congrArg some (by kernel_rfl))
 f225:=Tryz.func197.trans (congrArg some (by kernel_rfl))
 f260:=Tryz.func196.trans (congrArg some (by kernel_rfl))
 f266:=Tryz.func185.trans (congrArg some (by kernel_rfl))
 f267:=Tryz.func199.trans (congrArg some (by kernel_rfl))
 f268:=Tryz.func179.trans (congrArg some (by kernel_rfl))
 f314:=Tryz.func205.trans (congrArg some (by kernel_rfl))
 t0:=Tryz.underlying0
 a0:=Tryz.isAgg0
 z0:=Tryz.sizeOf0
 v0:=Tryz.zeroValue0
 t3:=Tryz.underlying3
 a3:=Tryz.isAgg3
 z3:=Tryz.sizeOf3
 v3:=Tryz.zeroValue3
 t4:=Tryz.underlying4
 a4:=Tryz.isAgg4
 z4:=Tryz.sizeOf4
 v4:=Tryz.zeroValue4
 t5:=Tryz.underlying5
 a5:=Tryz.isAgg5
 z5:=Tryz.sizeOf5
 v5:=Tryz.zeroValue5
 t9:=Tryz.underlying9
 a9:=Tryz.isAgg9
 z9:=Tryz.sizeOf9
 v9:=Tryz.zeroValue9
 t21:=Tryz.underlying21
 a21:=Tryz.isAgg21
 z21:=Tryz.sizeOf21
 v21:=Tryz.zeroValue21
 t31:=Tryz.underlying160
 a31:=Tryz.isAgg160
 z31:=Tryz.sizeOf160
 v31:=Tryz.zeroValue160
 t46:=Tryz.underlying283
 a46:=Tryz.isAgg283
 z46:=Tryz.sizeOf283
 v46:=Tryz.zeroValue283
 t51:=Tryz.underlying78
 a51:=Tryz.isAgg78
 z51:=Tryz.sizeOf78
 v51:=Tryz.zeroValue78
 t105:=Tryz.underlying272
 a105:=Tryz.isAgg272
 z105:=Tryz.sizeOf272
 v105:=Tryz.zeroValue272
 t119:=Tryz.underlying288
 a119:=Tryz.isAgg288
 z119:=Tryz.sizeOf288
 t138:=Tryz.underlying290
 a138:=Tryz.isAgg290
 z138:=Tryz.sizeOf290
 v138:=Tryz.zeroValue290
 t139:=Tryz.underlying291
 a139:=Tryz.isAgg291
 z139:=Tryz.sizeOf291
 v139:=Tryz.zeroValue291
 t146:=Tryz.underlying292
 a146:=Tryz.isAgg292
 z146:=Tryz.sizeOf292
 v146:=Tryz.zeroValue292
 g1:=by kernel_rfl
 g3:=by kernel_rfl
 g4:=by kernel_rfl }
end Go.Proofs
namespace Go.Proofs.YtjhjmncjidbieaaGreatDoor
open Go Go.Av Go.RowKit
end Go.Proofs.YtjhjmncjidbieaaGreatDoor
namespace Go.Proofs.YtjhjmncjidbieaaGreatDoor
open Go Go.Av Go.RowKit
def atI (l:List Fx) (tk:Int):Nat->Nat
 | 0=>0
 | m+1=>if (l.getD m default).t<=tk then m else atI l tk m
structure TrackOK (l:List Fx):Prop where
 n1:2<=l.length
 n2:l.length<=16
 b:∀ i,i < l.length->(0<=(l.getD i default).t∧(l.getD i default).t<=100000000)∧(-100000<=(l.getD i default).x∧(l.getD i default).x<=100000)∧(-100000<=(l.getD i default).y∧(l.getD i default).y<=100000)∧(0<=(l.getD i default).z∧(l.getD i default).z<=20000)∧1<=(l.getD i default).p∧(l.getD i default).p<=100
 up:∀ i,i+1 < l.length->(l.getD i default).t < (l.getD (i+1) default).t
def atA (l:List Fx) (tk:Int):Fx:=l.getD (atI l tk (l.length-1)) default
def atB (l:List Fx) (tk:Int):Fx:=l.getD (atI l tk (l.length-1)+1) default
end Go.Proofs.YtjhjmncjidbieaaGreatDoor
namespace Go.Proofs.YtjhjmncjidbieaaGreatDoor
open Go Go.Av Go.RowKit
end Go.Proofs.YtjhjmncjidbieaaGreatDoor
namespace Go.Proofs.YtjhjmncjidbieaaGreatDoor
open Go Go.Av Go.RowKit
end Go.Proofs.YtjhjmncjidbieaaGreatDoor
namespace Go.Proofs.YtjhjmncjidbieaaGreatDoor
open Go Go.Av Go.RowKit
def aX (l:List Fx) (tk:Int):Int:=sBetween (atA l tk).x (atB l tk).x (tk-(atA l tk).t) ((atB l tk).t-(atA l tk).t)
def aY (l:List Fx) (tk:Int):Int:=sBetween (atA l tk).y (atB l tk).y (tk-(atA l tk).t) ((atB l tk).t-(atA l tk).t)
def aZ (l:List Fx) (tk:Int):Int:=sBetween (atA l tk).z (atB l tk).z (tk-(atA l tk).t) ((atB l tk).t-(atA l tk).t)
def aH (l:List Fx) (tk:Int):Int:=(atB l tk).x-(atA l tk).x
def aK (l:List Fx) (tk:Int):Int:=(atB l tk).y-(atA l tk).y
def aP (l:List Fx) (tk:Int):Int:=sBetween (atA l tk).p (atB l tk).p (tk-(atA l tk).t) ((atB l tk).t-(atA l tk).t)
structure AtOK (l:List Fx) (tk:Int):Prop where
 x : -100000<=aX l tk∧aX l tk<=100000
 y : -100000<=aY l tk∧aY l tk<=100000
 z:0<=aZ l tk∧aZ l tk<=20000
 h : -200000<=aH l tk∧aH l tk<=200000
 k : -200000<=aK l tk∧aK l tk<=200000
 p:1<=aP l tk∧aP l tk<=100
end Go.Proofs.YtjhjmncjidbieaaGreatDoor
namespace Go.Proofs.YtjhjmncjidbieaaGreatDoor
open Go Go.Av Go.RowKit
end Go.Proofs.YtjhjmncjidbieaaGreatDoor
namespace Go.Proofs.YtjhjmncjidbieaaGreatDoor
open Go Go.Av Go.RowKit
end Go.Proofs.YtjhjmncjidbieaaGreatDoor
