/-
  Calls on concrete values. The arguments of chapter 2's statements, and the way from a contract of a statement to its row. A type, and what is asked of it, as arguments. Contracts from the parts of a body. No condition but the theorems' own.
-/
import Derived.Test.YtjhjmncjidbieaaGreatDoorPD
import Derived.Test.YtjhjmncjidbieaaGreatDoorPB
import Derived.Test.YtjhjmncjidbieaaGreatDoorAvD
import Derived.Test.YtjhjmncjidbieaaGreatDoorCards
import Derived.Test.YtjhjmncjidbieaaGreatDoorTie
import Derived.LaidMore
import Derived.LaidOnce
import Derived.LaidHandle
import Derived.Lay
import Derived.Stop.Joined
import Derived.SevenTiedAt
import Derived.Test.YtjhjmncjidbieaaGreatDoorPC
namespace Go.Proofs.YtjhjmncjidbieaaGreatDoor
open Go Go.Av Go.RowKit
def Wm:List (List AV):=[[.i 5,.i 0,.i 0,.i 0,.i 10],[.i 9,.i 8,.i 0,.i 0,.i 20]]
def awv1:List (List AV):=[[.i 10,.sl 1 [[.i 1000],[.i 400]]],[.i 20,.sl 1 [[.i 2000],[.i 600]]]]
def awv2:List AV:=[.sl 5 Wm,.i 6]
def awv3:List (List AV):=[[.i 1000],[.i 1000],[.i 1000],[.i 1000],[.i 500],[.i 500],[.i 500],[.i 500]]
def awv4:List AV:=[.sl 1 awv3]
def awv5:List (List AV):=[[.i 100,.i 0,.i 0,.i 0,.i 100],[.i 103,.i 10,.i 0,.i 50,.i 80],[.i 104,.i 10,.i 5,.i 50,.i 80]]
def awv6:List AV:=[.str [111,110,101],.str [106,101,116],.sl 5 Wm]
def awv7:List AV:=[.str [116,119,111],.str [106,101,116],.sl 5 Wm]
def awv8:List AV:=[.str [111,110,101],.str [106,101,116],.sl 5 Wm,.i 2700]
def awv9:List AV:=[.str [116,119,111],.str [106,101,116],.sl 5 Wm,.i 2700]
def Ql:List AV:=[.str [106,101,116],.sl 1 [[.i 600],[.i 400]],.i 1000,.i 1000,.i 1000,.i 1000,.i 500,.i 500,.i 500,.i 500,.i 500,.sl 1 [[.i 0],[.i 100]],.sl 2 awv1]
def JnI:List (List AV):=[Ql]
def Jr7:List (List AV):=[awv6,awv7]
def Jig:List AV:=[.agg Ql]
def awv14:List AV:=[.sl 13 JnI]
def JnH:List (List AV):=[awv14]
def JnG:List AV:=[.agg Ql,.i 30,.i 0]
def JnF:List AV:=[.agg Ql,.i 15,.i 99]
def JnE:List AV:=[.agg Ql,.i 15,.i 100]
def JnD:List (List AV):=[awv8,awv9]
def Jif:List AV:=[.agg Ql,.sl 5 Wm,.agg [.i 6,.i 8],.agg [.i 4,.i 2,.i 0]]
def Jef:List AV:=[.agg Ql,.sl 5 Wm,.agg [.i 0,.i 100000000],.agg [.i 4,.i 2,.i 0]]
def Jie:List AV:=[.sl 13 JnI,.sl 3 Jr7,.agg [.i 4,.i 2,.i 0]]
def awM0:List Mem:=[]
theorem awK0:KnownM Tryz.prog G0 awM0:=KnownM.nil
theorem awc1:P0 122 ([.str [106,101,116]]) (.bool true):=Jt awK0 (by kernel_rfl)
def awM1:List Mem:=⟨122,[.str [106,101,116]],.bool true⟩::awM0
theorem awK1:KnownM Tryz.prog G0 awM1:=KnownM.cons awc1 awK0
theorem awc2:P0 123 ([.i 2,.i 8]) (.i 0):=Jt awK1 (by kernel_rfl)
def awM2:List Mem:=⟨123,[.i 2,.i 8],.i 0⟩::awM1
theorem awK2:KnownM Tryz.prog G0 awM2:=KnownM.cons awc2 awK1
theorem awc3:P0 124 ([.sl 1 [[.i 600],[.i 400]],.i 1000]) (.i 0):=Jt awK2 (by kernel_rfl)
def awM3:List Mem:=⟨124,[.sl 1 [[.i 600],[.i 400]],.i 1000],.i 0⟩::awM2
theorem awK3:KnownM Tryz.prog G0 awM3:=KnownM.cons awc3 awK2
theorem awc4:P0 87 ([.sl 1 [[.i 0],[.i 0],[.i 0],[.i 0]]]) (.i 0):=Jt awK3 (by kernel_rfl)
def awM4:List Mem:=⟨87,[.sl 1 [[.i 0],[.i 0],[.i 0],[.i 0]]],.i 0⟩::awM3
theorem awK4:KnownM Tryz.prog G0 awM4:=KnownM.cons awc4 awK3
theorem awc5:P0 87 ([.sl 1 [[.i 0],[.i 0],[.i 0],[.i 0],[.i 0],[.i 0],[.i 0],[.i 0]]]) (.i 0):=Jt awK4 (by kernel_rfl)
def awM5:List Mem:=⟨87,[.sl 1 [[.i 0],[.i 0],[.i 0],[.i 0],[.i 0],[.i 0],[.i 0],[.i 0]]],.i 0⟩::awM4
theorem awK5:KnownM Tryz.prog G0 awM5:=KnownM.cons awc5 awK4
theorem awc6:P0 124 ([.sl 1 awv3,.i 2000]) (.i 0):=Jt awK5 (by kernel_rfl)
def awM6:List Mem:=⟨124,[.sl 1 awv3,.i 2000],.i 0⟩::awM5
theorem awK6:KnownM Tryz.prog G0 awM6:=KnownM.cons awc6 awK5
theorem awc7:P0 124 ([.sl 1 [[.i 0],[.i 100]],.i 100000000000]) (.i 0):=Jt awK6 (by kernel_rfl)
def awM7:List Mem:=⟨124,[.sl 1 [[.i 0],[.i 100]],.i 100000000000],.i 0⟩::awM6
theorem awK7:KnownM Tryz.prog G0 awM7:=KnownM.cons awc7 awK6
theorem awc8:P0 123 ([.i 2,.i 6]) (.i 0):=Jt awK7 (by kernel_rfl)
def awM8:List Mem:=⟨123,[.i 2,.i 6],.i 0⟩::awM7
theorem awK8:KnownM Tryz.prog G0 awM8:=KnownM.cons awc8 awK7
theorem awc9:P0 124 ([.sl 1 [[.i 1000],[.i 400]],.i 100000000]) (.i 0):=Jt awK8 (by kernel_rfl)
def awM9:List Mem:=⟨124,[.sl 1 [[.i 1000],[.i 400]],.i 100000000],.i 0⟩::awM8
theorem awK9:KnownM Tryz.prog G0 awM9:=KnownM.cons awc9 awK8
theorem awc10:P0 124 ([.sl 1 [[.i 2000],[.i 600]],.i 100000000]) (.i 0):=Jt awK9 (by kernel_rfl)
def awM10:List Mem:=⟨124,[.sl 1 [[.i 2000],[.i 600]],.i 100000000],.i 0⟩::awM9
theorem awK10:KnownM Tryz.prog G0 awM10:=KnownM.cons awc10 awK9
theorem awc11:P0 125 (Jig) (.i 0):=Jt awK10 (by kernel_rfl)
def awM11:List Mem:=⟨125,Jig,.i 0⟩::awM10
theorem awK11:KnownM Tryz.prog G0 awM11:=KnownM.cons awc11 awK10
theorem awc12:P0 53 (Jig) (.i 0):=Jt awK11 (by kernel_rfl)
def awM12:List Mem:=⟨53,Jig,.i 0⟩::awM11
theorem awK12:KnownM Tryz.prog G0 awM12:=KnownM.cons awc12 awK11
theorem awc13:P0 87 ([.sl 1 [[.i 0],[.i 0],[.i 0]]]) (.i 0):=Jt awK12 (by kernel_rfl)
def awM13:List Mem:=⟨87,[.sl 1 [[.i 0],[.i 0],[.i 0]]],.i 0⟩::awM12
theorem awK13:KnownM Tryz.prog G0 awM13:=KnownM.cons awc13 awK12
theorem awc14:P0 114 (JnF) (.i 1500):=Jt awK13 (by kernel_rfl)
def awM14:List Mem:=⟨114,JnF,.i 1500⟩::awM13
theorem awK14:KnownM Tryz.prog G0 awM14:=KnownM.cons awc14 awK13
theorem awc15:P0 40 (JnF) (.tup [.i 1500,.i 0]):=Jt awK14 (by kernel_rfl)
def awM15:List Mem:=⟨40,JnF,.tup [.i 1500,.i 0]⟩::awM14
theorem awK15:KnownM Tryz.prog G0 awM15:=KnownM.cons awc15 awK14
theorem awc16:P0 114 (JnE) (.i 500):=Jt awK15 (by kernel_rfl)
def awM16:List Mem:=⟨114,JnE,.i 500⟩::awM15
theorem awK16:KnownM Tryz.prog G0 awM16:=KnownM.cons awc16 awK15
theorem awc17:P0 40 (JnE) (.tup [.i 500,.i 0]):=Jt awK16 (by kernel_rfl)
def awM17:List Mem:=⟨40,JnE,.tup [.i 500,.i 0]⟩::awM16
theorem awK17:KnownM Tryz.prog G0 awM17:=KnownM.cons awc17 awK16
theorem awc18:P0 114 (JnG) (.i 2000):=Jt awK17 (by kernel_rfl)
def awM18:List Mem:=⟨114,JnG,.i 2000⟩::awM17
theorem awK18:KnownM Tryz.prog G0 awM18:=KnownM.cons awc18 awK17
theorem awc19:P0 40 (JnG) (.tup [.i 2000,.i 0]):=Jt awK18 (by kernel_rfl)
def awM19:List Mem:=⟨40,JnG,.tup [.i 2000,.i 0]⟩::awM18
theorem awK19:KnownM Tryz.prog G0 awM19:=KnownM.cons awc19 awK18
theorem awc20:P0 104 ([.agg [.i 0,.i 0,.i 0]]) (.i 0):=Jt awK19 (by kernel_rfl)
def awM20:List Mem:=⟨104,[.agg [.i 0,.i 0,.i 0]],.i 0⟩::awM19
theorem awK20:KnownM Tryz.prog G0 awM20:=KnownM.cons awc20 awK19
theorem awc21:P0 134 ([.agg [.i 5,.i 0,.i 0,.i 0,.i 10]]) (.i 0):=Jt awK20 (by kernel_rfl)
def awM21:List Mem:=⟨134,[.agg [.i 5,.i 0,.i 0,.i 0,.i 10]],.i 0⟩::awM20
theorem awK21:KnownM Tryz.prog G0 awM21:=KnownM.cons awc21 awK20
theorem awc22:P0 104 ([.agg [.i 8,.i 0,.i 0]]) (.i 0):=Jt awK21 (by kernel_rfl)
def awM22:List Mem:=⟨104,[.agg [.i 8,.i 0,.i 0]],.i 0⟩::awM21
theorem awK22:KnownM Tryz.prog G0 awM22:=KnownM.cons awc22 awK21
theorem awc23:P0 134 ([.agg [.i 9,.i 8,.i 0,.i 0,.i 20]]) (.i 0):=Jt awK22 (by kernel_rfl)
def awM23:List Mem:=⟨134,[.agg [.i 9,.i 8,.i 0,.i 0,.i 20]],.i 0⟩::awM22
theorem awK23:KnownM Tryz.prog G0 awM23:=KnownM.cons awc23 awK22
theorem awc24:P0 76 ([.sl 5 Wm]) (.i 0):=Jt awK23 (by kernel_rfl)
def awM24:List Mem:=⟨76,[.sl 5 Wm],.i 0⟩::awM23
theorem awK24:KnownM Tryz.prog G0 awM24:=KnownM.cons awc24 awK23
theorem awc25:P0 126 (awv2) (.agg [.i 2,.i 0,.i 0,.i 8,.i 0,.i 12]):=Jt awK24 (by kernel_rfl)
def awM25:List Mem:=⟨126,awv2,.agg [.i 2,.i 0,.i 0,.i 8,.i 0,.i 12]⟩::awM24
theorem awK25:KnownM Tryz.prog G0 awM25:=KnownM.cons awc25 awK24
theorem awc26:P0 56 (awv2) (.tup [.agg [.i 2,.i 0,.i 0,.i 8,.i 0,.i 12],.i 0]):=Jt awK25 (by kernel_rfl)
def awM26:List Mem:=⟨56,awv2,.tup [.agg [.i 2,.i 0,.i 0,.i 8,.i 0,.i 12],.i 0]⟩::awM25
theorem awK26:KnownM Tryz.prog G0 awM26:=KnownM.cons awc26 awK25
theorem awc27:P0 104 ([.agg [.i 4,.i 2,.i 0]]) (.i 0):=Jt awK26 (by kernel_rfl)
def awM27:List Mem:=⟨104,[.agg [.i 4,.i 2,.i 0]],.i 0⟩::awM26
theorem awK27:KnownM Tryz.prog G0 awM27:=KnownM.cons awc27 awK26
theorem awc28:P0 99 (Jef) (.i 0):=Jt awK27 (by kernel_rfl)
def awM28:List Mem:=⟨99,Jef,.i 0⟩::awM27
theorem awK28:KnownM Tryz.prog G0 awM28:=KnownM.cons awc28 awK27
theorem awc29:P0 126 ([.sl 5 Wm,.i 5]) (.agg [.i 0,.i 0,.i 0,.i 8,.i 0,.i 10]):=Jt awK28 (by kernel_rfl)
def awM29:List Mem:=⟨126,[.sl 5 Wm,.i 5],.agg [.i 0,.i 0,.i 0,.i 8,.i 0,.i 10]⟩::awM28
theorem awK29:KnownM Tryz.prog G0 awM29:=KnownM.cons awc29 awK28
theorem awc30:P0 116 ([.agg [.i 8,.i 0],.agg [.i 4,.i 2]]) (.i 0):=Jt awK29 (by kernel_rfl)
def awM30:List Mem:=⟨116,[.agg [.i 8,.i 0],.agg [.i 4,.i 2]],.i 0⟩::awM29
theorem awK30:KnownM Tryz.prog G0 awM30:=KnownM.cons awc30 awK29
theorem awc31:P0 114 ([.agg Ql,.i 10,.i 20]) (.i 1000):=Jt awK30 (by kernel_rfl)
def awM31:List Mem:=⟨114,[.agg Ql,.i 10,.i 20],.i 1000⟩::awM30
theorem awK31:KnownM Tryz.prog G0 awM31:=KnownM.cons awc31 awK30
theorem awc32:P0 117 ([.agg Ql,.agg [.i 0,.i 0,.i 0,.i 8,.i 0,.i 10],.agg [.i 4,.i 2,.i 0]]) (.i 500):=Jt awK31 (by kernel_rfl)
def awM32:List Mem:=⟨117,[.agg Ql,.agg [.i 0,.i 0,.i 0,.i 8,.i 0,.i 10],.agg [.i 4,.i 2,.i 0]],.i 500⟩::awM31
theorem awK32:KnownM Tryz.prog G0 awM32:=KnownM.cons awc32 awK31
theorem awc33:P0 116 ([.agg [.i 8,.i 0],.agg [.i 2,.i 2]]) (.i 1):=Jt awK32 (by kernel_rfl)
def awM33:List Mem:=⟨116,[.agg [.i 8,.i 0],.agg [.i 2,.i 2]],.i 1⟩::awM32
theorem awK33:KnownM Tryz.prog G0 awM33:=KnownM.cons awc33 awK32
theorem awc34:P0 114 ([.agg Ql,.i 12,.i 8]) (.i 1200):=Jt awK33 (by kernel_rfl)
def awM34:List Mem:=⟨114,[.agg Ql,.i 12,.i 8],.i 1200⟩::awM33
theorem awK34:KnownM Tryz.prog G0 awM34:=KnownM.cons awc34 awK33
theorem awc35:P0 117 ([.agg Ql,.agg [.i 2,.i 0,.i 0,.i 8,.i 0,.i 12],.agg [.i 4,.i 2,.i 0]]) (.i 600):=Jt awK34 (by kernel_rfl)
def awM35:List Mem:=⟨117,[.agg Ql,.agg [.i 2,.i 0,.i 0,.i 8,.i 0,.i 12],.agg [.i 4,.i 2,.i 0]],.i 600⟩::awM34
theorem awK35:KnownM Tryz.prog G0 awM35:=KnownM.cons awc35 awK34
theorem awc36:P0 126 ([.sl 5 Wm,.i 7]) (.agg [.i 4,.i 0,.i 0,.i 8,.i 0,.i 15]):=Jt awK35 (by kernel_rfl)
def awM36:List Mem:=⟨126,[.sl 5 Wm,.i 7],.agg [.i 4,.i 0,.i 0,.i 8,.i 0,.i 15]⟩::awM35
theorem awK36:KnownM Tryz.prog G0 awM36:=KnownM.cons awc36 awK35
theorem awc37:P0 116 ([.agg [.i 8,.i 0],.agg [.i 0,.i 2]]) (.i 2):=Jt awK36 (by kernel_rfl)
def awM37:List Mem:=⟨116,[.agg [.i 8,.i 0],.agg [.i 0,.i 2]],.i 2⟩::awM36
theorem awK37:KnownM Tryz.prog G0 awM37:=KnownM.cons awc37 awK36
theorem awc38:P0 114 ([.agg Ql,.i 15,.i 4]) (.i 1500):=Jt awK37 (by kernel_rfl)
def awM38:List Mem:=⟨114,[.agg Ql,.i 15,.i 4],.i 1500⟩::awM37
theorem awK38:KnownM Tryz.prog G0 awM38:=KnownM.cons awc38 awK37
theorem awc39:P0 117 ([.agg Ql,.agg [.i 4,.i 0,.i 0,.i 8,.i 0,.i 15],.agg [.i 4,.i 2,.i 0]]) (.i 750):=Jt awK38 (by kernel_rfl)
def awM39:List Mem:=⟨117,[.agg Ql,.agg [.i 4,.i 0,.i 0,.i 8,.i 0,.i 15],.agg [.i 4,.i 2,.i 0]],.i 750⟩::awM38
theorem awK39:KnownM Tryz.prog G0 awM39:=KnownM.cons awc39 awK38
theorem awc40:P0 126 ([.sl 5 Wm,.i 8]) (.agg [.i 6,.i 0,.i 0,.i 8,.i 0,.i 17]):=Jt awK39 (by kernel_rfl)
def awM40:List Mem:=⟨126,[.sl 5 Wm,.i 8],.agg [.i 6,.i 0,.i 0,.i 8,.i 0,.i 17]⟩::awM39
theorem awK40:KnownM Tryz.prog G0 awM40:=KnownM.cons awc40 awK39
theorem awc41:P0 116 ([.agg [.i 8,.i 0],.agg [.i (-2),.i 2]]) (.i 3):=Jt awK40 (by kernel_rfl)
def awM41:List Mem:=⟨116,[.agg [.i 8,.i 0],.agg [.i (-2),.i 2]],.i 3⟩::awM40
theorem awK41:KnownM Tryz.prog G0 awM41:=KnownM.cons awc41 awK40
theorem awc42:P0 114 ([.agg Ql,.i 17,.i 8]) (.i 1700):=Jt awK41 (by kernel_rfl)
def awM42:List Mem:=⟨114,[.agg Ql,.i 17,.i 8],.i 1700⟩::awM41
theorem awK42:KnownM Tryz.prog G0 awM42:=KnownM.cons awc42 awK41
theorem awc43:P0 117 ([.agg Ql,.agg [.i 6,.i 0,.i 0,.i 8,.i 0,.i 17],.agg [.i 4,.i 2,.i 0]]) (.i 850):=Jt awK42 (by kernel_rfl)
def awM43:List Mem:=⟨117,[.agg Ql,.agg [.i 6,.i 0,.i 0,.i 8,.i 0,.i 17],.agg [.i 4,.i 2,.i 0]],.i 850⟩::awM42
theorem awK43:KnownM Tryz.prog G0 awM43:=KnownM.cons awc43 awK42
theorem awc44:P0 100 (Jef) (.i 2700):=Jt awK43 (by kernel_rfl)
def awM44:List Mem:=⟨100,Jef,.i 2700⟩::awM43
theorem awK44:KnownM Tryz.prog G0 awM44:=KnownM.cons awc44 awK43
theorem awc45:P0 27 (Jef) (.tup [.i 2700,.i 0]):=Jt awK44 (by kernel_rfl)
def awM45:List Mem:=⟨27,Jef,.tup [.i 2700,.i 0]⟩::awM44
theorem awK45:KnownM Tryz.prog G0 awM45:=KnownM.cons awc45 awK44
theorem awc46:P0 99 (Jif) (.i 0):=Jt awK45 (by kernel_rfl)
def awM46:List Mem:=⟨99,Jif,.i 0⟩::awM45
theorem awK46:KnownM Tryz.prog G0 awM46:=KnownM.cons awc46 awK45
theorem awc47:P0 100 (Jif) (.i 1350):=Jt awK46 (by kernel_rfl)
def awM47:List Mem:=⟨100,Jif,.i 1350⟩::awM46
theorem awK47:KnownM Tryz.prog G0 awM47:=KnownM.cons awc47 awK46
theorem awc48:P0 27 (Jif) (.tup [.i 1350,.i 0]):=Jt awK47 (by kernel_rfl)
def awM48:List Mem:=⟨27,Jif,.tup [.i 1350,.i 0]⟩::awM47
theorem awK48:KnownM Tryz.prog G0 awM48:=KnownM.cons awc48 awK47
theorem awc49:P0 30 (Jef) (.tup [.i 850,.i 8,.i 0]):=Jt awK48 (by kernel_rfl)
def awM49:List Mem:=⟨30,Jef,.tup [.i 850,.i 8,.i 0]⟩::awM48
theorem awK49:KnownM Tryz.prog G0 awM49:=KnownM.cons awc49 awK48
theorem awc50:P0 146 (awv4) (.i 500):=Jt awK49 (by kernel_rfl)
def awM50:List Mem:=⟨146,awv4,.i 500⟩::awM49
theorem awK50:KnownM Tryz.prog G0 awM50:=KnownM.cons awc50 awK49
theorem awc51:P0 114 ([.agg Ql,.i 20,.i 4]) (.i 2000):=Jt awK50 (by kernel_rfl)
def awM51:List Mem:=⟨114,[.agg Ql,.i 20,.i 4],.i 2000⟩::awM50
theorem awK51:KnownM Tryz.prog G0 awM51:=KnownM.cons awc51 awK50
theorem awc52:P0 147 (awv4) (.i 1000):=Jt awK51 (by kernel_rfl)
def awM52:List Mem:=⟨147,awv4,.i 1000⟩::awM51
theorem awK52:KnownM Tryz.prog G0 awM52:=KnownM.cons awc52 awK51
theorem awc53:P0 105 ([.agg Ql,.agg [.i 5,.i 0,.i 0,.i 0,.i 10],.agg [.i 9,.i 8,.i 0,.i 0,.i 20],.agg [.i 4,.i 2,.i 0]]) (.agg [.i 1000,.i 8000]):=Jt awK52 (by kernel_rfl)
def awM53:List Mem:=⟨105,[.agg Ql,.agg [.i 5,.i 0,.i 0,.i 0,.i 10],.agg [.i 9,.i 8,.i 0,.i 0,.i 20],.agg [.i 4,.i 2,.i 0]],.agg [.i 1000,.i 8000]⟩::awM52
theorem awK53:KnownM Tryz.prog G0 awM53:=KnownM.cons awc53 awK52
theorem awc54:P0 31 ([.agg Ql,.sl 5 Wm,.agg [.i 4,.i 2,.i 0]]) (.tup [.agg [.i 1000,.i 8000],.i 0]):=Jt awK53 (by kernel_rfl)
def awM54:List Mem:=⟨31,[.agg Ql,.sl 5 Wm,.agg [.i 4,.i 2,.i 0]],.tup [.agg [.i 1000,.i 8000],.i 0]⟩::awM53
theorem awK54:KnownM Tryz.prog G0 awM54:=KnownM.cons awc54 awK53
theorem awc55:P0 43 ([.agg Ql,.i 101]) (.tup [.sl 1 [[.i 61],[.i 40]],.i 0]):=Jt awK54 (by kernel_rfl)
def awM55:List Mem:=⟨43,[.agg Ql,.i 101],.tup [.sl 1 [[.i 61],[.i 40]],.i 0]⟩::awM54
theorem awK55:KnownM Tryz.prog G0 awM55:=KnownM.cons awc55 awK54
theorem awc56:P0 39 ([.sl 5 Wm,.i 2]) (.tup [.sl 5 Wm,.i 0]):=Jt awK55 (by kernel_rfl)
def awM56:List Mem:=⟨39,[.sl 5 Wm,.i 2],.tup [.sl 5 Wm,.i 0]⟩::awM55
theorem awK56:KnownM Tryz.prog G0 awM56:=KnownM.cons awc56 awK55
theorem awc57:P0 39 ([.sl 5 Wm,.i 1]) (.tup [.ex (.slice none 0 0),.i 16]):=Jt awK56 (by kernel_rfl)
def awM57:List Mem:=⟨39,[.sl 5 Wm,.i 1],.tup [.ex (.slice none 0 0),.i 16]⟩::awM56
theorem awK57:KnownM Tryz.prog G0 awM57:=KnownM.cons awc57 awK56
theorem awc58:P0 54 ([.sl 1 [[.i 61],[.i 40]],.sl 1 [[.i 61],[.i 40]]]) (.bool true):=Jt awK57 (by kernel_rfl)
def awM58:List Mem:=⟨54,[.sl 1 [[.i 61],[.i 40]],.sl 1 [[.i 61],[.i 40]]],.bool true⟩::awM57
theorem awK58:KnownM Tryz.prog G0 awM58:=KnownM.cons awc58 awK57
theorem awc59:P0 115 ([.agg [.i 1,.i 0]]) (.i 0):=Jt awK58 (by kernel_rfl)
def awM59:List Mem:=⟨115,[.agg [.i 1,.i 0]],.i 0⟩::awM58
theorem awK59:KnownM Tryz.prog G0 awM59:=KnownM.cons awc59 awK58
theorem awc60:P0 115 ([.agg [.i 3,.i 1]]) (.i 0):=Jt awK59 (by kernel_rfl)
def awM60:List Mem:=⟨115,[.agg [.i 3,.i 1]],.i 0⟩::awM59
theorem awK60:KnownM Tryz.prog G0 awM60:=KnownM.cons awc60 awK59
theorem awc61:P0 116 ([.agg [.i 1,.i 0],.agg [.i 3,.i 1]]) (.i 0):=Jt awK60 (by kernel_rfl)
def awM61:List Mem:=⟨116,[.agg [.i 1,.i 0],.agg [.i 3,.i 1]],.i 0⟩::awM60
theorem awK61:KnownM Tryz.prog G0 awM61:=KnownM.cons awc61 awK60
theorem awc62:P0 41 ([.agg [.i 1,.i 0],.agg [.i 3,.i 1]]) (.tup [.i 0,.i 0]):=Jt awK61 (by kernel_rfl)
def awM62:List Mem:=⟨41,[.agg [.i 1,.i 0],.agg [.i 3,.i 1]],.tup [.i 0,.i 0]⟩::awM61
theorem awK62:KnownM Tryz.prog G0 awM62:=KnownM.cons awc62 awK61
theorem awc63:P0 115 ([.agg [.i 2,.i 2]]) (.i 0):=Jt awK62 (by kernel_rfl)
def awM63:List Mem:=⟨115,[.agg [.i 2,.i 2]],.i 0⟩::awM62
theorem awK63:KnownM Tryz.prog G0 awM63:=KnownM.cons awc63 awK62
theorem awc64:P0 116 ([.agg [.i 1,.i 0],.agg [.i 2,.i 2]]) (.i 1):=Jt awK63 (by kernel_rfl)
def awM64:List Mem:=⟨116,[.agg [.i 1,.i 0],.agg [.i 2,.i 2]],.i 1⟩::awM63
theorem awK64:KnownM Tryz.prog G0 awM64:=KnownM.cons awc64 awK63
theorem awc65:P0 41 ([.agg [.i 1,.i 0],.agg [.i 2,.i 2]]) (.tup [.i 1,.i 0]):=Jt awK64 (by kernel_rfl)
def awM65:List Mem:=⟨41,[.agg [.i 1,.i 0],.agg [.i 2,.i 2]],.tup [.i 1,.i 0]⟩::awM64
theorem awK65:KnownM Tryz.prog G0 awM65:=KnownM.cons awc65 awK64
theorem awc66:P0 115 ([.agg [.i 0,.i 5]]) (.i 0):=Jt awK65 (by kernel_rfl)
def awM66:List Mem:=⟨115,[.agg [.i 0,.i 5]],.i 0⟩::awM65
theorem awK66:KnownM Tryz.prog G0 awM66:=KnownM.cons awc66 awK65
theorem awc67:P0 116 ([.agg [.i 1,.i 0],.agg [.i 0,.i 5]]) (.i 2):=Jt awK66 (by kernel_rfl)
def awM67:List Mem:=⟨116,[.agg [.i 1,.i 0],.agg [.i 0,.i 5]],.i 2⟩::awM66
theorem awK67:KnownM Tryz.prog G0 awM67:=KnownM.cons awc67 awK66
theorem awc68:P0 41 ([.agg [.i 1,.i 0],.agg [.i 0,.i 5]]) (.tup [.i 2,.i 0]):=Jt awK67 (by kernel_rfl)
def awM68:List Mem:=⟨41,[.agg [.i 1,.i 0],.agg [.i 0,.i 5]],.tup [.i 2,.i 0]⟩::awM67
theorem awK68:KnownM Tryz.prog G0 awM68:=KnownM.cons awc68 awK67
theorem awc69:P0 115 ([.agg [.i (-2),.i 2]]) (.i 0):=Jt awK68 (by kernel_rfl)
def awM69:List Mem:=⟨115,[.agg [.i (-2),.i 2]],.i 0⟩::awM68
theorem awK69:KnownM Tryz.prog G0 awM69:=KnownM.cons awc69 awK68
theorem awc70:P0 116 ([.agg [.i 1,.i 0],.agg [.i (-2),.i 2]]) (.i 3):=Jt awK69 (by kernel_rfl)
def awM70:List Mem:=⟨116,[.agg [.i 1,.i 0],.agg [.i (-2),.i 2]],.i 3⟩::awM69
theorem awK70:KnownM Tryz.prog G0 awM70:=KnownM.cons awc70 awK69
theorem awc71:P0 41 ([.agg [.i 1,.i 0],.agg [.i (-2),.i 2]]) (.tup [.i 3,.i 0]):=Jt awK70 (by kernel_rfl)
def awM71:List Mem:=⟨41,[.agg [.i 1,.i 0],.agg [.i (-2),.i 2]],.tup [.i 3,.i 0]⟩::awM70
theorem awK71:KnownM Tryz.prog G0 awM71:=KnownM.cons awc71 awK70
theorem awc72:P0 115 ([.agg [.i (-3),.i 0]]) (.i 0):=Jt awK71 (by kernel_rfl)
def awM72:List Mem:=⟨115,[.agg [.i (-3),.i 0]],.i 0⟩::awM71
theorem awK72:KnownM Tryz.prog G0 awM72:=KnownM.cons awc72 awK71
theorem awc73:P0 116 ([.agg [.i 1,.i 0],.agg [.i (-3),.i 0]]) (.i 4):=Jt awK72 (by kernel_rfl)
def awM73:List Mem:=⟨116,[.agg [.i 1,.i 0],.agg [.i (-3),.i 0]],.i 4⟩::awM72
theorem awK73:KnownM Tryz.prog G0 awM73:=KnownM.cons awc73 awK72
theorem awc74:P0 41 ([.agg [.i 1,.i 0],.agg [.i (-3),.i 0]]) (.tup [.i 4,.i 0]):=Jt awK73 (by kernel_rfl)
def awM74:List Mem:=⟨41,[.agg [.i 1,.i 0],.agg [.i (-3),.i 0]],.tup [.i 4,.i 0]⟩::awM73
theorem awK74:KnownM Tryz.prog G0 awM74:=KnownM.cons awc74 awK73
theorem awc75:P0 115 ([.agg [.i (-1),.i (-1)]]) (.i 0):=Jt awK74 (by kernel_rfl)
def awM75:List Mem:=⟨115,[.agg [.i (-1),.i (-1)]],.i 0⟩::awM74
theorem awK75:KnownM Tryz.prog G0 awM75:=KnownM.cons awc75 awK74
theorem awc76:P0 116 ([.agg [.i 1,.i 0],.agg [.i (-1),.i (-1)]]) (.i 5):=Jt awK75 (by kernel_rfl)
def awM76:List Mem:=⟨116,[.agg [.i 1,.i 0],.agg [.i (-1),.i (-1)]],.i 5⟩::awM75
theorem awK76:KnownM Tryz.prog G0 awM76:=KnownM.cons awc76 awK75
theorem awc77:P0 41 ([.agg [.i 1,.i 0],.agg [.i (-1),.i (-1)]]) (.tup [.i 5,.i 0]):=Jt awK76 (by kernel_rfl)
def awM77:List Mem:=⟨41,[.agg [.i 1,.i 0],.agg [.i (-1),.i (-1)]],.tup [.i 5,.i 0]⟩::awM76
theorem awK77:KnownM Tryz.prog G0 awM77:=KnownM.cons awc77 awK76
theorem awc78:P0 115 ([.agg [.i 0,.i (-4)]]) (.i 0):=Jt awK77 (by kernel_rfl)
def awM78:List Mem:=⟨115,[.agg [.i 0,.i (-4)]],.i 0⟩::awM77
theorem awK78:KnownM Tryz.prog G0 awM78:=KnownM.cons awc78 awK77
theorem awc79:P0 116 ([.agg [.i 1,.i 0],.agg [.i 0,.i (-4)]]) (.i 6):=Jt awK78 (by kernel_rfl)
def awM79:List Mem:=⟨116,[.agg [.i 1,.i 0],.agg [.i 0,.i (-4)]],.i 6⟩::awM78
theorem awK79:KnownM Tryz.prog G0 awM79:=KnownM.cons awc79 awK78
theorem awc80:P0 41 ([.agg [.i 1,.i 0],.agg [.i 0,.i (-4)]]) (.tup [.i 6,.i 0]):=Jt awK79 (by kernel_rfl)
def awM80:List Mem:=⟨41,[.agg [.i 1,.i 0],.agg [.i 0,.i (-4)]],.tup [.i 6,.i 0]⟩::awM79
theorem awK80:KnownM Tryz.prog G0 awM80:=KnownM.cons awc80 awK79
theorem awc81:P0 115 ([.agg [.i 2,.i (-2)]]) (.i 0):=Jt awK80 (by kernel_rfl)
def awM81:List Mem:=⟨115,[.agg [.i 2,.i (-2)]],.i 0⟩::awM80
theorem awK81:KnownM Tryz.prog G0 awM81:=KnownM.cons awc81 awK80
theorem awc82:P0 116 ([.agg [.i 1,.i 0],.agg [.i 2,.i (-2)]]) (.i 7):=Jt awK81 (by kernel_rfl)
def awM82:List Mem:=⟨116,[.agg [.i 1,.i 0],.agg [.i 2,.i (-2)]],.i 7⟩::awM81
theorem awK82:KnownM Tryz.prog G0 awM82:=KnownM.cons awc82 awK81
theorem awc83:P0 41 ([.agg [.i 1,.i 0],.agg [.i 2,.i (-2)]]) (.tup [.i 7,.i 0]):=Jt awK82 (by kernel_rfl)
def awM83:List Mem:=⟨41,[.agg [.i 1,.i 0],.agg [.i 2,.i (-2)]],.tup [.i 7,.i 0]⟩::awM82
theorem awK83:KnownM Tryz.prog G0 awM83:=KnownM.cons awc83 awK82
theorem awc84:P0 88 ([.sl 2 [[.i 0,.i 0],[.i 10,.i 0],[.i 10,.i 5]]]) (.i 0):=Jt awK83 (by kernel_rfl)
def awM84:List Mem:=⟨88,[.sl 2 [[.i 0,.i 0],[.i 10,.i 0],[.i 10,.i 5]]],.i 0⟩::awM83
theorem awK84:KnownM Tryz.prog G0 awM84:=KnownM.cons awc84 awK83
theorem awc85:P0 22 ([.sl 3 [[.i 0,.i 0,.i 100],[.i 10,.i 50,.i 80]]]) (.i 0):=Jt awK84 (by kernel_rfl)
def awM85:List Mem:=⟨22,[.sl 3 [[.i 0,.i 0,.i 100],[.i 10,.i 50,.i 80]]],.i 0⟩::awM84
theorem awK85:KnownM Tryz.prog G0 awM85:=KnownM.cons awc85 awK84
theorem awc86:P0 90 ([.sl 3 [[.i 0,.i 0,.i 100],[.i 10,.i 50,.i 80]],.i 0]) (.agg [.i 0,.i 0,.i 100]):=Jt awK85 (by kernel_rfl)
def awM86:List Mem:=⟨90,[.sl 3 [[.i 0,.i 0,.i 100],[.i 10,.i 50,.i 80]],.i 0],.agg [.i 0,.i 0,.i 100]⟩::awM85
theorem awK86:KnownM Tryz.prog G0 awM86:=KnownM.cons awc86 awK85
theorem awc87:P0 90 ([.sl 3 [[.i 0,.i 0,.i 100],[.i 10,.i 50,.i 80]],.i 10]) (.agg [.i 10,.i 50,.i 80]):=Jt awK86 (by kernel_rfl)
def awM87:List Mem:=⟨90,[.sl 3 [[.i 0,.i 0,.i 100],[.i 10,.i 50,.i 80]],.i 10],.agg [.i 10,.i 50,.i 80]⟩::awM86
theorem awK87:KnownM Tryz.prog G0 awM87:=KnownM.cons awc87 awK86
theorem awc88:P0 90 ([.sl 3 [[.i 0,.i 0,.i 100],[.i 10,.i 50,.i 80]],.i 15]) (.agg [.i 10,.i 50,.i 80]):=Jt awK87 (by kernel_rfl)
def awM88:List Mem:=⟨90,[.sl 3 [[.i 0,.i 0,.i 100],[.i 10,.i 50,.i 80]],.i 15],.agg [.i 10,.i 50,.i 80]⟩::awM87
theorem awK88:KnownM Tryz.prog G0 awM88:=KnownM.cons awc88 awK87
theorem awc89:P0 134 ([.agg [.i 100,.i 0,.i 0,.i 0,.i 100]]) (.i 0):=Jt awK88 (by kernel_rfl)
def awM89:List Mem:=⟨134,[.agg [.i 100,.i 0,.i 0,.i 0,.i 100]],.i 0⟩::awM88
theorem awK89:KnownM Tryz.prog G0 awM89:=KnownM.cons awc89 awK88
theorem awc90:P0 104 ([.agg [.i 10,.i 0,.i 50]]) (.i 0):=Jt awK89 (by kernel_rfl)
def awM90:List Mem:=⟨104,[.agg [.i 10,.i 0,.i 50]],.i 0⟩::awM89
theorem awK90:KnownM Tryz.prog G0 awM90:=KnownM.cons awc90 awK89
theorem awc91:P0 134 ([.agg [.i 103,.i 10,.i 0,.i 50,.i 80]]) (.i 0):=Jt awK90 (by kernel_rfl)
def awM91:List Mem:=⟨134,[.agg [.i 103,.i 10,.i 0,.i 50,.i 80]],.i 0⟩::awM90
theorem awK91:KnownM Tryz.prog G0 awM91:=KnownM.cons awc91 awK90
theorem awc92:P0 104 ([.agg [.i 10,.i 5,.i 50]]) (.i 0):=Jt awK91 (by kernel_rfl)
def awM92:List Mem:=⟨104,[.agg [.i 10,.i 5,.i 50]],.i 0⟩::awM91
theorem awK92:KnownM Tryz.prog G0 awM92:=KnownM.cons awc92 awK91
theorem awc93:P0 134 ([.agg [.i 104,.i 10,.i 5,.i 50,.i 80]]) (.i 0):=Jt awK92 (by kernel_rfl)
def awM93:List Mem:=⟨134,[.agg [.i 104,.i 10,.i 5,.i 50,.i 80]],.i 0⟩::awM92
theorem awK93:KnownM Tryz.prog G0 awM93:=KnownM.cons awc93 awK92
theorem awc94:P0 76 ([.sl 5 awv5]) (.i 0):=Jt awK93 (by kernel_rfl)
def awM94:List Mem:=⟨76,[.sl 5 awv5],.i 0⟩::awM93
theorem awK94:KnownM Tryz.prog G0 awM94:=KnownM.cons awc94 awK93
theorem awc95:P0 14 ([.sl 2 [[.i 0,.i 0],[.i 10,.i 0],[.i 10,.i 5]],.sl 3 [[.i 0,.i 0,.i 100],[.i 10,.i 50,.i 80]],.i 4,.i 100]) (.tup [.sl 5 awv5,.i 0]):=Jt awK94 (by kernel_rfl)
def awM95:List Mem:=⟨14,[.sl 2 [[.i 0,.i 0],[.i 10,.i 0],[.i 10,.i 5]],.sl 3 [[.i 0,.i 0,.i 100],[.i 10,.i 50,.i 80]],.i 4,.i 100],.tup [.sl 5 awv5,.i 0]⟩::awM94
theorem awK95:KnownM Tryz.prog G0 awM95:=KnownM.cons awc95 awK94
theorem awc96:P0 122 ([.str [111,110,101]]) (.bool true):=Jt awK95 (by kernel_rfl)
def awM96:List Mem:=⟨122,[.str [111,110,101]],.bool true⟩::awM95
theorem awK96:KnownM Tryz.prog G0 awM96:=KnownM.cons awc96 awK95
theorem awc97:P0 122 ([.str [116,119,111]]) (.bool true):=Jt awK96 (by kernel_rfl)
def awM97:List Mem:=⟨122,[.str [116,119,111]],.bool true⟩::awM96
theorem awK97:KnownM Tryz.prog G0 awM97:=KnownM.cons awc97 awK96
theorem awc98:P0 70 ([.sl 13 JnI,.sl 3 Jr7]) (.i 0):=Jt awK97 (by kernel_rfl)
def awM98:List Mem:=⟨70,[.sl 13 JnI,.sl 3 Jr7],.i 0⟩::awM97
theorem awK98:KnownM Tryz.prog G0 awM98:=KnownM.cons awc98 awK97
theorem awc99:P0 100 ([.agg Ql,.sl 5 Wm,.agg [.i 5,.i 9],.agg [.i 4,.i 2,.i 0]]) (.i 2700):=Jt awK98 (by kernel_rfl)
def awM99:List Mem:=⟨100,[.agg Ql,.sl 5 Wm,.agg [.i 5,.i 9],.agg [.i 4,.i 2,.i 0]],.i 2700⟩::awM98
theorem awK99:KnownM Tryz.prog G0 awM99:=KnownM.cons awc99 awK98
theorem awc100:P0 155 ([.agg awv6,.elt 1 JnH 0 0,.elt 3 [[.i 4,.i 2,.i 0]] 0 0]) (.agg awv8):=Jt awK99 (by kernel_rfl)
def JpP:List Mem:=⟨155,[.agg awv6,.elt 1 JnH 0 0,.elt 3 [[.i 4,.i 2,.i 0]] 0 0],.agg awv8⟩::awM99
theorem Jp3:KnownM Tryz.prog G0 JpP:=KnownM.cons awc100 awK99
theorem awc101:P0 155 ([.agg awv7,.elt 1 JnH 0 0,.elt 3 [[.i 4,.i 2,.i 0]] 0 0]) (.agg awv9):=Jt Jp3 (by kernel_rfl)
def JpO:List Mem:=⟨155,[.agg awv7,.elt 1 JnH 0 0,.elt 3 [[.i 4,.i 2,.i 0]] 0 0],.agg awv9⟩::JpP
theorem Jp2:KnownM Tryz.prog G0 JpO:=KnownM.cons awc101 Jp3
theorem awc102:P0 127 (Jie) (.tup [.sl 4 JnD,.i 0]):=Jt Jp2 (by kernel_rfl)
def JpN:List Mem:=⟨127,Jie,.tup [.sl 4 JnD,.i 0]⟩::JpO
theorem Jp1:KnownM Tryz.prog G0 JpN:=KnownM.cons awc102 Jp2
theorem awc103:P0 128 ([.sl 4 JnD]) (.sl 1 [[.i 2700],[.i 2700]]):=Jt Jp1 (by kernel_rfl)
def JpM:List Mem:=⟨128,[.sl 4 JnD],.sl 1 [[.i 2700],[.i 2700]]⟩::JpN
theorem Jp0:KnownM Tryz.prog G0 JpM:=KnownM.cons awc103 Jp1
theorem awc104:P0 61 (Jie) (.tup [.i 5400,.i 0]):=Jt Jp0 (by kernel_rfl)
def JpL:List Mem:=⟨61,Jie,.tup [.i 5400,.i 0]⟩::JpM
theorem JpZ:KnownM Tryz.prog G0 JpL:=KnownM.cons awc104 Jp0
theorem awc105:P0 130 ([.agg awv9,.agg awv8]) (.i 0):=Jt JpZ (by kernel_rfl)
def JpK:List Mem:=⟨130,[.agg awv9,.agg awv8],.i 0⟩::JpL
theorem JpY:KnownM Tryz.prog G0 JpK:=KnownM.cons awc105 JpZ
theorem awc106:P0 65 (Jie) (.tup [.str [111,110,101],.i 0]):=Jt JpY (by kernel_rfl)
def JpJ:List Mem:=⟨65,Jie,.tup [.str [111,110,101],.i 0]⟩::JpK
theorem JpX:KnownM Tryz.prog G0 JpJ:=KnownM.cons awc106 JpY
theorem awc107:P0 135 ([.str [116,121,112,101,32,106,101,116],.sl 1 [[.i 500]]]) (.str [116,121,112,101,32,106,101,116,32,53,48,48,10]):=Jt JpX (by kernel_rfl)
def JpI:List Mem:=⟨135,[.str [116,121,112,101,32,106,101,116],.sl 1 [[.i 500]]],.str [116,121,112,101,32,106,101,116,32,53,48,48,10]⟩::JpJ
theorem JpW:KnownM Tryz.prog G0 JpI:=KnownM.cons awc107 JpX
theorem awc108:P0 135 ([.str [115,104,97,114,101,115],.sl 1 [[.i 600],[.i 400]]]) (.str [115,104,97,114,101,115,32,54,48,48,32,52,48,48,10]):=Jt JpW (by kernel_rfl)
def JpH:List Mem:=⟨135,[.str [115,104,97,114,101,115],.sl 1 [[.i 600],[.i 400]]],.str [115,104,97,114,101,115,32,54,48,48,32,52,48,48,10]⟩::JpI
theorem JpV:KnownM Tryz.prog G0 JpH:=KnownM.cons awc108 JpW
theorem awc109:P0 135 ([.str [100,105,114,101,99,116],.sl 1 awv3]) (.str [100,105,114,101,99,116,32,49,48,48,48,32,49,48,48,48,32,49,48,48,48,32,49,48,48,48,32,53,48,48,32,53,48,48,32,53,48,48,32,53,48,48,10]):=Jt JpV (by kernel_rfl)
def JpG:List Mem:=⟨135,[.str [100,105,114,101,99,116],.sl 1 awv3],.str [100,105,114,101,99,116,32,49,48,48,48,32,49,48,48,48,32,49,48,48,48,32,49,48,48,48,32,53,48,48,32,53,48,48,32,53,48,48,32,53,48,48,10]⟩::JpH
theorem JpU:KnownM Tryz.prog G0 JpG:=KnownM.cons awc109 JpV
theorem awc110:P0 135 ([.str [115,113,117,97,114,101,115],.sl 1 [[.i 0],[.i 100]]]) (.str [115,113,117,97,114,101,115,32,48,32,49,48,48,10]):=Jt JpU (by kernel_rfl)
def JpF:List Mem:=⟨135,[.str [115,113,117,97,114,101,115],.sl 1 [[.i 0],[.i 100]]],.str [115,113,117,97,114,101,115,32,48,32,49,48,48,10]⟩::JpG
theorem JpT:KnownM Tryz.prog G0 JpF:=KnownM.cons awc110 JpU
theorem awc111:P0 135 ([.str [112,111,119,101,114],.sl 1 [[.i 10],[.i 1000],[.i 400]]]) (.str [112,111,119,101,114,32,49,48,32,49,48,48,48,32,52,48,48,10]):=Jt JpT (by kernel_rfl)
def JpE:List Mem:=⟨135,[.str [112,111,119,101,114],.sl 1 [[.i 10],[.i 1000],[.i 400]]],.str [112,111,119,101,114,32,49,48,32,49,48,48,48,32,52,48,48,10]⟩::JpF
theorem JpS:KnownM Tryz.prog G0 JpE:=KnownM.cons awc111 JpT
theorem awc112:P0 135 ([.str [112,111,119,101,114],.sl 1 [[.i 20],[.i 2000],[.i 600]]]) (.str [112,111,119,101,114,32,50,48,32,50,48,48,48,32,54,48,48,10]):=Jt JpS (by kernel_rfl)
def JpD:List Mem:=⟨135,[.str [112,111,119,101,114],.sl 1 [[.i 20],[.i 2000],[.i 600]]],.str [112,111,119,101,114,32,50,48,32,50,48,48,48,32,54,48,48,10]⟩::JpE
theorem JpR:KnownM Tryz.prog G0 JpD:=KnownM.cons awc112 JpS
theorem awc113:P0 77 (Jig) (.tup [.str [116,121,112,101,32,106,101,116,32,53,48,48,10,115,104,97,114,101,115,32,54,48,48,32,52,48,48,10,100,105,114,101,99,116,32,49,48,48,48,32,49,48,48,48,32,49,48,48,48,32,49,48,48,48,32,53,48,48,32,53,48,48,32,53,48,48,32,53,48,48,10,115,113,117,97,114,101,115,32,48,32,49,48,48,10,112,111,119,101,114,32,49,48,32,49,48,48,48,32,52,48,48,10,112,111,119,101,114,32,50,48,32,50,48,48,48,32,54,48,48,10],.i 0]):=Jt JpR (by kernel_rfl)
def JpC:List Mem:=⟨77,Jig,.tup [.str [116,121,112,101,32,106,101,116,32,53,48,48,10,115,104,97,114,101,115,32,54,48,48,32,52,48,48,10,100,105,114,101,99,116,32,49,48,48,48,32,49,48,48,48,32,49,48,48,48,32,49,48,48,48,32,53,48,48,32,53,48,48,32,53,48,48,32,53,48,48,10,115,113,117,97,114,101,115,32,48,32,49,48,48,10,112,111,119,101,114,32,49,48,32,49,48,48,48,32,52,48,48,10,112,111,119,101,114,32,50,48,32,50,48,48,48,32,54,48,48,10],.i 0]⟩::JpD
theorem JpQ:KnownM Tryz.prog G0 JpC:=KnownM.cons awc113 JpR
theorem awc114:P0 56 ([.sl 5 Wm,.i 9]) (.tup [.agg [.i 0,.i 0,.i 0,.i 0,.i 0,.i 0],.i 7]):=Jt JpQ (by kernel_rfl)
def awM114:List Mem:=⟨56,[.sl 5 Wm,.i 9],.tup [.agg [.i 0,.i 0,.i 0,.i 0,.i 0,.i 0],.i 7]⟩::JpC
theorem awK114:KnownM Tryz.prog G0 awM114:=KnownM.cons awc114 JpQ
theorem awc115:P0 13 ([]) (.bool true):=Jt awK114 (by kernel_rfl)
end Go.Proofs.YtjhjmncjidbieaaGreatDoor
namespace Go.Proofs.YtjhjmncjidbieaaGreatDoor
open Go Go.Av Go.RowKit Go.ChangeShapes Go.WideShapes
theorem hA:P0 13 [] (.bool true):=awc115
theorem JrD:laidOutB Tryz.prog=true:=by kernel_rfl
theorem own:ownKnob Tryz.prog.godebug=none:=by kernel_rfl
def Jbk:List (String × DataW Unit):=Rows.sourceStringsRow.laid
noncomputable def wS (os : Os) : World := (World.doorLaid Tryz.prog 400 os).layVars Tryz.prog [("unicode/utf8.first", Rows.laid_unicode_utf8_first)]
theorem wS_os(os:Os):(wS os).os=os:=World.layVars_os _ _ _
theorem Jnt(os:Os)(args:Array Value):laidMetH Tryz.prog Jbk ((wS os).forCall (fun _ _=>0) ⟨#[],args,[]⟩).memory :=
 laidMetH_of_parts3 (fuel:=8) (laidMet_of_run' 8 (by kernel_rfl) (by kernel_rfl)) (by kernel_rfl) (by kernel_rfl)
theorem JmR{a b:String}(h:a.toUTF8.data.toList=b.toUTF8.data.toList):a=b:=by
 apply String.toByteArray_inj.1
 apply ByteArray.ext
 exact Array.toList_inj.1 h
section
variable {H : Type} {enc : TypeId × Value → H} {P : Program} {w : World} {base : Nat} {sp : Nat → Bool} {fuel t : Nat} {cs : List Value} {x : DataW H × List MemPlace}
theorem Ji6{ps rs:Array TypeId}{va:Bool}(ht:P.underlying t=some (.func ps rs va))(h:DataW.trod enc P w base sp true fuel t cs=some x) :
 (∃ fn first cap,cs=[.func fn first cap]/\x.1=.held (enc (t,.func fn first cap))) ∨ x.1=.nil:=by
 cases fuel with
 | zero=>simp[DataW.trod]at h
 | succ m =>
  unfold DataW.trod at h
  rw[ht]at h
  split at h
  all_goals first
   | (simp_all;done)
   | (rename_i fn first cap _ _
      rw[if_pos rfl]at h
      cases h
      exact .inl ⟨_,_,_,rfl,rfl⟩)
   | (cases h;exact .inr rfl)
end
theorem JkV{w:World}{fuel:Nat}{cs:List Value}{x:DataW (List UInt8) × List MemPlace}{tk:List UInt8}{N:String}{f:Nat}
 (h:DataW.trod (funcToken Tryz.prog) Tryz.prog w 0 (fun _=>true) true fuel 232 cs=some x)(hx:x.1=.agg [.held tk])(hN:N.toUTF8.data.toList=tk)(h0:tk ≠ [])(hf:Tryz.prog.funcNamed N=some f):cs=[.func (.func f) #[] #[]]:=by
 obtain⟨fs,hu,hs⟩:∃ fs:Array Field,Tryz.prog.underlying 232=some (.struct fs)/\fs.toList.map (fun f=>(f.offset,f.type))=[(0,230)]:=by
  have e:(match Tryz.prog.underlying 232 with
   | some (.struct fs)=>fs.toList.map fun f=>(f.offset,f.type)
   | _=>[])=[(0,230)]:=by kernel_rfl
  split at e
  . rename_i fs h
    exact⟨fs,h,e⟩
  cases e
 have hsz:fs.size=1:=by simpa using congrArg List.length hs
 obtain⟨fd,hfd,ho,hty⟩:∃ fd:Field,fs[0]?=some fd/\fd.offset=0/\fd.type=230:=by
  have h0:=congrArg (fun l=>l[0]?) hs
  rw[Kk]at h0
  obtain⟨fd,h1,h2⟩:=Option.map_eq_some_iff.1 h0
  exact⟨fd,by simpa using h1,congrArg Prod.fst h2,congrArg Prod.snd h2⟩
 obtain⟨xs,m,_,rfl,hl,hxl,hel⟩:=DataW.trod_struct hu h
 have e1:Tryz.prog.cellsOf 232=1:=by kernel_rfl
 have e2:Tryz.prog.cellsOf 230=1:=by kernel_rfl
 have h1:=hel 0 fd hfd
 rw[ho,hty,e2,List.drop_zero,Kv (by omega),Kj (by omega)]at h1
 have hx:DataW.agg (xs.map (·.1))=.agg [.held tk]:=hx
 have hx2:=(DataW.agg.inj hx)
 have h3:xs[0].1=.held tk:=by
  have:=congrArg (fun l=>l[0]?) hx2
  simpa[List.getElem?_eq_getElem (show 0 < xs.length by omega)]using this
 obtain⟨ps,rs,va,hu2⟩:∃ ps rs va,Tryz.prog.underlying 230=some (.func ps rs va):=⟨#[234,225],#[],false,by kernel_rfl⟩
 rcases Ji6 hu2 h1 with⟨fn,first,cap,rfl,h4⟩ | h4
 . rw[h4]at h3
   have h5:=DataW.held.inj h3
   obtain⟨b,r,hbr⟩:∃ b r,tk=b::r:=by
    cases tk with
    | nil=>exact absurd rfl h0
    | cons b r=>exact⟨b,r,rfl⟩
   obtain⟨g,gn,hv,hg,hgn,hgb⟩:=funcToken_tells (h5.trans hbr)
   have h6:gn.name=N:=JmR (hgb.trans (hbr.symm.trans hN.symm))
   rw[h6,hf]at hgn
   rw[hv,Option.some.inj hgn]
 . rw[h4]at h3
   cases h3
theorem Jh5{W:World}(h:laidMetH Tryz.prog Jbk W):GlobOK NoX W 2 [.fn (.func 226) [] [],.fn (.func 227) [] [],.fn (.func 229) [] [],.fn (.func 230) [] [],.fn (.func 231) [] []]:=by
 obtain ⟨d, hd⟩ : ∃ d : DataW Unit, Rows.laid_flyover_source_forms = .iface "func table" d := ⟨_, rfl⟩
 have hf := laidMetH.funcs h (n := "flyover/source.forms") (d := d) (by rw [← hd]; simp [Jbk, Rows.sourceStringsRow])
 obtain⟨g,t,cs,fuel,p,hg,ht,hv,htr⟩:=hf
 obtain rfl:g=2:=Option.some.inj (hg.symm.trans (by kernel_rfl))
 obtain rfl:t=233:=Option.some.inj (ht.symm.trans (by kernel_rfl))
 have hu:Tryz.prog.underlying 233=some (.array 5 232):=by kernel_rfl
 obtain⟨xs,m,_,hx,hl,hxl,hel⟩:=DataW.trod_array hu htr
 have e1:Tryz.prog.cellsOf 233=5:=by kernel_rfl
 have e2:Tryz.prog.cellsOf 232=1:=by kernel_rfl
 rw[e1]at hl
 rw[e2]at hel
 have hd2 : d.funcsOut = .agg [.agg [.held "flyover/source.forms$1".toUTF8.data.toList], .agg [.held "flyover/source.forms$2".toUTF8.data.toList], .agg [.held "flyover/source.forms$3".toUTF8.data.toList], .agg [.held "flyover/source.forms$4".toUTF8.data.toList], .agg [.held "flyover/source.forms$5".toUTF8.data.toList]] := by
  obtain rfl:=(DataW.iface.inj hd).2
  kernel_rfl
 have hx1:=congrArg Prod.fst hx
 rw[show(d.funcsOut,p).1=d.funcsOut from rfl,hd2]at hx1
 have hx2:=DataW.agg.inj hx1
 have key:∀ i,i < 5->∀ (N:String) (f:Nat),xs[i]?.map (·.1)=some (.agg [.held N.toUTF8.data.toList])->N.toUTF8.data.toList ≠ []->Tryz.prog.funcNamed N=some f->cs.toList[i]?=some (.func (.func f) #[] #[]):=fun i hi N f hxi h0 hf=>by
  have h1:=hel i hi
  rw[Kj (by omega)]at h1 hxi
  have h2:=JkV h1 (Option.some.inj hxi) rfl h0 hf
  have h3:=congrArg (fun l=>l[0]?) h2
  simpa using h3
 have hxi:∀ i:Nat,xs[i]?.map (·.1)=(xs.map (·.1))[i]?:=fun i=>by simp
 have c0 := key 0 (by decide) "flyover/source.forms$1" 226 (by rw [hxi, ← hx2]; rfl) (by decide +kernel) (by kernel_rfl)
 have c1 := key 1 (by decide) "flyover/source.forms$2" 227 (by rw [hxi, ← hx2]; rfl) (by decide +kernel) (by kernel_rfl)
 have c2 := key 2 (by decide) "flyover/source.forms$3" 229 (by rw [hxi, ← hx2]; rfl) (by decide +kernel) (by kernel_rfl)
 have c3 := key 3 (by decide) "flyover/source.forms$4" 230 (by rw [hxi, ← hx2]; rfl) (by decide +kernel) (by kernel_rfl)
 have c4 := key 4 (by decide) "flyover/source.forms$5" 231 (by rw [hxi, ← hx2]; rfl) (by decide +kernel) (by kernel_rfl)
 unfold World.var? at hv
 rw[hg]at hv
 simp only[Option.bind_some]at hv
 split at hv
 · rename_i cs' ty fr hb
   cases hv
   have hbs:2 < W.heap.size:=(Array.getElem?_eq_some_iff.1 hb).1
   have hcell:∀ j,j < 5->W.cell? ⟨2,j,none⟩=some (cs.getD j undef):=fun j hj=>by
    unfold World.cell?
    rw[hb]
    have:j < cs.size:=by simpa using(by omega:j < cs.toList.length)
    simp[Array.getD,this]
   have hcv:∀ (j f:Nat),cs.toList[j]?=some (.func (.func f) #[] #[])->cs.getD j undef=.func (.func f) #[] #[]:=fun j f hj=>by
    have h1:cs[j]?=some (.func (.func f) #[] #[]):=by simpa using hj
    rw[Kw,h1]
    rfl
   have hrep:∀ f:Nat,Rep NoX W (.func (.func f) #[] #[]) (.fn (.func f) [] []):=fun f=>by
    have:=Rep.fn (X:=NoX) (w:=W) (.func f) (fun _=>undef) (fun _=>undef) [] [] (fun i hi=>absurd hi (by simp)) (fun i hi=>absurd hi (by simp))
    simpa using this
   refine⟨?_,cs,ty,fr,hb,by simpa using hl⟩
   refine Rep.elt (X:=NoX) (w:=W) 2 0 5 [_] 0 0 (fun i j=>cs.getD j undef) hbs (fun h=>h) (by simp) (fun i hi=>?_) (fun i hi j hj=>?_) (fun i hi j hj=>?_) (fun i hi j hj=>?_)
   · have:i=0:=by simp at hi;exact hi
     subst this
     rfl
   · have:i=0:=by simp at hi;exact hi
     subst this
     simpa using hcell j hj
   · have:i=0:=by simp at hi;exact hi
     subst this
     match j,hj with
     | 0,_=>show Rep NoX W (cs.getD 0 undef) _;rw[hcv 0 226 c0];exact hrep 226
     | 1,_=>show Rep NoX W (cs.getD 1 undef) _;rw[hcv 1 227 c1];exact hrep 227
     | 2,_=>show Rep NoX W (cs.getD 2 undef) _;rw[hcv 2 229 c2];exact hrep 229
     | 3,_=>show Rep NoX W (cs.getD 3 undef) _;rw[hcv 3 230 c3];exact hrep 230
     | 4,_=>show Rep NoX W (cs.getD 4 undef) _;rw[hcv 4 231 c4];exact hrep 231
   match j,hj with
   | 0,_=>show(cs.getD 0 undef).oneCell'=true;rw[hcv 0 226 c0];rfl
   | 1,_=>show(cs.getD 1 undef).oneCell'=true;rw[hcv 1 227 c1];rfl
   | 2,_=>show(cs.getD 2 undef).oneCell'=true;rw[hcv 2 229 c2];rfl
   | 3,_=>show(cs.getD 3 undef).oneCell'=true;rw[hcv 3 230 c3];rfl
   | 4,_=>show(cs.getD 4 undef).oneCell'=true;rw[hcv 4 231 c4];rfl
 cases hv
theorem Jfd{P:Program}{l:List (String × DataW Unit)}{w:World}(h:laidMetH P l w):laidMet P (l.filter fun x=>x.2.handleName?.isNone) w:=by
 unfold laidMetH at h
 split at h
 . rename_i hfl
   have e:(l.filter fun x=>x.2.handleName?.isNone)=l:=by
    rw[List.filter_eq_self]
    intro x hx
    have:=(List.filter_eq_nil_iff.1 hfl) x hx
    cases hn:x.2.handleName? with
    | none=>rfl
    | some s=>rw[hn]at this;exact absurd rfl this
   rw[e]
   exact h
 exact h.1
theorem globs{W:World}(h:laidMetH Tryz.prog Jbk W):∀ g cells,lk g G0=some cells->GlobOK NoX W g cells:=by
 have m2:=Jh5 h
 have h:=Jfd h
 obtain⟨ps,hl,_⟩:=h
 have m0 := UH (T := T0) tok (n := 8) (name := "flyover/flyoverlaw02.turned") (d := Rows.laid_flyover_flyoverlaw02_turned) (g := 0) (t := 165) (cells := Jn (G0.map (·.2)) 0) (by kernel_rfl) (by kernel_rfl) (by kernel_rfl) (by kernel_rfl) (by kernel_rfl) (by simp [Jn, G0]) (ps := ps) (by simp [Jbk, Rows.sourceStringsRow, DataW.handleName?, Rows.laid_flyover_flyoverlaw02_turned]) hl
 have m1 := UH (T := T0) tok (n := 8) (name := "flyover/source.words") (d := Rows.laid_flyover_source_words) (g := 1) (t := 219) (cells := Jn (G0.map (·.2)) 1) (by kernel_rfl) (by kernel_rfl) (by kernel_rfl) (by kernel_rfl) (by kernel_rfl) (by simp [Jn, G0]) (ps := ps) (by simp [Jbk, Rows.sourceStringsRow, DataW.handleName?, Rows.laid_flyover_source_words]) hl
 have m4 := UH (T := T0) tok (n := 8) (name := "internal/strconv.uint64pow10") (d := Rows.laid_internal_strconv_uint64pow10) (g := 4) (t := 285) (cells := Jn (G0.map (·.2)) 2) (by kernel_rfl) (by kernel_rfl) (by kernel_rfl) (by kernel_rfl) (by kernel_rfl) (by simp [Jn, G0]) (ps := ps) (by simp [Jbk, Rows.sourceStringsRow, DataW.handleName?, Rows.laid_internal_strconv_uint64pow10]) hl
 intro g cells hg
 obtain⟨u,hu,e1⟩:=JaF hg
 subst e1
 simp only[G0,Kq,List.not_mem_nil,or_false,Prod.mk.injEq]at hu
 rcases hu with⟨rfl,rfl⟩ | ⟨rfl,rfl⟩ | ⟨rfl,rfl⟩ | ⟨rfl,rfl⟩
 · exact m0
 · exact m1
 · exact m4
 exact m2
theorem wf64{x:Int}(h:(Lit.int .i64 x).wf=true):Jg x:=by
 simp only[Lit.wf,Kd,Ko]at h
 exact h
theorem JkG{n:Nat}{r:List AV}(hn:QM T0 n 3=[.int .i64])(hp:J1 T0 n 3=true)(h:ASh T0 n 3 r):∃ x:Int,r=Jh x/\Jg x:=by
 have:=QH n 3 r hp h
 rw[hn]at this
 obtain⟨_,_,rfl,⟨x,rfl,hx⟩,rfl⟩:=this
 exact⟨x,rfl,wf64 hx⟩
theorem sg_of{n m:Nat}{r:List AV}(hn:QM T0 n 117=[.int .i64,.sl m 3 1])(hp:J1 T0 n 117=true)(hm:QM T0 m 3=[.int .i64])(hq:J1 T0 m 3=true)(h:ASh T0 n 117 r):∃ s:Sg,r=Ji s/\True:=by
 have:=QH n 117 r hp h
 rw[hn]at this
 obtain⟨_,_,rfl,⟨x,rfl,_⟩,_,_,rfl,⟨rows,rfl,_,hr⟩,rfl⟩:=this
 obtain⟨e,rfl,_⟩:=Xr (enc:=Jh) (Q:=Jg) (fun r hm'=>JkG hm hq (hr r hm'))
 exact⟨⟨x,e⟩,rfl,trivial⟩
theorem Jhy(os:Os)(args:Array Value):((wS os).forCall (fun _ _=>0) ⟨#[],args,[]⟩).Shaped Tryz.prog:=World.shaped_of_ZipB (by kernel_rfl) (by kernel_rfl)
end Go.Proofs.YtjhjmncjidbieaaGreatDoor
namespace Go.Proofs.YtjhjmncjidbieaaGreatDoor
open Go Go.Av Go.RowKit
theorem c32t{t:Ty}(h:ShortTy t):P0 32 [.agg (Jf t)] (.i (JbG t)):=c32 t (by have:=h.st;omega) (by have:=h.s;omega) (by have:=h.q;omega) (fun x hx=>by have:=h.e x hx;omega) (by have:=h.n;omega)
def rdF:List AV->Option AV:=fun _=>some (.bool false)
def cJ(rows:List (List AV))(i j:Nat):Int:=match nth (Jn rows i) j with
 | .int _ n=>n
 | _=>0
def rdC:List AV->Option AV
 | [.elt _ rows i j]=>some (.i (cJ rows i j))
 | _=>none
theorem c26(l:List Fx) :P0 26 [.sl 5 (l.map Ja)] (.bool (decide (l.length<=17))):=by
 have key :
  AV.bool (decide (((List.map Ja l).length:Int)<=17))=AV.bool (decide (l.length<=17)):=by
   rw[Kb]
   exact congrArg AV.bool (decide_eq_decide.2 (by omega))
 exact JU Tryz.f26 (mkB spR 26 [] QJ) key (by kernel_rfl)
def la29(l:List Fx):LA:={
 pre:=[.own 3 83 5,.reno 3 1,.keep [0,3,6,7,8] [1],.bound 2],post:=[.reno 3 1,.keep [0,3,6,7,8] [1],.bound 2]
 Gh:=Nat
 st:=fun i=>⟨[(0,.sl 5 (l.map Ja)),(3,.own 1 ((l.take i).map Ja).length),(6,.sl 5 (l.map Ja)),(7,.i (l.map Ja).length),(8,.i i)],[(1,.buf 83 5 ((l.take i).map Ja))],2⟩
 ok:=fun i=>i<=(l.map Ja).length
 ms:=fun i=>(l.map Ja).length-i }
abbrev Jug(l:List Fx)(g:Nat):=l.getD (g:Int).toNat default
abbrev Jeq(l:List Fx):=List.map Ja l
abbrev Jqv(l:List Fx):=((Jeq l).length:Int)
abbrev Js6(g:Nat)(l:List Fx):=List.map Ja (List.take g l)
abbrev Z28e(l:List Fx)(g:Nat):=[AV.i (Jug l g).t,AV.i (Jug l g).x,AV.i (Jug l g).y,AV.i (Jug l g).z,AV.i (Jug l g).p]
theorem c29(l:List Fx)(hl:l.length<=1000):P0 29 [.sl 5 (l.map Ja)] (.fresh 83 5 (l.map Ja)):=by
 have key :
  (∃ (g:Nat),g<=(Jeq l).length/\AS.mk [(0,AV.sl 5 (Jeq l)),(3,AV.own 1 0),(6,AV.sl 5 (Jeq l)),(7,AV.i (Jqv l)),(8,AV.i 0)] [(1,ABlk.buf 83 5 [])] 2=AS.mk [(0,AV.sl 5 (Jeq l)),(3,AV.own 1 (Js6 g l).length),
  (6,AV.sl 5 (Jeq l)),(7,AV.i (Jqv l)),(8,AV.i (g:Int))] [(1,ABlk.buf 83 5 (Js6 g l))] 2)/\∀ (g:Nat),g<=(Jeq l).length->(decide ((g:Int) < (Jqv l))=true->(0:Int)<=(g:Int)/\(g:Int) < (Jqv l) /\
  AV.agg (Jn (Jeq l) (g:Int).toNat)=AV.agg (Z28e l g)/\(Js6 g l).length+1<=9223372036854775807/\((Js6 g l).length+1) * 40<=140737488355328/\Jg ((g:Int)+1)/\∃ (g':Nat),g'<=(Jeq l).length/\(Jeq
  l).length-g' < (Jeq l).length-g/\AS.mk [(0,AV.sl 5 (Jeq l)),(3,AV.own 1 ((Js6 g l).length+1)),(6,AV.sl 5 (Jeq l)),(7,AV.i (Jqv l)),(8,AV.i ((g:Int)+1))] [(1,ABlk.buf 83 5 (List.map Ja (List.take g l)
  ++ [(Z28e l g)]))] 2=AS.mk [(0,AV.sl 5 (Jeq l)),(3,AV.own 1 (List.map Ja (List.take g' l)).length),(6,AV.sl 5 (Jeq l)),(7,AV.i (Jqv l)),(8,AV.i (g':Int))] [(1,ABlk.buf 83 5 (List.map Ja (List.take g' l)))]
  2)/\(decide ((g:Int) < (Jqv l))=false->AV.fresh 83 5 (Js6 g l)=AV.fresh 83 5 (Jeq l)):=by
   delta Jug Jeq Jqv Js6 Z28e
   simp only[Kb]
   refine⟨⟨0,by omega,rfl⟩,fun g hg=>⟨fun hd=>?_,fun hd=>?_⟩⟩
   . have hlt:=Js hd
     simp only[Km]
     refine⟨by omega,by omega,by rw[Jq _ hlt];rfl,by rw[Kg];omega,by rw[Kg];omega,by unfold Jg;omega,g+1,hlt,by omega,?_⟩
     have h2:=Xd Ja hlt
     simp only[Ja]at h2
     rw[show(l.take g).length+1=(l.take (g+1)).length by simp only[Kg];omega,h2]
     rfl
   rw[Jz hd hg,Ky]
 exact JU Tryz.f29 (fzB (mkB spR 29 [(4,1,rdL 5 Ja l 5 true)] (fun i=>if i.beq 0 then some (la29 l)else none))) key (by kernel_rfl)
theorem Jr6(l:List Fx)(h:1<=l.length)(hl:l.length<=1000):P0 102 [.sl 5 (l.map Ja)] (.agg [.i (l.getD 0 default).t,.i (l.getD (l.length-1) default).t]):=by
 have key :
  (0:Int)<=0/\(0:Int) < ((List.map Ja l).length:Int)/\Jg (((List.map Ja l).length:Int)-1)/\(0:Int)<=((List.map Ja l).length:Int)-1/\((List.map Ja l).length:Int)-1 < ((List.map Ja
  l).length:Int)/\nth (Jn (List.map Ja l) 0) 0=AV.i (cJ (List.map Ja l) 0 0)/\nth (Jn (List.map Ja l) (((List.map Ja l).length:Int)-1).toNat) 0=AV.i (cJ (List.map Ja l) ((↑(List.map Ja l).length :
  Int)-1).toNat 0)/\AV.agg [AV.i (cJ (List.map Ja l) 0 0),AV.i (cJ (List.map Ja l) (((List.map Ja l).length:Int)-1).toNat 0)]=AV.agg [AV.i (l.getD 0 default).t,AV.i (l.getD (l.length-1) default).t]:=by
   have hlm:(List.map Ja l).length=l.length:=Kb _
   have e1:(((List.map Ja l).length:Int)-1).toNat=l.length-1:=by omega
   have e2:Jn (List.map Ja l) 0=Ja (l.getD 0 default):=Jq Ja (by omega)
   have e3:Jn (List.map Ja l) (l.length-1)=Ja (l.getD (l.length-1) default):=Jq Ja (by omega)
   rw[e1]
   unfold cJ
   rw[e2,e3]
   exact⟨by omega,by omega,by unfold Jg;omega,by omega,by omega,rfl,rfl,rfl⟩
 exact JU Tryz.f102 (mkB spR 102 [(1,3,rdC),(1,10,rdC)] QJ) key (by kernel_rfl)
def atI(l:List Fx)(tk:Int):Nat->Nat
 | 0=>0
 | m+1=>if(l.getD m default).t<=tk then m else atI l tk m
theorem Jeg{l:List Fx}{tk:Int}:∀ {m:Nat},1<=m->atI l tk m < m
 | 0,h=>absurd h (by omega)
 | m+1,_=>by
  simp only[atI]
  split
  . omega
  by_cases e:m=0
  . subst e;exact Nat.zero_lt_one
  have:=Jeg (l:=l) (tk:=tk) (m:=m) (by omega)
  omega
structure TrackOK(l:List Fx):Prop where
 n1:2<=l.length
 n2:l.length<=16
 b:∀ i,i < l.length->(0<=(l.getD i default).t/\(l.getD i default).t<=100000000)/\(-100000<=(l.getD i default).x/\(l.getD i default).x<=100000)/\(-100000<=(l.getD i default).y/\(l.getD i default).y<=100000)/\(0<=(l.getD i default).z/\(l.getD i default).z<=20000)/\1<=(l.getD i default).p/\(l.getD i default).p<=100
 up:∀ i,i+1 < l.length->(l.getD i default).t < (l.getD (i+1) default).t
def atA(l:List Fx)(tk:Int):Fx:=l.getD (atI l tk (l.length-1)) default
def atB(l:List Fx)(tk:Int):Fx:=l.getD (atI l tk (l.length-1)+1) default
def atV(a b:Fx)(tk:Int):List AV:=[.i (Jv a.x b.x (tk-a.t) (b.t-a.t)),.i (Jv a.y b.y (tk-a.t) (b.t-a.t)),.i (Jv a.z b.z (tk-a.t) (b.t-a.t)),.i (b.x-a.x),.i (b.y-a.y),.i (Jv a.p b.p (tk-a.t) (b.t-a.t))]
def sp126:Nat->List AV->Option AV
 | 142,[.int _ a,.int _ b,.int _ p,.int _ w]=>some (.i (Jv a b p w))
 | 97,[.int _ a,.int _ b,.int _ p,.int _ w]=>some (.i (Jv a b p w))
 | n,x=>spR n x
def la126(l:List Fx)(tk:Int):LA:={
 pre:=[.keep [0,1,4,5,17,18,19] [1],.bound 2],post:=[.keep [0,1,4,5,17,18,19] [1],.bound 2]
 Gh:=Nat
 st:=fun i=>⟨[(0,.sl 5 (l.map Ja)),(1,.i tk),(4,.ptr 1 0),(5,.i (atI l tk i)),(17,.sl 5 ((l.map Ja).take (l.length-1))),(18,.i ((l.length:Int)-1)),(19,.i i)],[(1,.box [.i 0,.i 0,.i 0,.i 0,.i 0,.i 0])],2⟩
 ok:=fun i=>i+1<=l.length
 ms:=fun i=>l.length-i }
abbrev JiU(l:List Fx)(tk:Int)(g:Nat):=(↑(atI l tk g):Int)
abbrev WX(l:List Fx)(tk:Int)(g:Nat):=l.getD (JiU l tk g).toNat default
abbrev Jbe(l:List Fx)(tk:Int)(g:Nat):=l.getD ((JiU l tk g)+1).toNat default
abbrev Js5:=[(1,ABlk.box [AV.i 0,AV.i 0,AV.i 0,AV.i 0,AV.i 0,AV.i 0])]
abbrev Jhp(l:List Fx)(tk:Int)(g:Nat):=(Jbe l tk g).t-(WX l tk g).t
abbrev JlU(l:List Fx):=List.map Ja l
abbrev Js4(l:List Fx):=List.take (l.length-1) (JlU l)
abbrev Js3(l:List Fx):=(l.length:Int)
abbrev Z29f(l:List Fx)(tk:Int)(g':Nat):=[(0,AV.sl 5 (JlU l)),(1,AV.i tk),(4,AV.ptr 1 0),(5,AV.i (↑(atI l tk g'):Int)),(17,AV.sl 5 (Js4 l)),(18,AV.i ((Js3 l)-1)),(19,AV.i (g':Int))]
abbrev Jqu(l:List Fx)(g:Nat):=l.getD (g:Int).toNat default
abbrev Jqt(l:List Fx):=((JlU l).length:Int)
abbrev Jho(tk:Int)(l:List Fx)(g:Nat):=tk-(WX l tk g).t
abbrev Z29l(l:List Fx):=List.take ((Jqt l)-1-0).toNat (List.drop 0 (JlU l))
theorem c126(l:List Fx)(tk:Int)(h:TrackOK l)(htk : -1000<=tk/\tk<=200000000):P0 126 [.sl 5 (l.map Ja),.i tk] (.agg (atV (atA l tk) (atB l tk) tk)):=by
 have key :
  Jg ((Jqt l)-1)/\(0:Int)<=0/\(0:Int)<=(Jqt l)-1/\(Jqt l)-1<=(Jqt l)/\(∃ (g:Nat),g+1<=l.length/\AS.mk [(0,AV.sl 5 (JlU l)),(1,AV.i tk),(4,AV.ptr 1 0),(5,AV.i 0),(17,AV.sl 5 (Z29l l)),(18,AV.i
  ((Z29l l).length:Int)),(19,AV.i 0)] Js5 2=AS.mk [(0,AV.sl 5 (JlU l)),(1,AV.i tk),(4,AV.ptr 1 0),(5,AV.i (JiU l tk g)),(17,AV.sl 5 (Js4 l)),(18,AV.i ((Js3 l)-1)),(19,AV.i (g:Int))] Js5 2)/\∀ (g :
  Nat),g+1<=l.length->(decide ((g:Int) < (Js3 l)-1)=true->(0:Int)<=(g:Int)/\(g:Int) < ((Js4 l).length:Int)/\AV.agg (Jn (Js4 l) (g:Int).toNat)=AV.agg [AV.i (Jqu l g).t,AV.i (Jqu l g).x,AV.i
  (Jqu l g).y,AV.i (Jqu l g).z,AV.i (Jqu l g).p]/\(decide ((Jqu l g).t<=tk)=true->Jg ((g:Int)+1)/\∃ (g':Nat),g'+1<=l.length/\l.length-g' < l.length-g/\AS.mk [(0,AV.sl 5 (JlU l)),(1,AV.i tk),(4,
  AV.ptr 1 0),(5,AV.i (g:Int)),(17,AV.sl 5 (Js4 l)),(18,AV.i ((Js3 l)-1)),(19,AV.i ((g:Int)+1))] Js5 2=AS.mk (Z29f l tk g') Js5 2)/\(decide ((Jqu l g).t<=tk)=false->Jg ((g:Int)+1)/\∃ (g':Nat),
  g'+1<=l.length/\l.length-g' < l.length-g/\AS.mk [(0,AV.sl 5 (JlU l)),(1,AV.i tk),(4,AV.ptr 1 0),(5,AV.i (JiU l tk g)),(17,AV.sl 5 (Js4 l)),(18,AV.i ((Js3 l)-1)),(19,AV.i ((g:Int)+1))] Js5 2=AS.mk
  (Z29f l tk g') Js5 2))/\(decide ((g:Int) < (Js3 l)-1)=false->(0:Int)<=(JiU l tk g)/\(JiU l tk g) < (Jqt l)/\Jg ((JiU l tk g)+1)/\(0:Int)<=(JiU l tk g)+1/\(JiU l tk g)+1 < (Jqt l)/\AV.agg (Jn
  (JlU l) (JiU l tk g).toNat)=AV.agg [AV.i (WX l tk g).t,AV.i (WX l tk g).x,AV.i (WX l tk g).y,AV.i (WX l tk g).z,AV.i (WX l tk g).p]/\AV.agg (Jn (JlU l) ((JiU l tk g)+1).toNat)=AV.agg [AV.i (Jbe l tk
  g).t,AV.i (Jbe l tk g).x,AV.i (Jbe l tk g).y,AV.i (Jbe l tk g).z,AV.i (Jbe l tk g).p]/\Jg (Jho tk l g)/\Jg (Jhp l tk g)/\P0 142 [AV.i (WX l tk g).x,AV.i (Jbe l tk g).x,AV.i (Jho tk l g),AV.i (Jhp l tk g)]
  (AV.i (Jv (WX l tk g).x (Jbe l tk g).x (Jho tk l g) (Jhp l tk g)))/\P0 142 [AV.i (WX l tk g).y,AV.i (Jbe l tk g).y,AV.i (Jho tk l g),AV.i (Jhp l tk g)] (AV.i (Jv (WX l tk g).y (Jbe l tk g).y (Jho tk l
  g) (Jhp l tk g)))/\P0 142 [AV.i (WX l tk g).z,AV.i (Jbe l tk g).z,AV.i (Jho tk l g),AV.i (Jhp l tk g)] (AV.i (Jv (WX l tk g).z (Jbe l tk g).z (Jho tk l g) (Jhp l tk g)))/\Jg ((Jbe l tk g).x-(WX l tk
  g).x)/\Jg ((Jbe l tk g).y-(WX l tk g).y)/\P0 142 [AV.i (WX l tk g).p,AV.i (Jbe l tk g).p,AV.i (Jho tk l g),AV.i (Jhp l tk g)] (AV.i (Jv (WX l tk g).p (Jbe l tk g).p (Jho tk l g) (Jhp l tk g)))/\AV.agg
  [AV.i (Jv (WX l tk g).x (Jbe l tk g).x (Jho tk l g) (Jhp l tk g)),AV.i (Jv (WX l tk g).y (Jbe l tk g).y (Jho tk l g) (Jhp l tk g)),AV.i (Jv (WX l tk g).z (Jbe l tk g).z (Jho tk l g) (Jhp l tk g)),
  AV.i ((Jbe l tk g).x-(WX l tk g).x),AV.i ((Jbe l tk g).y-(WX l tk g).y),AV.i (Jv (WX l tk g).p (Jbe l tk g).p (Jho tk l g) (Jhp l tk g))]=AV.agg [AV.i (Jv (atA l tk).x (atB l tk).x (tk-(atA l tk).t)
  ((atB l tk).t-(atA l tk).t)),AV.i (Jv (atA l tk).y (atB l tk).y (tk-(atA l tk).t) ((atB l tk).t-(atA l tk).t)),AV.i (Jv (atA l tk).z (atB l tk).z (tk-(atA l tk).t) ((atB l tk).t-(atA l tk).t)),AV.i ((atB l
  tk).x-(atA l tk).x),AV.i ((atB l tk).y-(atA l tk).y),AV.i (Jv (atA l tk).p (atB l tk).p (tk-(atA l tk).t) ((atB l tk).t-(atA l tk).t))]):=by
   delta WX Jbe Js5 Jhp JlU Z29f Jqu Js4 Jqt Jho JiU Z29l Js3
   have hlm:(List.map Ja l).length=l.length:=Kb _
   have hn:=h.n1
   have e1:List.take (((List.map Ja l).length:Int)-1-0).toNat (List.drop 0 (List.map Ja l))=List.take (l.length-1) (List.map Ja l):=by
    rw[hlm,List.drop_zero]
    congr 1
    omega
   have e2:((List.take (l.length-1) (List.map Ja l)).length:Int)=(l.length:Int)-1:=by
    rw[Kg,hlm]
    omega
   have hl:=h.n2
   refine⟨by unfold Jg;omega,by omega,by omega,by omega,⟨0,by omega,?_⟩,fun g hg=>⟨fun hd=>?_,fun hd=>?_⟩⟩
   . rw[e1,e2]
     rfl
   . have hlt:=K0 hd
     simp only[Km]
     refine⟨by omega,by rw[e2];omega,?_,fun hx=>⟨by unfold Jg;omega,g+1,by omega,by omega,?_⟩,fun hx=>⟨by unfold Jg;omega,g+1,by omega,by omega,?_⟩⟩
     . have:Jn (List.take (l.length-1) (List.map Ja l)) g=Jn (List.map Ja l) g:=by
        unfold Jn
        rw[Ka,Ka,List.getElem?_take_of_lt (by omega)]
       rw[this,Jq Ja (by omega)]
       rfl
     . rw[show atI l tk (g+1)=g from if_pos (K0 hx)]
       rfl
     rw[show atI l tk (g+1)=atI l tk g from if_neg (K1 hx)]
     rfl
   have hge:g=l.length-1:=by
    have:=K1 hd
    omega
   subst hge
   have hi:=Jeg (l:=l) (tk:=tk) (m:=l.length-1) (by omega)
   have e3:((↑(atI l tk (l.length-1)):Int)+1).toNat=atI l tk (l.length-1)+1:=by omega
   have r1:Jn (List.map Ja l) (atI l tk (l.length-1))=Ja (atA l tk):=Jq Ja (by omega)
   have r2:Jn (List.map Ja l) (atI l tk (l.length-1)+1)=Ja (atB l tk):=Jq Ja (by omega)
   have bA:=h.b (atI l tk (l.length-1)) (by omega)
   have bB:=h.b (atI l tk (l.length-1)+1) (by omega)
   have up:=h.up (atI l tk (l.length-1)) (by omega)
   rw[e3,Km,r1,r2]
   rw[show l.getD (atI l tk (l.length-1)) default=atA l tk from rfl]at bA up ⊢
   rw[show l.getD (atI l tk (l.length-1)+1) default=atB l tk from rfl]at bB up ⊢
   generalize atA l tk=A at *
   generalize atB l tk=B at *
   exact⟨by omega,by omega,by unfold Jg;omega,by omega,by omega,rfl,rfl,by unfold Jg;omega,by unfold Jg;omega,c142 _ _ _ _ ⟨by omega,by omega,by omega,by omega,by omega,by omega,by omega⟩,c142 _ _ _ _ ⟨by omega,by omega,by omega,by omega,by omega,by omega,by omega⟩,c142 _ _ _ _ ⟨by omega,by omega,by omega,by omega,by omega,by omega,by omega⟩,by unfold Jg;omega,by unfold Jg;omega,c142 _ _ _ _ ⟨by omega,by omega,by omega,by omega,by omega,by omega,by omega⟩,rfl⟩
 exact JU Tryz.f126 (fzB (mkB sp126 126 [(4,2,rdL 5 Ja l 5 true),(8,3,rdL 5 Ja l 5 true),(8,8,rdL 5 Ja l 5 true)] (fun i=>if i.beq 0 then some (la126 l tk)else none))) key (by kernel_rfl)
def kI(p:List St)(al:Int):Nat->Nat
 | 0=>0
 | j+1=>if decide ((p.getD j default).a<=al)=true then j else kI p al j
theorem Jgr(i:Nat):prv (i+1)=i:=by
 unfold prv Q0
 split <;> omega
theorem JhF{f g:Nat->Int}{n:Nat}{fin:Int}(h:∀ k,k < n->f k=g k):QI f n fin=QI g n fin:=by
 unfold QI
 rw[List.map_congr_left (fun k hk=>h k (List.mem_range.1 hk))]
theorem JmY{c:Int}{f g:Nat->Int}{n:Nat}{fin:Int}(h:∀ k,k < n->f k=g k):sLS c f n fin=sLS c g n fin:=by
 unfold sLS
 rw[JhF h]
theorem Jh6(a b c d:Int):Jb [Jb [a,b,c],d]=Jb [a,b,c,d]:=by
 unfold Jb
 by_cases ha:a=0
 . by_cases hb:b=0
   . by_cases hc:c=0
     . simp[Jb,ha,hb,hc]
     simp[Jb,ha,hb,hc]
   simp[Jb,ha,hb]
 simp[Jb,ha]
theorem XZ(l:List Fx):Jp l=QR l:=by
 unfold Jp QR
 refine JmY fun k _=>?_
 unfold Vc Xh Jrf
 exact Jh6 _ _ _ _
theorem Jk4(a:Fx):Jde a a=true:=by simp[Jde]
theorem Jjw(l:List Fx):U6 l l=true:=by
 simp[U6,Jk4]
def JB(l:List Fx):Int:=(l.getD (l.length-1) default).t
def Jm(l:List Fx):Int:=(l.getD 0 default).t
theorem VN{l:List Fx}(h:QR l=0):TrackOK l/\JB l-Jm l<=1000:=by
 obtain⟨h1,h2,h3⟩:=X9 h
 have hn:=Jku (by rw[h1];rfl)
 rw[Kb]at hn h2
 have key:∀ i,i < l.length->(0<=(l.getD i default).t/\(l.getD i default).t<=100000000)/\JT (l.getD i default).x (l.getD i default).y (l.getD i default).z=0/\(1<=(l.getD i default).p/\(l.getD i default).p<=100)/\(if decide ((i:Int) > 0)=true then decide ((l.getD i default).t<=(l.getD (prv i) default).t)else false)=false:=fun i hi=>by
  have h4:=h2 i hi
  unfold Xh Qd at h4
  simp only[Jd,within_zero]at h4
  exact⟨h4.1,h4.2.1,h4.2.2.1,V4 (by decide) h4.2.2.2.1⟩
 refine⟨⟨hn.1,hn.2,fun i hi=>?_,fun i hi=>?_⟩,?_⟩
 . obtain⟨a,b,c,_⟩:=key i hi
   have d:=Jgw b
   exact⟨a,d.1,d.2.1,d.2.2,c⟩
 . have h5:=(key (i+1) hi).2.2.2
   rw[Jgr,if_pos (decide_eq_true (by omega))]at h5
   have:=K1 h5
   omega
 have h6:=K1 (V4 (by decide) h3)
 rw[show Vy (l.map Ja).length=l.length-1 by rw[Kb,Vy];omega]at h6
 unfold JB Jm
 omega
theorem Jp6{l:List Fx}{tk:Int}(h:Jm l<=tk):∀ m,(l.getD (atI l tk m) default).t<=tk
 | 0=>h
 | m+1=>by
  simp only[atI]
  split
  . assumption
  exact Jp6 h m
theorem Jp7{l:List Fx}{tk:Int}:∀ m j,atI l tk m < j->j < m->tk < (l.getD j default).t
 | 0,j,_,h=>absurd h (by omega)
 | m+1,j,h1,h2=>by
  simp only[atI]at h1
  split at h1
  . omega
  rename_i h3
  by_cases e:j=m
  . rw[e]
    omega
  exact Jp7 m j h1 (by omega)
theorem Jp4{l:List Fx}{tk:Int}(h:TrackOK l)(h1:Jm l<=tk)(h2:tk < JB l):(atA l tk).t<=tk/\tk < (atB l tk).t:=by
 have hn:=h.n1
 have hi:=Jeg (l:=l) (tk:=tk) (m:=l.length-1) (by omega)
 refine⟨Jp6 h1 _,?_⟩
 by_cases e:atI l tk (l.length-1)+1=l.length-1
 . unfold atB
   rw[e]
   exact h2
 exact Jp7 (l.length-1) _ (by omega) (by omega)
def aX(l:List Fx)(tk:Int):Int:=Jv (atA l tk).x (atB l tk).x (tk-(atA l tk).t) ((atB l tk).t-(atA l tk).t)
def aY(l:List Fx)(tk:Int):Int:=Jv (atA l tk).y (atB l tk).y (tk-(atA l tk).t) ((atB l tk).t-(atA l tk).t)
def aZ(l:List Fx)(tk:Int):Int:=Jv (atA l tk).z (atB l tk).z (tk-(atA l tk).t) ((atB l tk).t-(atA l tk).t)
def aH(l:List Fx)(tk:Int):Int:=(atB l tk).x-(atA l tk).x
def aK(l:List Fx)(tk:Int):Int:=(atB l tk).y-(atA l tk).y
def aP(l:List Fx)(tk:Int):Int:=Jv (atA l tk).p (atB l tk).p (tk-(atA l tk).t) ((atB l tk).t-(atA l tk).t)
structure AtOK(l:List Fx)(tk:Int):Prop where
 x : -100000<=aX l tk/\aX l tk<=100000
 y : -100000<=aY l tk/\aY l tk<=100000
 z:0<=aZ l tk/\aZ l tk<=20000
 h : -200000<=aH l tk/\aH l tk<=200000
 k : -200000<=aK l tk/\aK l tk<=200000
 p:1<=aP l tk/\aP l tk<=100
theorem at_ok{l:List Fx}{tk:Int}(h:TrackOK l)(h1:Jm l<=tk)(h2:tk < JB l):AtOK l tk:=by
 have hs:=Jp4 h h1 h2
 have hn:=h.n1
 have hi:=Jeg (l:=l) (tk:=tk) (m:=l.length-1) (by omega)
 have bA:(0<=(atA l tk).t/\(atA l tk).t<=100000000)/\(-100000<=(atA l tk).x/\(atA l tk).x<=100000)/\(-100000<=(atA l tk).y/\(atA l tk).y<=100000)/\(0<=(atA l tk).z/\(atA l tk).z<=20000)/\1<=(atA l tk).p/\(atA l tk).p<=100:=h.b _ (by omega)
 have bB:(0<=(atB l tk).t/\(atB l tk).t<=100000000)/\(-100000<=(atB l tk).x/\(atB l tk).x<=100000)/\(-100000<=(atB l tk).y/\(atB l tk).y<=100000)/\(0<=(atB l tk).z/\(atB l tk).z<=20000)/\1<=(atB l tk).p/\(atB l tk).p<=100:=h.b _ (by omega)
 have w:0 < (atB l tk).t-(atA l tk).t:=by omega
 have p0:0<=tk-(atA l tk).t:=by omega
 have p1:tk-(atA l tk).t<=(atB l tk).t-(atA l tk).t:=by omega
 exact⟨⟨Jed w p0 p1 (by omega) (by omega),Jg9 w p0 p1 (by omega) (by omega)⟩,⟨Jed w p0 p1 (by omega) (by omega),Jg9 w p0 p1 (by omega) (by omega)⟩,⟨Jed w p0 p1 (by omega) (by omega),Jg9 w p0 p1 (by omega) (by omega)⟩,
  by unfold aH;omega,by unfold aK;omega,⟨Jed w p0 p1 (by omega) (by omega),Jg9 w p0 p1 (by omega) (by omega)⟩⟩
def JdR(t:Ty)(l:List Fx)(rx ry rz tk:Int):Int:=hrd t (aH l tk) (aK l tk) (aP l tk) (rx-aX l tk) (ry-aY l tk) (rz-aZ l tk)
theorem hrd_b{t:Ty}{a b p u v w:Int}(hT:Qs t=0)(hp:1<=p/\p<=100):0<=hrd t a b p u v w/\hrd t a b p u v w<=100000000000:=by
 have hO:=JhK hT
 have hS:=Jak hT
 have h8:=Jq2 (Qw a b u v) (Qv a b u v)
 have hd:=hS.1 (sec 4 0 (Qw a b u v) (Qv a b u v)).toNat (by omega)
 rw[<- Qb]at hd
 have he:=emi_b (d:=u * u+v * v+w * w) hO hp.1 hp.2
 have hn:=emi_nn (p:=p) (d:=u * u+v * v+w * w) hT
 have h1:=J4 (A:=20000000000) (B:=2000) he.1 he.2 (by omega) hd.2
 have hv:JdQ t a b p u v w<=20000000000 * 2000:=h1.2
 have hv0:0<=JdQ t a b p u v w:=Int.mul_nonneg hn hd.1
 have h2:=J4 (A:=40000000000000) (B:=1000) (x:=JdQ t a b p u v w) (y:=t.side) (by omega) (by omega) (by omega) hS.2.2
 have h3:0<=JdQ t a b p u v w * t.side:=Int.mul_nonneg hv0 hS.2.1
 unfold hrd
 split
 . rw[Int.tdiv_eq_ediv_of_nonneg h3]
   omega
 rw[Int.tdiv_eq_ediv_of_nonneg hv0]
 omega
def JeD(f:Int->Int)(a:Int):Nat->Int
 | 0=>0
 | n+1=>JeD f a n+f (a+n)
theorem Jjg{f:Int->Int}{a:Int}{n:Nat}(h:∀ i:Nat,i < n->0<=f (a+i)/\f (a+i)<=100000000000):∀ i,i<=n->0<=JeD f a i/\JeD f a i<=100000000000 * i
 | 0,_=>by simp[JeD]
 | i+1,hi=>by
  have h1:=Jjg h i (by omega)
  have h2:=h i (by omega)
  simp only[JeD]
  rw[Int.natCast_add,Int.mul_add]
  omega
theorem c101(a b c d:Int) :P0 101 [.agg [.i a,.i b],.agg [.i c,.i d]] (.agg [.i (Q0 a c),.i (Jct b d)]):=by
 have key :
  AV.agg [AV.i (Q0 a c),AV.i (Jct b d)]=AV.agg [AV.i (Q0 a c),AV.i (Jct b d)]:=by
   rfl
 exact JU Tryz.f101 (mkB spR 101 [] QJ) key (by kernel_rfl)
def Qe(l:List Fx)(a:Int):Int:=Q0 a (Jm l)
def toB(l:List Fx)(b:Int):Int:=Jct b (JB l)
theorem JrJ{t:Ty}{l:List Fx}{a b x y z:Int}(hT:Qs t=0)(hO:TrackOK l)(hsp:JB l-Jm l<=1000)(ha:0<=a/\a<=100000000)(hb:0<=b/\b<=100000000) :
 (0<=Qe l a/\Qe l a<=100000000)/\toB l b<=100000000/\(toB l b-Qe l a).toNat<=1000/\(∀ i:Nat,i < (toB l b-Qe l a).toNat->AtOK l (Qe l a+i))/\(∀ i:Nat,i < (toB l b-Qe l a).toNat->0<=JdR t l x y z (Qe l a+i)/\JdR t l x y z (Qe l a+i)<=100000000000):=by
 have hn:=hO.n1
 have b0:=hO.b 0 (by omega)
 have b1:=hO.b (l.length-1) (by omega)
 have hf:Jm l=(l.getD 0 default).t:=rfl
 have hl:JB l=(l.getD (l.length-1) default).t:=rfl
 have f0:Jm l<=Qe l a/\Qe l a<=100000000:=by
  unfold Qe Q0
  split <;> omega
 have t0:toB l b<=JB l/\toB l b<=100000000:=by
  unfold toB Jct
  split <;> omega
 have hA:∀ i:Nat,i < (toB l b-Qe l a).toNat->AtOK l (Qe l a+i):=fun i hi=>at_ok hO (by omega) (by omega)
 exact⟨by omega,t0.2,by omega,hA,fun i hi=>hrd_b hT (hA i hi).p⟩
theorem JeU{n x:Nat}{pre post:List Nat}(h:List.range n=pre++x::post):x=pre.length/\pre.length < n:=by
 have h1:(List.range n)[pre.length]?=some x:=by
  rw[h]
  simp
 have hl:pre.length < n:=by
  have:=congrArg List.length h
  simp at this
  omega
 rw[List.getElem?_range hl]at h1
 exact⟨(Option.some.inj h1).symm,hl⟩
def hdV(t:Ty)(x y z:Int):List AV->Int
 | [.int _ a,.int _ b,.int _ c,.int _ d,.int _ e,.int _ p]=>hrd t d e p (x-a) (y-b) (z-c)
 | _=>0
theorem Jng{t:Ty}{l:List Fx}{a b x y z:Int}(hT:Qs t=0)(hO:TrackOK l)(hA:∀ i:Nat,i < (b-a).toNat->AtOK l (a+i))(ha:0<=a/\a<=100000000)(hb:b<=100000000)(hx : -100000<=x/\x<=100000)(hy : -100000<=y/\y<=100000)(hz:0<=z/\z<=20000) :
 PSeq Tryz.prog G0 144 [.elt 2 [[.i a,.i b]] 0 0,.elt 13 [Jf t] 0 0,.elt 1 [[.sl 5 (l.map Ja)]] 0 0,.elt 3 [[.i x,.i y,.i z]] 0 0] ((List.range (b-a).toNat).map fun(i:Nat)=>[.i (a+i),.i (JdR t l x y z (a+i))]) :=
 s144 a b (.str t.name) (.sl 1 (t.sh.map Jh)) (.i t.d0) (.i t.d1) (.i t.d2) (.i t.d3) (.i t.d4) (.i t.d5) (.i t.d6) (.i t.d7) (.i t.side) (.sl 1 (t.sq.map Jh)) (.sl 2 (t.st.map Ji)) (l.map Ja) x y z
  (fun i=>atV (atA l (a+i)) (atB l (a+i)) (a+i)) (hdV t x y z) (by omega) (by omega) (fun i hi=>c126 l _ hO (by omega))
  (fun i hi=>c117 t _ _ _ _ _ _ _ _ _ (JhK hT) (hA i hi).x (hA i hi).y (hA i hi).z (hA i hi).h (hA i hi).k (hA i hi).p hx hy hz (Jak hT).1 (Jak hT).2)
def fnH(t:Ty)(l:List Fx)(a b x y z:Int):AV:=.fn (.func 144) [] [.elt 2 [[.i a,.i b]] 0 0,.elt 13 [Jf t] 0 0,.elt 1 [[.sl 5 (l.map Ja)]] 0 0,.elt 3 [[.i x,.i y,.i z]] 0 0]
theorem c103(t:Ty)(l:List Fx)(a b x y z:Int) :P0 103 [.agg (Jf t),.sl 5 (l.map Ja),.agg [.i a,.i b],.agg [.i x,.i y,.i z]] (fnH t l a b x y z):=by
 have key :
  AV.fn (Fn.func 144) [] [AV.elt 2 [[AV.i a,AV.i b]] 0 0,AV.elt 13 [(Jf t)] 0 0,AV.elt 1 [[AV.sl 5 (List.map Ja l)]] 0 0,AV.elt 3 [[AV.i x,AV.i y,AV.i z]] 0 0]=AV.fn (Fn.func 144) [] [AV.elt 2 [[AV.i a,AV.i b]] 0 0,
  AV.elt 13 [(Jf t)] 0 0,AV.elt 1 [[AV.sl 5 (List.map Ja l)]] 0 0,AV.elt 3 [[AV.i x,AV.i y,AV.i z]] 0 0]:=by
   rfl
 exact JU Tryz.f103 (fzB (mkB spR 103 [] QJ)) key (by kernel_rfl)
def sp100(t:Ty)(l:List Fx)(x y z:Int):Nat->List AV->Option AV
 | 102,_=>some (.agg [.i (Jm l),.i (JB l)])
 | 101,[.agg [.int _ a,.int _ b],.agg [.int _ c,.int _ d]]=>some (.agg [.i (Q0 a c),.i (Jct b d)])
 | 103,[_,_,.agg [.int _ a,.int _ b],_]=>some (fnH t l a b x y z)
 | n,x=>spR n x
def fa100(t:Ty)(l:List Fx)(a b x y z:Int):FA:={
 X:=Nat,xs:=List.range (toB l b-Qe l a).toNat,enc:=fun i=>[.i (Qe l a+i),.i (JdR t l x y z (Qe l a+i))]
 post:=[.keep [] [1],.bound 2]
 Gh:=Nat
 st:=fun g=>⟨[(9,.ptr 1 0),(19,fnH t l (Qe l a) (toB l b) x y z)],[(1,.box [.i (JeD (JdR t l x y z) (Qe l a) g)])],2⟩
 ok:=fun pre g=>g=pre.length }
abbrev Js2(a:Int)(l:List Fx)(b:Int):=[AV.i (Q0 a (Jm l)),AV.i (Jct b (JB l))]
abbrev Jqs(l:List Fx):=[AV.sl 5 (List.map Ja l)]
theorem c100(t:Ty)(l:List Fx)(a b x y z:Int)(hT:Qs t=0)(hO:TrackOK l)(hsp:JB l-Jm l<=1000)(ha:0<=a/\a<=100000000)(hb:0<=b/\b<=100000000)(hx : -100000<=x/\x<=100000)(hy : -100000<=y/\y<=100000)(hz:0<=z/\z<=20000):P0 100 [.agg (Jf t),.sl 5 (l.map Ja),.agg [.i a,.i b],.agg [.i x,.i y,.i z]] (.i (JeD (JdR t l x y z) (Qe l a) (toB l b-Qe l a).toNat)):=by
 have key :
  P0 102 (Jqs l) (AV.agg [AV.i (Jm l),AV.i (JB l)])/\P0 101 [AV.agg [AV.i a,AV.i b],AV.agg [AV.i (Jm l),AV.i (JB l)]] (AV.agg (Js2 a l b))/\P0 103 [AV.agg (Jf t),AV.sl 5 (List.map Ja l),AV.agg (Js2 a l
  b),AV.agg [AV.i x,AV.i y,AV.i z]] (AV.fn (Fn.func 144) [] [AV.elt 2 [(Js2 a l b)] 0 0,AV.elt 13 [(Jf t)] 0 0,AV.elt 1 [(Jqs l)] 0 0,AV.elt 3 [[AV.i x,AV.i y,AV.i z]] 0 0])/\PSeq Tryz.prog G0 144 [AV.elt 2 [(Js2 a l
  b)] 0 0,AV.elt 13 [(Jf t)] 0 0,AV.elt 1 [(Jqs l)] 0 0,AV.elt 3 [[AV.i x,AV.i y,AV.i z]] 0 0] (List.map (fa100 t l a b x y z).enc (List.range (toB l b-Qe l a).toNat))/\(∀ (x:Nat),2=2)/\(∃ (g:Nat),g=0 /\
  AS.mk [(9,AV.ptr 1 0),(19,AV.fn (Fn.func 144) [] [AV.elt 2 [(Js2 a l b)] 0 0,AV.elt 13 [(Jf t)] 0 0,AV.elt 1 [(Jqs l)] 0 0,AV.elt 3 [[AV.i x,AV.i y,AV.i z]] 0 0])] [(1,ABlk.box [AV.i 0])] 2=AS.mk [(9,AV.ptr 1 0),
  (19,AV.fn (Fn.func 144) [] [AV.elt 2 [[AV.i (Qe l a),AV.i (toB l b)]] 0 0,AV.elt 13 [(Jf t)] 0 0,AV.elt 1 [(Jqs l)] 0 0,AV.elt 3 [[AV.i x,AV.i y,AV.i z]] 0 0])] [(1,ABlk.box [AV.i (JeD (JdR t l x y z) (Qe l a)
  g)])] 2)/\(∀ (pre:List Nat) (x_1:Nat) (post:List Nat) (g:Nat),List.range (toB l b-Qe l a).toNat=pre++x_1::post->g=pre.length->Exit.normal=Exit.normal/\false=false/\Jg (JeD (JdR t l x y z) (Qe l
  a) g+JdR t l x y z (Qe l a+(x_1:Int)))/\false=false/\∃ (g':Nat),g'=(pre++[x_1]).length/\AS.mk [(9,AV.ptr 1 0),(19,AV.fn (Fn.func 144) [] [AV.elt 2 [(Js2 a l b)] 0 0,AV.elt 13 [(Jf t)] 0 0,AV.elt 1
  [(Jqs l)] 0 0,AV.elt 3 [[AV.i x,AV.i y,AV.i z]] 0 0])] [(1,ABlk.box [AV.i (JeD (JdR t l x y z) (Qe l a) g+JdR t l x y z (Qe l a+(x_1:Int)))])] 2=AS.mk [(9,AV.ptr 1 0),(19,AV.fn (Fn.func 144) [] [AV.elt 2
  [[AV.i (Qe l a),AV.i (toB l b)]] 0 0,AV.elt 13 [(Jf t)] 0 0,AV.elt 1 [(Jqs l)] 0 0,AV.elt 3 [[AV.i x,AV.i y,AV.i z]] 0 0])] [(1,ABlk.box [AV.i (JeD (JdR t l x y z) (Qe l a) g')])] 2)/\∀ (g:Nat),g =
  (List.range (toB l b-Qe l a).toNat).length->AV.i (JeD (JdR t l x y z) (Qe l a) g)=AV.i (JeD (JdR t l x y z) (Qe l a) (toB l b-Qe l a).toNat):=by
   delta Js2 Jqs
   obtain⟨f0,t0,hN,hA,hH⟩:=JrJ (t:=t) (x:=x) (y:=y) (z:=z) hT hO hsp ha hb
   have hS:=Jjg hH
   have hn:=hO.n1
   have hn2:=hO.n2
   refine⟨Jr6 l (by omega) (by omega),c101 _ _ _ _,c103 t l _ _ _ _ _,Jng (a:=Qe l a) (b:=toB l b) hT hO hA f0 t0 hx hy hz,fun _=>rfl,⟨0,rfl,rfl⟩,fun pre i post g hr hg=>?_,fun g hg=>?_⟩
   . obtain⟨e1,e2⟩:=JeU hr
     subst e1
     subst hg
     have s1:=hS (pre.length+1) e2
     refine⟨rfl,rfl,(show Jg (JeD (JdR t l x y z) (Qe l a) (pre.length+1))from by unfold Jg;omega),rfl,pre.length+1,by simp,rfl⟩
   rw[hg,List.length_range]
 exact JU Tryz.f100 ({ fzB (mkB (sp100 t l x y z) 100 [] QJ)with fa:=some (fa100 t l a b x y z),gs:=fun i=>if i.beq 2 then[.reno 9 1,.keep [9,19] [1],.bound 2]else[] }) key (by kernel_rfl)
end Go.Proofs.YtjhjmncjidbieaaGreatDoor
