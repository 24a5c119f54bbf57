/-
  The tables of chapter 2's seat, and what its functions' proofs share. No condition. What the small functions of chapter 2 return. No condition but the theorems' own.
-/
import Derived.Test.YtjhjmncjidbieaaGreatDoorChecked
import Derived.Test.YtjhjmncjidbieaaGreatDoorAvD
namespace Go.Proofs.YtjhjmncjidbieaaGreatDoor
open Go Go.Av Go.RowKit
def T0:TT:=[
 (2,⟨(.int .i64),1,8,false,[.int .i64 0],false⟩),
 (3,⟨(.int .i64),1,8,false,[.int .i64 0],false⟩),
 (4,⟨.bool,1,1,false,[.bool false],false⟩),
 (5,⟨(.int .u8),1,1,false,[.int .u8 0],false⟩),
 (9,⟨.str,1,16,false,[.str []],false⟩),
 (21,⟨(.int .i32),1,4,false,[.int .i32 0],false⟩),
 (22,⟨(.slice 85 2 16),1,24,false,[.ex (.slice none 0 0)],false⟩),
 (23,⟨(.slice 81 3 24),1,24,false,[.ex (.slice none 0 0)],false⟩),
 (24,⟨(.arr 2 3 1),2,16,true,[.int .i64 0,.int .i64 0],true⟩),
 (26,⟨(.slice 83 5 40),1,24,false,[.ex (.slice none 0 0)],false⟩),
 (27,⟨(.int .i64),1,8,false,[.int .i64 0],false⟩),
 (30,⟨(.slice 166 3 24),1,24,false,[.ex (.slice none 0 0)],false⟩),
 (35,⟨.other,1,8,false,[.ex .nilFunc],false⟩),
 (36,⟨(.slice 110 5 40),1,24,false,[.ex (.slice none 0 0)],false⟩),
 (43,⟨(.slice 3 1 8),1,24,false,[.ex (.slice none 0 0)],false⟩),
 (44,⟨(.arr 8 3 1),8,64,true,[.int .i64 0,.int .i64 0,.int .i64 0,.int .i64 0,.int .i64 0,.int .i64 0,.int .i64 0,.int .i64 0],true⟩),
 (45,⟨(.slice 117 2 32),1,24,false,[.ex (.slice none 0 0)],false⟩),
 (47,⟨(.struct [(0,9,1),(1,43,1),(2,44,8),(10,3,1),(11,43,1),(12,45,1)]),13,160,true,[.str [],.ex (.slice none 0 0),.int .i64 0,.int .i64 0,.int .i64 0,.int .i64 0,.int .i64 0,.int .i64 0,.int .i64 0,.int .i64 0,.int .i64 0,.ex (.slice none 0 0),.ex (.slice none 0 0)],true⟩),
 (49,⟨(.struct [(0,3,1),(1,3,1)]),2,16,true,[.int .i64 0,.int .i64 0],true⟩),
 (51,⟨(.struct [(0,3,1),(1,3,1),(2,3,1)]),3,24,true,[.int .i64 0,.int .i64 0,.int .i64 0],true⟩),
 (53,⟨(.struct [(0,49,2),(2,51,3)]),5,40,true,[.int .i64 0,.int .i64 0,.int .i64 0,.int .i64 0,.int .i64 0],true⟩),
 (58,⟨(.slice 182 2 32),1,24,false,[.ex (.slice none 0 0)],false⟩),
 (60,⟨(.struct [(0,9,1),(1,43,1),(2,44,8),(10,3,1),(11,43,1),(12,58,1)]),13,160,true,[.str [],.ex (.slice none 0 0),.int .i64 0,.int .i64 0,.int .i64 0,.int .i64 0,.int .i64 0,.int .i64 0,.int .i64 0,.int .i64 0,.int .i64 0,.ex (.slice none 0 0),.ex (.slice none 0 0)],true⟩),
 (66,⟨(.struct [(0,3,1),(1,3,1)]),2,16,true,[.int .i64 0,.int .i64 0],true⟩),
 (78,⟨(.int .u32),1,4,false,[.int .u32 0],false⟩),
 (79,⟨(.arr 2 78 1),2,8,true,[.int .u32 0,.int .u32 0],true⟩),
 (81,⟨(.struct [(0,3,1),(1,3,1),(2,3,1)]),3,24,true,[.int .i64 0,.int .i64 0,.int .i64 0],true⟩),
 (83,⟨(.struct [(0,3,1),(1,51,3),(4,3,1)]),5,40,true,[.int .i64 0,.int .i64 0,.int .i64 0,.int .i64 0,.int .i64 0],true⟩),
 (85,⟨(.struct [(0,3,1),(1,3,1)]),2,16,true,[.int .i64 0,.int .i64 0],true⟩),
 (89,⟨(.struct [(0,51,3),(3,85,2),(5,3,1)]),6,48,true,[.int .i64 0,.int .i64 0,.int .i64 0,.int .i64 0,.int .i64 0,.int .i64 0],true⟩),
 (91,⟨(.struct [(0,3,1),(1,3,1),(2,89,6),(8,51,3),(11,85,2),(13,3,1)]),14,112,true,[.int .i64 0,.int .i64 0,.int .i64 0,.int .i64 0,.int .i64 0,.int .i64 0,.int .i64 0,.int .i64 0,.int .i64 0,.int .i64 0,.int .i64 0,.int .i64 0,.int .i64 0,.int .i64 0],true⟩),
 (95,⟨(.struct [(0,51,3),(3,85,2),(5,3,1)]),6,48,true,[.int .i64 0,.int .i64 0,.int .i64 0,.int .i64 0,.int .i64 0,.int .i64 0],true⟩),
 (107,⟨(.int .u16),1,2,false,[.int .u16 0],false⟩),
 (109,⟨(.struct [(0,51,3),(3,107,1),(4,107,1)]),5,32,true,[.int .i64 0,.int .i64 0,.int .i64 0,.int .u16 0,.int .u16 0],true⟩),
 (110,⟨(.struct [(0,3,1),(1,51,3),(4,3,1)]),5,40,true,[.int .i64 0,.int .i64 0,.int .i64 0,.int .i64 0,.int .i64 0],true⟩),
 (117,⟨(.struct [(0,3,1),(1,43,1)]),2,32,true,[.int .i64 0,.ex (.slice none 0 0)],true⟩),
 (119,⟨.other,1,8,false,[.ex .nilFunc],false⟩),
 (120,⟨(.slice 47 13 160),1,24,false,[.ex (.slice none 0 0)],false⟩),
 (121,⟨(.slice 157 3 56),1,24,false,[.ex (.slice none 0 0)],false⟩),
 (124,⟨(.slice 60 13 160),1,24,false,[.ex (.slice none 0 0)],false⟩),
 (126,⟨(.slice 168 3 56),1,24,false,[.ex (.slice none 0 0)],false⟩),
 (155,⟨(.struct [(0,51,3),(3,107,1),(4,107,1)]),5,32,true,[.int .i64 0,.int .i64 0,.int .i64 0,.int .u16 0,.int .u16 0],true⟩),
 (157,⟨(.struct [(0,9,1),(1,9,1),(2,36,1)]),3,56,true,[.str [],.str [],.ex (.slice none 0 0)],true⟩),
 (158,⟨(.arr 2 36 1),2,48,true,[.ex (.slice none 0 0),.ex (.slice none 0 0)],true⟩),
 (160,⟨(.slice 9 1 16),1,24,false,[.ex (.slice none 0 0)],false⟩),
 (165,⟨(.arr 8 85 2),16,128,true,[.int .i64 0,.int .i64 0,.int .i64 0,.int .i64 0,.int .i64 0,.int .i64 0,.int .i64 0,.int .i64 0,.int .i64 0,.int .i64 0,.int .i64 0,.int .i64 0,.int .i64 0,.int .i64 0,.int .i64 0,.int .i64 0],true⟩),
 (166,⟨(.struct [(0,3,1),(1,3,1),(2,3,1)]),3,24,true,[.int .i64 0,.int .i64 0,.int .i64 0],true⟩),
 (168,⟨(.struct [(0,9,1),(1,9,1),(2,26,1)]),3,56,true,[.str [],.str [],.ex (.slice none 0 0)],true⟩),
 (179,⟨.other,1,8,false,[.ex .nilFunc],false⟩),
 (182,⟨(.struct [(0,3,1),(1,43,1)]),2,32,true,[.int .i64 0,.ex (.slice none 0 0)],true⟩),
 (186,⟨.other,1,8,false,[.ex .nilFunc],false⟩),
 (205,⟨(.slice 210 4 64),1,24,false,[.ex (.slice none 0 0)],false⟩),
 (210,⟨(.struct [(0,168,3),(3,3,1)]),4,64,true,[.str [],.str [],.ex (.slice none 0 0),.int .i64 0],true⟩),
 (212,⟨.other,1,8,false,[.ex .nilFunc],false⟩),
 (213,⟨.other,1,8,false,[.ex .nilFunc],false⟩),
 (215,⟨(.map 9 4),1,8,false,[.ex (.map none)],false⟩),
 (219,⟨(.arr 5 9 1),5,80,true,[.str [],.str [],.str [],.str [],.str []],true⟩),
 (221,⟨.other,1,8,false,[.ex .nilFunc],false⟩),
 (225,⟨.other,1,8,false,[.ex (.pointer none)],false⟩),
 (228,⟨(.struct [(0,160,1),(1,4,1)]),2,32,true,[.ex (.slice none 0 0),.bool false],true⟩),
 (230,⟨.other,1,8,false,[.ex .nilFunc],false⟩),
 (232,⟨(.struct [(0,230,1)]),1,8,true,[.ex .nilFunc],true⟩),
 (233,⟨(.arr 5 232 1),5,40,true,[.ex .nilFunc,.ex .nilFunc,.ex .nilFunc,.ex .nilFunc,.ex .nilFunc],true⟩),
 (234,⟨.other,1,8,false,[.ex (.pointer none)],false⟩),
 (238,⟨(.slice 27 1 8),1,24,false,[.ex (.slice none 0 0)],false⟩),
 (242,⟨.other,1,8,false,[.ex .nilFunc],false⟩),
 (246,⟨.other,1,8,false,[.ex .nilFunc],false⟩),
 (248,⟨(.slice 26 1 24),1,24,false,[.ex (.slice none 0 0)],false⟩),
 (252,⟨.other,1,8,false,[.ex .nilFunc],false⟩),
 (256,⟨.other,1,8,false,[.ex .nilFunc],false⟩),
 (258,⟨.other,1,8,false,[.ex (.pointer none)],false⟩),
 (259,⟨(.slice 5 1 1),1,24,false,[.ex (.slice none 0 0)],false⟩),
 (261,⟨(.struct [(0,258,1),(1,259,1)]),2,32,true,[.ex (.pointer none),.ex (.slice none 0 0)],true⟩),
 (264,⟨.other,1,16,false,[.ex .nilIface],false⟩),
 (270,⟨.other,1,8,false,[.ex (.pointer none)],false⟩),
 (274,⟨.other,1,8,false,[.ex (.pointer none)],false⟩),
 (277,⟨(.arr 24 5 1),24,24,true,[.int .u8 0,.int .u8 0,.int .u8 0,.int .u8 0,.int .u8 0,.int .u8 0,.int .u8 0,.int .u8 0,.int .u8 0,.int .u8 0,.int .u8 0,.int .u8 0,.int .u8 0,.int .u8 0,.int .u8 0,.int .u8 0,.int .u8 0,.int .u8 0,.int .u8 0,.int .u8 0,.int .u8 0,.int .u8 0,.int .u8 0,.int .u8 0],true⟩),
 (278,⟨(.int .u64),1,8,false,[.int .u64 0],false⟩),
 (283,⟨(.int .u64),1,8,false,[.int .u64 0],false⟩),
 (285,⟨(.arr 20 278 1),20,160,true,[.int .u64 0,.int .u64 0,.int .u64 0,.int .u64 0,.int .u64 0,.int .u64 0,.int .u64 0,.int .u64 0,.int .u64 0,.int .u64 0,.int .u64 0,.int .u64 0,.int .u64 0,.int .u64 0,.int .u64 0,.int .u64 0,.int .u64 0,.int .u64 0,.int .u64 0,.int .u64 0],true⟩),
 (286,⟨(.arr 65 5 1),65,65,true,[.int .u8 0,.int .u8 0,.int .u8 0,.int .u8 0,.int .u8 0,.int .u8 0,.int .u8 0,.int .u8 0,.int .u8 0,.int .u8 0,.int .u8 0,.int .u8 0,.int .u8 0,.int .u8 0,.int .u8 0,.int .u8 0,.int .u8 0,.int .u8 0,.int .u8 0,.int .u8 0,.int .u8 0,.int .u8 0,.int .u8 0,.int .u8 0,.int .u8 0,.int .u8 0,.int .u8 0,.int .u8 0,.int .u8 0,.int .u8 0,.int .u8 0,.int .u8 0,.int .u8 0,.int .u8 0,.int .u8 0,.int .u8 0,.int .u8 0,.int .u8 0,.int .u8 0,.int .u8 0,.int .u8 0,.int .u8 0,.int .u8 0,.int .u8 0,.int .u8 0,.int .u8 0,.int .u8 0,.int .u8 0,.int .u8 0,.int .u8 0,.int .u8 0,.int .u8 0,.int .u8 0,.int .u8 0,.int .u8 0,.int .u8 0,.int .u8 0,.int .u8 0,.int .u8 0,.int .u8 0,.int .u8 0,.int .u8 0,.int .u8 0,.int .u8 0,.int .u8 0],true⟩),
 (288,⟨(.arr 256 5 1),256,256,true,[.int .u8 0,.int .u8 0,.int .u8 0,.int .u8 0,.int .u8 0,.int .u8 0,.int .u8 0,.int .u8 0,.int .u8 0,.int .u8 0,.int .u8 0,.int .u8 0,.int .u8 0,.int .u8 0,.int .u8 0,.int .u8 0,.int .u8 0,.int .u8 0,.int .u8 0,.int .u8 0,.int .u8 0,.int .u8 0,.int .u8 0,.int .u8 0,.int .u8 0,.int .u8 0,.int .u8 0,.int .u8 0,.int .u8 0,.int .u8 0,.int .u8 0,.int .u8 0,.int .u8 0,.int .u8 0,.int .u8 0,.int .u8 0,.int .u8 0,.int .u8 0,.int .u8 0,.int .u8 0,.int .u8 0,.int .u8 0,.int .u8 0,.int .u8 0,.int .u8 0,.int .u8 0,.int .u8 0,.int .u8 0,.int .u8 0,.int .u8 0,.int .u8 0,.int .u8 0,.int .u8 0,.int .u8 0,.int .u8 0,.int .u8 0,.int .u8 0,.int .u8 0,.int .u8 0,.int .u8 0,.int .u8 0,.int .u8 0,.int .u8 0,.int .u8 0,.int .u8 0,.int .u8 0,.int .u8 0,.int .u8 0,.int .u8 0,.int .u8 0,.int .u8 0,.int .u8 0,.int .u8 0,.int .u8 0,.int .u8 0,.int .u8 0,.int .u8 0,.int .u8 0,.int .u8 0,.int .u8 0,.int .u8 0,.int .u8 0,.int .u8 0,.int .u8 0,.int .u8 0,.int .u8 0,.int .u8 0,.int .u8 0,.int .u8 0,.int .u8 0,.int .u8 0,.int .u8 0,.int .u8 0,.int .u8 0,.int .u8 0,.int .u8 0,.int .u8 0,.int .u8 0,.int .u8 0,.int .u8 0,.int .u8 0,.int .u8 0,.int .u8 0,.int .u8 0,.int .u8 0,.int .u8 0,.int .u8 0,.int .u8 0,.int .u8 0,.int .u8 0,.int .u8 0,.int .u8 0,.int .u8 0,.int .u8 0,.int .u8 0,.int .u8 0,.int .u8 0,.int .u8 0,.int .u8 0,.int .u8 0,.int .u8 0,.int .u8 0,.int .u8 0,.int .u8 0,.int .u8 0,.int .u8 0,.int .u8 0,.int .u8 0,.int .u8 0,.int .u8 0,.int .u8 0,.int .u8 0,.int .u8 0,.int .u8 0,.int .u8 0,.int .u8 0,.int .u8 0,.int .u8 0,.int .u8 0,.int .u8 0,.int .u8 0,.int .u8 0,.int .u8 0,.int .u8 0,.int .u8 0,.int .u8 0,.int .u8 0,.int .u8 0,.int .u8 0,.int .u8 0,.int .u8 0,.int .u8 0,.int .u8 0,.int .u8 0,.int .u8 0,.int .u8 0,.int .u8 0,.int .u8 0,.int .u8 0,.int .u8 0,.int .u8 0,.int .u8 0,.int .u8 0,.int .u8 0,.int .u8 0,.int .u8 0,.int .u8 0,.int .u8 0,.int .u8 0,.int .u8 0,.int .u8 0,.int .u8 0,.int .u8 0,.int .u8 0,.int .u8 0,.int .u8 0,.int .u8 0,.int .u8 0,.int .u8 0,.int .u8 0,.int .u8 0,.int .u8 0,.int .u8 0,.int .u8 0,.int .u8 0,.int .u8 0,.int .u8 0,.int .u8 0,.int .u8 0,.int .u8 0,.int .u8 0,.int .u8 0,.int .u8 0,.int .u8 0,.int .u8 0,.int .u8 0,.int .u8 0,.int .u8 0,.int .u8 0,.int .u8 0,.int .u8 0,.int .u8 0,.int .u8 0,.int .u8 0,.int .u8 0,.int .u8 0,.int .u8 0,.int .u8 0,.int .u8 0,.int .u8 0,.int .u8 0,.int .u8 0,.int .u8 0,.int .u8 0,.int .u8 0,.int .u8 0,.int .u8 0,.int .u8 0,.int .u8 0,.int .u8 0,.int .u8 0,.int .u8 0,.int .u8 0,.int .u8 0,.int .u8 0,.int .u8 0,.int .u8 0,.int .u8 0,.int .u8 0,.int .u8 0,.int .u8 0,.int .u8 0,.int .u8 0,.int .u8 0,.int .u8 0,.int .u8 0,.int .u8 0,.int .u8 0,.int .u8 0,.int .u8 0,.int .u8 0,.int .u8 0,.int .u8 0,.int .u8 0,.int .u8 0,.int .u8 0,.int .u8 0,.int .u8 0,.int .u8 0,.int .u8 0,.int .u8 0,.int .u8 0,.int .u8 0,.int .u8 0,.int .u8 0,.int .u8 0],true⟩),
 (290,⟨(.struct [(0,5,1),(1,5,1)]),2,2,true,[.int .u8 0,.int .u8 0],true⟩),
 (291,⟨(.arr 16 290 2),32,32,true,[.int .u8 0,.int .u8 0,.int .u8 0,.int .u8 0,.int .u8 0,.int .u8 0,.int .u8 0,.int .u8 0,.int .u8 0,.int .u8 0,.int .u8 0,.int .u8 0,.int .u8 0,.int .u8 0,.int .u8 0,.int .u8 0,.int .u8 0,.int .u8 0,.int .u8 0,.int .u8 0,.int .u8 0,.int .u8 0,.int .u8 0,.int .u8 0,.int .u8 0,.int .u8 0,.int .u8 0,.int .u8 0,.int .u8 0,.int .u8 0,.int .u8 0,.int .u8 0],true⟩),
 (295,⟨(.arr 32 5 1),32,32,true,[.int .u8 0,.int .u8 0,.int .u8 0,.int .u8 0,.int .u8 0,.int .u8 0,.int .u8 0,.int .u8 0,.int .u8 0,.int .u8 0,.int .u8 0,.int .u8 0,.int .u8 0,.int .u8 0,.int .u8 0,.int .u8 0,.int .u8 0,.int .u8 0,.int .u8 0,.int .u8 0,.int .u8 0,.int .u8 0,.int .u8 0,.int .u8 0,.int .u8 0,.int .u8 0,.int .u8 0,.int .u8 0,.int .u8 0,.int .u8 0,.int .u8 0,.int .u8 0],true⟩),
 (296,⟨(.arr 64 5 1),64,64,true,[.int .u8 0,.int .u8 0,.int .u8 0,.int .u8 0,.int .u8 0,.int .u8 0,.int .u8 0,.int .u8 0,.int .u8 0,.int .u8 0,.int .u8 0,.int .u8 0,.int .u8 0,.int .u8 0,.int .u8 0,.int .u8 0,.int .u8 0,.int .u8 0,.int .u8 0,.int .u8 0,.int .u8 0,.int .u8 0,.int .u8 0,.int .u8 0,.int .u8 0,.int .u8 0,.int .u8 0,.int .u8 0,.int .u8 0,.int .u8 0,.int .u8 0,.int .u8 0,.int .u8 0,.int .u8 0,.int .u8 0,.int .u8 0,.int .u8 0,.int .u8 0,.int .u8 0,.int .u8 0,.int .u8 0,.int .u8 0,.int .u8 0,.int .u8 0,.int .u8 0,.int .u8 0,.int .u8 0,.int .u8 0,.int .u8 0,.int .u8 0,.int .u8 0,.int .u8 0,.int .u8 0,.int .u8 0,.int .u8 0,.int .u8 0,.int .u8 0,.int .u8 0,.int .u8 0,.int .u8 0,.int .u8 0,.int .u8 0,.int .u8 0,.int .u8 0],true⟩),
 (302,⟨.other,1,8,false,[.ex .nilFunc],false⟩)]
def yS:An:={sym:=true}
def yF:An:={fr:=true}
def yN:An:={nw:=true}
def yM:An:={nw:=true,sym:=true}
def yG:An:={fr:=true,sym:=true}
def yO:An:={}
def zF11 (i:Nat) (l:List An) (z:List Nat):Nat × RA:=(i,⟨l,14,[14,27,44],z⟩)
def zF13 (i:Nat) (l:List An) (z:List Nat):Nat × RA:=(i,⟨l,185,[185,186,201],z⟩)
def zF14 (i:Nat) (l:List An) (z:List Nat):Nat × RA:=(i,⟨l,34,[34,39,105],z⟩)
def zF22 (i:Nat) (l:List An) (z:List Nat):Nat × RA:=(i,⟨l,23,[23,24,54],z⟩)
def zF25 (i:Nat) (l:List An) (z:List Nat):Nat × RA:=(i,⟨l,3,[3,8,18],z⟩)
def zF27 (i:Nat) (l:List An) (z:List Nat):Nat × RA:=(i,⟨l,9,[9,10,17],z⟩)
def zF28 (i:Nat) (l:List An) (z:List Nat):Nat × RA:=(i,⟨l,21,[21,22,23],z⟩)
def zF30 (i:Nat) (l:List An) (z:List Nat):Nat × RA:=(i,⟨l,39,[39,40,43],z⟩)
def zF31 (i:Nat) (l:List An) (z:List Nat):Nat × RA:=(i,⟨l,22,[26,27,28],z⟩)
def zF32 (i:Nat) (l:List An) (z:List Nat):Nat × RA:=(i,⟨l,11,[47,53,60],z⟩)
def zF39 (i:Nat) (l:List An) (z:List Nat):Nat × RA:=(i,⟨l,32,[32,62,70],z⟩)
def zF40 (i:Nat) (l:List An) (z:List Nat):Nat × RA:=(i,⟨l,7,[7,8,18],z⟩)
def zF41 (i:Nat) (l:List An) (z:List Nat):Nat × RA:=(i,⟨l,5,[5,6,14],z⟩)
def zF43 (i:Nat) (l:List An) (z:List Nat):Nat × RA:=(i,⟨l,7,[7,8,16],z⟩)
def zF44 (i:Nat) (l:List An) (z:List Nat):Nat × RA:=(i,⟨l,1,[2],z⟩)
def zF53 (i:Nat) (l:List An) (z:List Nat):Nat × RA:=(i,⟨l,50,[50,51,74],z⟩)
def zF54 (i:Nat) (l:List An) (z:List Nat):Nat × RA:=(i,⟨l,6,[10,14,25],z⟩)
def zF55 (i:Nat) (l:List An) (z:List Nat):Nat × RA:=(i,⟨l,1,[],z⟩)
def zF56 (i:Nat) (l:List An) (z:List Nat):Nat × RA:=(i,⟨l,7,[7,11,25],z⟩)
def zF58 (i:Nat) (l:List An) (z:List Nat):Nat × RA:=(i,⟨l,3,[3,4,21],z⟩)
def zF61 (i:Nat) (l:List An) (z:List Nat):Nat × RA:=(i,⟨l,8,[8,9,18],z⟩)
def zF65 (i:Nat) (l:List An) (z:List Nat):Nat × RA:=(i,⟨l,8,[8,9,29],z⟩)
def zF70 (i:Nat) (l:List An) (z:List Nat):Nat × RA:=(i,⟨l,45,[45,46,71],z⟩)
def zF76 (i:Nat) (l:List An) (z:List Nat):Nat × RA:=(i,⟨l,22,[22,23,47],z⟩)
def zF77 (i:Nat) (l:List An) (z:List Nat):Nat × RA:=(i,⟨l,43,[43,44,45],z⟩)
def zF78 (i:Nat) (l:List An) (z:List Nat):Nat × RA:=(i,⟨l,20,[20,62,75],z⟩)
def zF79 (i:Nat) (l:List An) (z:List Nat):Nat × RA:=(i,⟨l,6,[6,9,41],z⟩)
def zF80 (i:Nat) (l:List An) (z:List Nat):Nat × RA:=(i,⟨l,137,[147,166,174],z⟩)
def zF81 (i:Nat) (l:List An) (z:List Nat):Nat × RA:=(i,⟨l,6,[49,54,85],z⟩)
def zF82 (i:Nat) (l:List An) (z:List Nat):Nat × RA:=(i,⟨l,19,[19,20,21],z⟩)
def zF84 (i:Nat) (l:List An) (z:List Nat):Nat × RA:=(i,⟨l,7,[7,11,18],z⟩)
def zF85 (i:Nat) (l:List An) (z:List Nat):Nat × RA:=(i,⟨l,1,[],z⟩)
def zF86 (i:Nat) (l:List An) (z:List Nat):Nat × RA:=(i,⟨l,1,[],z⟩)
def zF87 (i:Nat) (l:List An) (z:List Nat):Nat × RA:=(i,⟨l,7,[7,8,12],z⟩)
def zF88 (i:Nat) (l:List An) (z:List Nat):Nat × RA:=(i,⟨l,22,[22,23,49],z⟩)
def zF89 (i:Nat) (l:List An) (z:List Nat):Nat × RA:=(i,⟨l,1,[1,2,6],z⟩)
def zF90 (i:Nat) (l:List An) (z:List Nat):Nat × RA:=(i,⟨l,20,[20,21,35],z⟩)
def zF91 (i:Nat) (l:List An) (z:List Nat):Nat × RA:=(i,⟨l,2,[4,5,13],z⟩)
def zF92 (i:Nat) (l:List An) (z:List Nat):Nat × RA:=(i,⟨l,1,[1,4,5],z⟩)
def zF93 (i:Nat) (l:List An) (z:List Nat):Nat × RA:=(i,⟨l,3,[3,7,14],z⟩)
def zF94 (i:Nat) (l:List An) (z:List Nat):Nat × RA:=(i,⟨l,1,[1,4,5],z⟩)
def zF95 (i:Nat) (l:List An) (z:List Nat):Nat × RA:=(i,⟨l,1,[1,2,6],z⟩)
def zF98 (i:Nat) (l:List An) (z:List Nat):Nat × RA:=(i,⟨l,1,[2],z⟩)
def zF99 (i:Nat) (l:List An) (z:List Nat):Nat × RA:=(i,⟨l,5,[6,7,8],z⟩)
def zF100 (i:Nat) (l:List An) (z:List Nat):Nat × RA:=(i,⟨l,12,[19,20,21],z⟩)
def zF101 (i:Nat) (l:List An) (z:List Nat):Nat × RA:=(i,⟨l,2,[2,3,4],z⟩)
def zF102 (i:Nat) (l:List An) (z:List Nat):Nat × RA:=(i,⟨l,1,[2],z⟩)
def zF103 (i:Nat) (l:List An) (z:List Nat):Nat × RA:=(i,⟨l,6,[6,7,8],z⟩)
def zF104 (i:Nat) (l:List An) (z:List Nat):Nat × RA:=(i,⟨l,1,[1,2],z⟩)
def zF105 (i:Nat) (l:List An) (z:List Nat):Nat × RA:=(i,⟨l,14,[14,15,16],z⟩)
def zF106 (i:Nat) (l:List An) (z:List Nat):Nat × RA:=(i,⟨l,1,[2],z⟩)
def zF107 (i:Nat) (l:List An) (z:List Nat):Nat × RA:=(i,⟨l,5,[5,19,24],z⟩)
def zF108 (i:Nat) (l:List An) (z:List Nat):Nat × RA:=(i,⟨l,8,[8,12,23],z⟩)
def zF109 (i:Nat) (l:List An) (z:List Nat):Nat × RA:=(i,⟨l,5,[18,23,51],z⟩)
def zF110 (i:Nat) (l:List An) (z:List Nat):Nat × RA:=(i,⟨l,9,[48,54,90],z⟩)
def zF112 (i:Nat) (l:List An) (z:List Nat):Nat × RA:=(i,⟨l,1,[1,2],z⟩)
def zF113 (i:Nat) (l:List An) (z:List Nat):Nat × RA:=(i,⟨l,2,[2,3,4],z⟩)
def zF114 (i:Nat) (l:List An) (z:List Nat):Nat × RA:=(i,⟨l,18,[23,30,45],z⟩)
def zF115 (i:Nat) (l:List An) (z:List Nat):Nat × RA:=(i,⟨l,1,[1,2],z⟩)
def zF116 (i:Nat) (l:List An) (z:List Nat):Nat × RA:=(i,⟨l,8,[31,34,51],z⟩)
def zF117 (i:Nat) (l:List An) (z:List Nat):Nat × RA:=(i,⟨l,10,[10,19,47],z⟩)
def zF118 (i:Nat) (l:List An) (z:List Nat):Nat × RA:=(i,⟨l,1,[2],z⟩)
def zF119 (i:Nat) (l:List An) (z:List Nat):Nat × RA:=(i,⟨l,9,[9,10,11],z⟩)
def zF120 (i:Nat) (l:List An) (z:List Nat):Nat × RA:=(i,⟨l,1,[1,3],z⟩)
def zF121 (i:Nat) (l:List An) (z:List Nat):Nat × RA:=(i,⟨l,7,[7,8,9],z⟩)
def zF122 (i:Nat) (l:List An) (z:List Nat):Nat × RA:=(i,⟨l,8,[8,9,43],z⟩)
def zF123 (i:Nat) (l:List An) (z:List Nat):Nat × RA:=(i,⟨l,1,[1,4],z⟩)
def zF124 (i:Nat) (l:List An) (z:List Nat):Nat × RA:=(i,⟨l,1,[1,3,4],z⟩)
def zF125 (i:Nat) (l:List An) (z:List Nat):Nat × RA:=(i,⟨l,57,[57,58,82],z⟩)
def zF126 (i:Nat) (l:List An) (z:List Nat):Nat × RA:=(i,⟨l,19,[19,20,27],z⟩)
def zF127 (i:Nat) (l:List An) (z:List Nat):Nat × RA:=(i,⟨l,7,[7,8,17],z⟩)
def zF128 (i:Nat) (l:List An) (z:List Nat):Nat × RA:=(i,⟨l,1,[2],z⟩)
def zF129 (i:Nat) (l:List An) (z:List Nat):Nat × RA:=(i,⟨l,7,[9,17,27],z⟩)
def zF130 (i:Nat) (l:List An) (z:List Nat):Nat × RA:=(i,⟨l,2,[2,3,4],z⟩)
def zF134 (i:Nat) (l:List An) (z:List Nat):Nat × RA:=(i,⟨l,1,[1,2],z⟩)
def zF135 (i:Nat) (l:List An) (z:List Nat):Nat × RA:=(i,⟨l,1,[1,4],z⟩)
def zF136 (i:Nat) (l:List An) (z:List Nat):Nat × RA:=(i,⟨l,1,[1,2],z⟩)
def zF137 (i:Nat) (l:List An) (z:List Nat):Nat × RA:=(i,⟨l,1,[1,4,5],z⟩)
def zF138 (i:Nat) (l:List An) (z:List Nat):Nat × RA:=(i,⟨l,1,[1,4],z⟩)
def zF139 (i:Nat) (l:List An) (z:List Nat):Nat × RA:=(i,⟨l,1,[2,3,18],z⟩)
def zF140 (i:Nat) (l:List An) (z:List Nat):Nat × RA:=(i,⟨l,2,[4,5,9],z⟩)
def zF141 (i:Nat) (l:List An) (z:List Nat):Nat × RA:=(i,⟨l,6,[22,26,38],z⟩)
def zF142 (i:Nat) (l:List An) (z:List Nat):Nat × RA:=(i,⟨l,2,[2,3,8],z⟩)
def zF144 (i:Nat) (l:List An) (z:List Nat):Nat × RA:=(i,⟨l,5,[6,12,24],z⟩)
def zF145 (i:Nat) (l:List An) (z:List Nat):Nat × RA:=(i,⟨l,3,[6,7,8],z⟩)
def zF146 (i:Nat) (l:List An) (z:List Nat):Nat × RA:=(i,⟨l,4,[4,7,15],z⟩)
def zF147 (i:Nat) (l:List An) (z:List Nat):Nat × RA:=(i,⟨l,4,[4,7,15],z⟩)
def zF148 (i:Nat) (l:List An) (z:List Nat):Nat × RA:=(i,⟨l,6,[13,17,67],z⟩)
def zF149 (i:Nat) (l:List An) (z:List Nat):Nat × RA:=(i,⟨l,8,[8,9,16],z⟩)
def zF150 (i:Nat) (l:List An) (z:List Nat):Nat × RA:=(i,⟨l,1,[1,2,3],z⟩)
def zF151 (i:Nat) (l:List An) (z:List Nat):Nat × RA:=(i,⟨l,1,[1,2,6],z⟩)
def zF152 (i:Nat) (l:List An) (z:List Nat):Nat × RA:=(i,⟨l,9,[9,10,11],z⟩)
def zF153 (i:Nat) (l:List An) (z:List Nat):Nat × RA:=(i,⟨l,1,[1,3],z⟩)
def zF154 (i:Nat) (l:List An) (z:List Nat):Nat × RA:=(i,⟨l,9,[9,10,11],z⟩)
def zF155 (i:Nat) (l:List An) (z:List Nat):Nat × RA:=(i,⟨l,2,[2,3,4],z⟩)
def zF156 (i:Nat) (l:List An) (z:List Nat):Nat × RA:=(i,⟨l,1,[1,3,4],z⟩)
def zF157 (i:Nat) (l:List An) (z:List Nat):Nat × RA:=(i,⟨l,9,[9,10,11],z⟩)
def zF158 (i:Nat) (l:List An) (z:List Nat):Nat × RA:=(i,⟨l,1,[1,2],z⟩)
def zF159 (i:Nat) (l:List An) (z:List Nat):Nat × RA:=(i,⟨l,13,[13,16,19],z⟩)
def zF161 (i:Nat) (l:List An) (z:List Nat):Nat × RA:=(i,⟨l,64,[64,65,66],z⟩)
def zF162 (i:Nat) (l:List An) (z:List Nat):Nat × RA:=(i,⟨l,9,[9,10,11],z⟩)
def zF163 (i:Nat) (l:List An) (z:List Nat):Nat × RA:=(i,⟨l,1,[2],z⟩)
def zF164 (i:Nat) (l:List An) (z:List Nat):Nat × RA:=(i,⟨l,5,[7,11,24],z⟩)
def zF165 (i:Nat) (l:List An) (z:List Nat):Nat × RA:=(i,⟨l,1,[1,4],z⟩)
def zF166 (i:Nat) (l:List An) (z:List Nat):Nat × RA:=(i,⟨l,2,[4,5,9],z⟩)
def zF167 (i:Nat) (l:List An) (z:List Nat):Nat × RA:=(i,⟨l,16,[20,36,41],z⟩)
def zF168 (i:Nat) (l:List An) (z:List Nat):Nat × RA:=(i,⟨l,5,[6,9,25],z⟩)
def zF169 (i:Nat) (l:List An) (z:List Nat):Nat × RA:=(i,⟨l,1,[1,4,5],z⟩)
def zF170 (i:Nat) (l:List An) (z:List Nat):Nat × RA:=(i,⟨l,8,[8,9,16],z⟩)
def zF171 (i:Nat) (l:List An) (z:List Nat):Nat × RA:=(i,⟨l,1,[1,2,3],z⟩)
def zF172 (i:Nat) (l:List An) (z:List Nat):Nat × RA:=(i,⟨l,1,[2],z⟩)
def zF173 (i:Nat) (l:List An) (z:List Nat):Nat × RA:=(i,⟨l,1,[1,7,21],z⟩)
def zF174 (i:Nat) (l:List An) (z:List Nat):Nat × RA:=(i,⟨l,1,[1,4,5],z⟩)
def zF175 (i:Nat) (l:List An) (z:List Nat):Nat × RA:=(i,⟨l,1,[2],z⟩)
def zF176 (i:Nat) (l:List An) (z:List Nat):Nat × RA:=(i,⟨l,1,[2],z⟩)
def zF177 (i:Nat) (l:List An) (z:List Nat):Nat × RA:=(i,⟨l,1,[1,4],z⟩)
def zF178 (i:Nat) (l:List An) (z:List Nat):Nat × RA:=(i,⟨l,1,[1,4],z⟩)
def zF179 (i:Nat) (l:List An) (z:List Nat):Nat × RA:=(i,⟨l,10,[18,25,43],z⟩)
def zF180 (i:Nat) (l:List An) (z:List Nat):Nat × RA:=(i,⟨l,7,[9,15,24],z⟩)
def zF181 (i:Nat) (l:List An) (z:List Nat):Nat × RA:=(i,⟨l,1,[1,4],z⟩)
def zF182 (i:Nat) (l:List An) (z:List Nat):Nat × RA:=(i,⟨l,1,[6,19],z⟩)
def zF183 (i:Nat) (l:List An) (z:List Nat):Nat × RA:=(i,⟨l,1,[1,4],z⟩)
def zF184 (i:Nat) (l:List An) (z:List Nat):Nat × RA:=(i,⟨l,12,[17,23,34],z⟩)
def zF186 (i:Nat) (l:List An) (z:List Nat):Nat × RA:=(i,⟨l,1,[2,4,6],z⟩)
def zF187 (i:Nat) (l:List An) (z:List Nat):Nat × RA:=(i,⟨l,1,[2,3,10],z⟩)
def zF189 (i:Nat) (l:List An) (z:List Nat):Nat × RA:=(i,⟨l,108,[114,132,139],z⟩)
def zF192 (i:Nat) (l:List An) (z:List Nat):Nat × RA:=(i,⟨l,1,[2,4],z⟩)
def zF193 (i:Nat) (l:List An) (z:List Nat):Nat × RA:=(i,⟨l,1,[2,3],z⟩)
def zF194 (i:Nat) (l:List An) (z:List Nat):Nat × RA:=(i,⟨l,21,[99,139,161],z⟩)
def zF195 (i:Nat) (l:List An) (z:List Nat):Nat × RA:=(i,⟨l,47,[68,89,94],z⟩)
def zF196 (i:Nat) (l:List An) (z:List Nat):Nat × RA:=(i,⟨l,60,[75,77,98],z⟩)
def zF198 (i:Nat) (l:List An) (z:List Nat):Nat × RA:=(i,⟨l,1,[2],z⟩)
def zF199 (i:Nat) (l:List An) (z:List Nat):Nat × RA:=(i,⟨l,21,[39,44,77],z⟩)
def zF200 (i:Nat) (l:List An) (z:List Nat):Nat × RA:=(i,⟨l,1,[2],z⟩)
def zF201 (i:Nat) (l:List An) (z:List Nat):Nat × RA:=(i,⟨l,3,[4,8,14],z⟩)
def zF202 (i:Nat) (l:List An) (z:List Nat):Nat × RA:=(i,⟨l,1,[2,3],z⟩)
def zF203 (i:Nat) (l:List An) (z:List Nat):Nat × RA:=(i,⟨l,1,[2],z⟩)
def zF204 (i:Nat) (l:List An) (z:List Nat):Nat × RA:=(i,⟨l,1,[2],z⟩)
def zF205 (i:Nat) (l:List An) (z:List Nat):Nat × RA:=(i,⟨l,9,[12,25,30],z⟩)
def zF206 (i:Nat) (l:List An) (z:List Nat):Nat × RA:=(i,⟨l,1,[2,4],z⟩)
def zF207 (i:Nat) (l:List An) (z:List Nat):Nat × RA:=(i,⟨l,1,[2,4],z⟩)
def zF223 (i:Nat) (l:List An) (z:List Nat):Nat × RA:=(i,⟨l,33,[33,34,47],z⟩)
def zF226 (i:Nat) (l:List An) (z:List Nat):Nat × RA:=(i,⟨l,1,[1],z⟩)
def zF228 (i:Nat) (l:List An) (z:List Nat):Nat × RA:=(i,⟨l,5,[11,12,13],z⟩)
def zF229 (i:Nat) (l:List An) (z:List Nat):Nat × RA:=(i,⟨l,2,[4,5,6],z⟩)
def zF231 (i:Nat) (l:List An) (z:List Nat):Nat × RA:=(i,⟨l,1,[1,4],z⟩)
def F0:FT:=[
 (11,[zF11 0 [yF] [],zF11 1 [yO,yO,yO,yO,yS,yS,yS,yS,yS,yS,yS,yS] [],zF11 2 [] [],zF11 3 [] [],zF11 4 [] [7],zF11 5 [] [],zF11 6 [] [],zF11 7 [] [],zF11 8 [] [],zF11 9 [] [12],zF11 10 [yO,yO,yO,yO,yS,yS,yS,yO,yO,yS,yS,yS,yS,yO,yO,yS,yS,yS,yO,yO,yS,yS,yS,yO,yO,yS] []]),
 (13,[zF13 0 [] [],zF13 1 [] [1],zF13 2 [] [],zF13 3 [] [],zF13 4 [] [],zF13 5 [] [8],zF13 6 [] [],zF13 7 [] [],zF13 8 [] [],zF13 9 [] [17],zF13 10 [] [],zF13 11 [] [],zF13 12 [] [],zF13 13 [yO,yO,yN,yO,yN,yO,yN,yO,yN,yO,yN,yO,yN,yO,yN,yO,yN,yO,yN,yO,yO,yS,yS,yO,yO,yS,yS,yO,yO,yS,yS,yO,yO,yS,yS,yO,yO,yS,yS,yS,yS,yS,yO,yO,yS,yS,yO,yO,yS,yS,yO,yO,yS,yS,yO,yO,yS,yS,yO,yO,yS,yS,yS,yO,yO,yS,yG,yS,yS,yO,yO,yS,yS,yS] [],zF13 14 [] [],zF13 15 [] [],zF13 16 [] [],zF13 17 [] [26],zF13 18 [] [],zF13 19 [yO,yO,yO,yS,yS,yS] [],zF13 20 [] [],zF13 21 [yN] [],zF13 22 [yO,yO,yF] [],zF13 23 [yO,yO,yO,yF] [],zF13 24 [yO,yO,yO,yO,yF] [],zF13 25 [yO,yF] [],zF13 26 [yO,yF] [],zF13 27 [] [],zF13 28 [] [39],zF13 29 [yO,yO,yN,yO,yN,yO,yN,yO,yO,yS,yS,yO,yO,yS,yS,yS,yO,yO,yS,yS,yS,yS,yS,yO,yO,yS,yS,yS,yS,yS,yS,yO,yO,yS,yS,yS,yS,yS,yS,yO,yO,yS,yS,yO,yO,yS,yS,yO,yO,yS,yS] []]),
 (14,[zF14 0 [] [],zF14 1 [yO,yO,yO,yO,yO,yO,yO,yO,yF] [],zF14 2 [] [],zF14 3 [] [],zF14 4 [] [],zF14 5 [] [],zF14 6 [] [],zF14 7 [] [],zF14 8 [] [14],zF14 9 [] [],zF14 10 [yO,yO,yO,yO,yN,yO,yO,yO,yN,yO,yO,yO,yO,yN,yO,yO,yO,yN] [15],zF14 11 [yO,yO,yO,yO,yO,yN,yO,yO,yO,yO,yO,yN,yO,yN,yN] [],zF14 12 [] [16],zF14 13 [yO,yO,yO,yN,yO,yO,yN,yO,yO,yO,yO,yO,yO,yO,yO,yO,yO,yF] [],zF14 14 [yN] [],zF14 15 [yO,yO,yO,yO,yO,yF] [],zF14 16 [] [],zF14 17 [] [],zF14 18 [] []]),
 (22,[zF22 0 [] [],zF22 1 [yO,yO,yO,yO,yO,yO,yO,yO,yF] [],zF22 2 [] [],zF22 3 [] [],zF22 4 [] [],zF22 5 [] [],zF22 6 [] [],zF22 7 [] [6],zF22 8 [yO,yO,yO,yO,yO,yO,yO,yO,yO,yO,yO,yO,yO,yO,yS,yS,yS,yS,yS,yS,yS,yO,yO,yF] [],zF22 9 [] [],zF22 10 [] [],zF22 11 [] [],zF22 12 [yN] [],zF22 13 [] []]),
 (25,[zF25 0 [yF] [],zF25 1 [] [],zF25 2 [] [],zF25 4 [] [],zF25 5 [] [],zF25 3 [yO,yN] [],zF25 6 [yO,yO,yO,yO,yO,yS,yS,yS,yS,yO,yO,yS,yS,yS,yS,yO,yO,yS,yS,yS,yS] []]),
 (27,[zF27 0 [yF,yF,yF] [],zF27 1 [] [],zF27 2 [] [],zF27 3 [] [],zF27 4 [] []]),
 (28,[zF28 0 [] [],zF28 1 [] [],zF28 2 [] [],zF28 3 [] [],zF28 4 [] [],zF28 5 [] [5],zF28 6 [yO,yO,yO,yF,{fz:=true}] [],zF28 7 [yN] [],zF28 8 [] []]),
 (30,[zF30 0 [yF,yF,yF] [],zF30 1 [] [],zF30 2 [] [],zF30 3 [] [],zF30 4 [] [12],zF30 5 [] [],zF30 6 [] [],zF30 7 [] [],zF30 8 [] [],zF30 9 [] [],zF30 10 [] [],zF30 11 [] [],zF30 12 [] [],zF30 13 [] []]),
 (31,[zF31 0 [yF,yF] [],zF31 1 [yO,yO,yO,yO,yO,yO,yF] [],zF31 2 [] [],zF31 3 [] [],zF31 4 [] [],zF31 5 [yO,yO,yN] [],zF31 6 [] [],zF31 7 [] [],zF31 8 [yO,yO,yO,yO,yO,yO,yO,yN] [11],zF31 9 [yO,yO,yO,yO,yN,yO,yO,yO,yO,yN] [],zF31 10 [yN] [],zF31 11 [] []]),
 (32,[zF32 0 [yF] [],zF32 1 [] [],zF32 2 [] [],zF32 3 [] [],zF32 5 [yO,yO,yO,yO,yO,yF] [],zF32 4 [yO,yN] [],zF32 6 [yO,yO,yO,yO,yO,yO,yO,yO,yO,yO,yO,yO,yO,yO,yO,yO,yO,yO,yO,yO,yO,yO,yO,yO,yF] [],zF32 7 [] [],zF32 8 [] [],zF32 9 [] [],zF32 10 [] [],zF32 12 [] [],zF32 13 [] [],zF32 14 [] [],zF32 11 [yO,yN] [],zF32 15 [] []]),
 (39,[zF39 0 [] [],zF39 1 [yO,yO,yO,yO,yF] [],zF39 2 [] [],zF39 3 [] [],zF39 4 [] [],zF39 5 [] [],zF39 6 [] [],zF39 7 [] [],zF39 8 [] [9],zF39 9 [yO,yO,yO,yN] [10],zF39 10 [yO,yO,yO,yO,yO,yO,yO,yO,yO,yO,yO,yN,yN] [11],zF39 11 [yO,yO,yO,yO,yN,yO,yO,yN] [],zF39 12 [yO,yO,yF] [],zF39 13 [yN] [],zF39 14 [] [],zF39 15 [] [],zF39 16 [] []]),
 (40,[zF40 0 [yF] [],zF40 1 [yO,yO,yO,yO,yO,yO,yF] [],zF40 2 [] [],zF40 3 [] [],zF40 4 [] []]),
 (41,[zF41 0 [yF,yF] [],zF41 1 [yO,yO,yO,yO,yF] [],zF41 2 [] [],zF41 3 [] [],zF41 4 [] []]),
 (43,[zF43 0 [yF,yF] [],zF43 1 [yO,yO,yO,yO,yF] [],zF43 2 [] [],zF43 3 [] [],zF43 4 [yO,yO,yO,yF] [],zF43 5 [yO,yO,yO,yN] [],zF43 6 [yO,yO,yO,yO,yN] [],zF43 7 [] []]),
 (44,[zF44 0 [] [],zF44 1 [] []]),
 (53,[zF53 0 [yF] [],zF53 1 [yO,yO,yO,yO,yO,yO,yO,yO,yO,yO,yO,yO,yO,yO,yO,yO,yO,yF] [],zF53 2 [] [],zF53 3 [] [],zF53 4 [yO,yO,yO,yO,yO,yO,yO,yO,yO,yO,yO,yO,yO,yF] [],zF53 5 [] [],zF53 6 [] [],zF53 7 [] [],zF53 8 [] [],zF53 9 [] [],zF53 10 [yO,yO,yO,yS,yS,yO,yO,yS,yS,yS,yS,yS,yS,yS,yM,yS,yS,yS,yS] [],zF53 11 [] [],zF53 12 [yN] [],zF53 13 [] []]),
 (54,[zF54 0 [] [],zF54 1 [] [],zF54 2 [] [],zF54 3 [] [],zF54 4 [] [],zF54 6 [] [],zF54 7 [] [],zF54 5 [yO,yN] [],zF54 8 [] []]),
 (55,[zF55 0 [] [],zF55 1 [] []]),
 (56,[zF56 0 [] [],zF56 1 [] [],zF56 2 [] [],zF56 3 [] [],zF56 4 [] [7],zF56 5 [yO,yO,yO,yO,yO,yS,yS,yS,yS] [],zF56 6 [] [],zF56 7 [] []]),
 (58,[zF58 0 [yF] [],zF58 1 [] [],zF58 2 [yO,yO,yO,{fz:=true},yO,yO,yO,{fz:=true}] [],zF58 3 [] [],zF58 4 [] [],zF58 6 [yO,yO,yO,yO,yO,yO,yO,yO,yO,yO,yO,yO,yO,yO,yO,{fz:=true},yO,yF,{fz:=true}] [],zF58 5 [yO,yN] [],zF58 7 [] []]),
 (61,[zF61 0 [yF] [],zF61 1 [] [],zF61 2 [] [],zF61 3 [] [],zF61 4 [] []]),
 (65,[zF65 0 [yF] [],zF65 1 [] [],zF65 2 [yO,yO,yO,yO,yS,yS,yS,yO,yO,yF] [],zF65 3 [] [],zF65 4 [] [],zF65 5 [] []]),
 (70,[zF70 0 [] [],zF70 1 [] [],zF70 2 [] [],zF70 3 [] [],zF70 4 [] [],zF70 5 [] [],zF70 6 [] [8],zF70 7 [yO,yO,yO,yO,yO,yO,yO,yF] [],zF70 8 [] [],zF70 9 [] [],zF70 10 [] [],zF70 11 [yN] [],zF70 12 [] [],zF70 13 [] [],zF70 14 [] [],zF70 15 [] [],zF70 16 [] [11],zF70 17 [yO,yO,yO,yO,yO,yO,yO,yO,yO,yO,yO,yO,yO,yO,yO,yO,yO,yO,yO,yF] [],zF70 18 [] [],zF70 19 [] [],zF70 20 [] [],zF70 21 [yN] [],zF70 22 [] []]),
 (76,[zF76 0 [] [],zF76 1 [yO,yO,yO,yO,yO,yO,yO,yO,yF] [],zF76 2 [] [],zF76 3 [] [],zF76 4 [] [],zF76 5 [] [],zF76 6 [] [5],zF76 7 [yO,yO,yO,yO,yO,yS,yS,yS,yS,yM,yS,yS,yS,yS,yS,yO,yO,yF] [],zF76 8 [] [],zF76 9 [] [],zF76 10 [yN] [],zF76 11 [yO,yO,yO,yN,yO,yO,yO,yO,yO,yO,yO,yN] []]),
 (77,[zF77 0 [yF] [],zF77 1 [] [],zF77 2 [] [],zF77 3 [] [],zF77 4 [yO,yO,yN,yO,yO,yN,yO,yO,yF,yO,yO,yO,yO,yO,yO,yN,yO,yO,yO,yO,yO,yN,yO,yO,yO,yO,yO,yN] [],zF77 5 [] [],zF77 6 [] [],zF77 7 [] [7],zF77 8 [yO,yO,yO,yO,yO,yO,yO,yO,{fz:=true},yO,yN] [],zF77 9 [yN] [],zF77 10 [] []]),
 (78,[zF78 0 [] [],zF78 1 [] [],zF78 2 [] [],zF78 3 [] [],zF78 4 [] [],zF78 5 [] [],zF78 6 [] [],zF78 7 [] [],zF78 8 [] [],zF78 9 [] [],zF78 10 [] [],zF78 11 [] [],zF78 12 [yO,yO,yO,yS,yS,yS,yS,yS,yO,yO,yS,yS,yS,yS,yO,yO,yS,yS,yS,yS,yS,yS] [],zF78 13 [] [],zF78 14 [yO,yN] [],zF78 15 [yO,yO,yO,yO,yO,yF] [],zF78 16 [] [],zF78 17 [] [],zF78 18 [] []]),
 (79,[zF79 0 [yF] [],zF79 1 [] [],zF79 2 [] [],zF79 3 [] [],zF79 5 [yO,yO,yO,yO,yO,yF] [],zF79 4 [yO,yN] [],zF79 6 [yO,yO,yN,yO,yO,yF,yO,yO,yO,yO,yN,yO,yO,yN,yO,yO,yO,yN] [],zF79 7 [] [],zF79 8 [] [],zF79 10 [yO,yO,yO,yO,yO,yO,yO,yO,yO,yO,yO,yO,yO,yO,{fz:=true},yO,yN] [],zF79 9 [yO,yN] [],zF79 11 [] []]),
 (80,[zF80 0 [] [],zF80 1 [] [],zF80 2 [] [],zF80 3 [] [],zF80 4 [] [],zF80 5 [yF] [],zF80 6 [] [],zF80 7 [] [],zF80 9 [yO,yO,yO,yN] [],zF80 10 [] [],zF80 11 [] [],zF80 12 [] [],zF80 13 [] [],zF80 14 [] [],zF80 15 [] [],zF80 16 [] [],zF80 17 [] [],zF80 18 [] [],zF80 19 [yO,yO,yS,yS,yS,yO,yO,yS,yS,yS,yS] [],zF80 20 [] [],zF80 21 [yO,yO,yS,yS,yS] [],zF80 22 [] [],zF80 23 [yO,yO,yS,yS,yS] [],zF80 24 [] [],zF80 25 [] [],zF80 26 [] [],zF80 28 [] [],zF80 29 [yO,yO,yS] [],zF80 30 [yO,yO,yF] [],zF80 27 [yO,yN] [],zF80 31 [] [],zF80 32 [] [],zF80 33 [] [],zF80 34 [] [],zF80 35 [] [],zF80 36 [] [],zF80 37 [] [],zF80 38 [] [],zF80 39 [] [],zF80 41 [] [],zF80 40 [yO,yN] [],zF80 42 [] [],zF80 43 [] [],zF80 44 [yO,yO,yO,yO,yO,yO,yO,yO,yF,{fz:=true}] [],zF80 8 [yO,yN] [],zF80 45 [yO,yO,yN] [],zF80 46 [yO,yO,yO,yN] [],zF80 47 [] [],zF80 48 [] [],zF80 49 [yO,yO,yO,yN] [],zF80 50 [] []]),
 (81,[zF81 0 [yF,yF] [],zF81 1 [yO,yO,yO,yO,yO,yO,yS,yS,yS,yS,yS,yS,yO,yO,yS,yS,yS,yS,yS,yO,yO,yS,yS,yS,yS,yS,yO,yO,yS,yS,yS,yS,yS,yS,yO,yO,yS,yS,yS,yS,yS,yS,yS] [],zF81 2 [] [],zF81 3 [] [],zF81 4 [] [],zF81 6 [yO,yO,yO,yO,yO,yO,yO,yO,yO,yO,yO,yO,yO,yO,yS,yS,yS,yS,yS,yS,yS,yS,yS,yS,yS,yS,yS,yS] [],zF81 7 [] [],zF81 5 [yO,yN] [],zF81 8 [] []]),
 (82,[zF82 0 [yF] [],zF82 1 [] [],zF82 2 [] [],zF82 3 [] [],zF82 4 [] [5],zF82 5 [yO,yO,yO,yF,{fz:=true}] [],zF82 6 [yN] [],zF82 7 [] []]),
 (84,[zF84 0 [] [],zF84 1 [] [],zF84 2 [] [],zF84 3 [] [],zF84 4 [] [],zF84 6 [] [],zF84 7 [yO,yO,yO,yO,yO,yF] [],zF84 8 [yO,yN] [],zF84 5 [yO,yN] [],zF84 9 [yO,yO,yO,yO,yF,{fz:=true}] []]),
 (85,[zF85 0 [] [],zF85 1 [yF,yO,yF,yF,yO,yF,yO,yF] []]),
 (86,[zF86 0 [] [],zF86 1 [yO,yO,yO,yF] []]),
 (87,[zF87 0 [] [],zF87 1 [] [],zF87 2 [] [],zF87 3 [] [],zF87 4 [] [],zF87 5 [] [],zF87 6 [yN] [],zF87 7 [] []]),
 (88,[zF88 0 [] [],zF88 1 [yO,yO,yO,yO,yO,yO,yO,yO,yF] [],zF88 2 [] [],zF88 3 [] [],zF88 4 [] [],zF88 5 [] [],zF88 6 [] [5],zF88 7 [yO,yO,yO,yO,yO,yO,yO,yO,yO,yS,yS,yS,yM,yS,yS,yS,yS,yO,yO,yF] [],zF88 8 [] [],zF88 9 [] [],zF88 10 [yN] [],zF88 11 [] []]),
 (89,[zF89 0 [] [],zF89 1 [yO,yO,yO,yO,yS,yS,yS] []]),
 (90,[zF90 0 [] [],zF90 1 [yO,yO,yO,yN] [],zF90 2 [yO,yO,yN] [],zF90 3 [] [],zF90 4 [] [],zF90 5 [yO,yO,yO,yO,yO,yO,yN] [7,8],zF90 6 [] [],zF90 7 [yO,yO,yO,yN,yO,yO,yO,yO,yN] [],zF90 8 [] [],zF90 9 [yN] [],zF90 10 [] []]),
 (91,[zF91 0 [] [],zF91 1 [yO,yO,yN] [],zF91 2 [yO,yO,yN] [],zF91 3 [yO,yN] [],zF91 4 [] []]),
 (92,[zF92 0 [] [],zF92 1 [] [],zF92 2 [] [],zF92 3 [] []]),
 (93,[zF93 0 [] [],zF93 1 [] [],zF93 2 [] [],zF93 4 [] [],zF93 5 [] [],zF93 3 [yO,yN] [],zF93 6 [] []]),
 (94,[zF94 0 [] [],zF94 1 [] [],zF94 2 [] [],zF94 3 [] []]),
 (95,[zF95 0 [] [],zF95 1 [yO,yO,yO,yO,yS,yS,yS] []]),
 (98,[zF98 0 [] [],zF98 1 [] []]),
 (99,[zF99 0 [yF,yF,yF] [],zF99 1 [yO,yO,yO,yO,yO,yO,yO,yO,yS,yS,yS,yS,yS,yO,yO,yS,yS,yS,yO,yO,yO,yO,yF] []]),
 (100,[zF100 0 [yF,yF,yF] [],zF100 1 [] [],zF100 2 [] [],zF100 3 [] [],zF100 4 [yO,yO,yN] [],zF100 5 [] []]),
 (101,[zF101 0 [yF,yF] [],zF101 1 [] []]),
 (102,[zF102 0 [] [],zF102 1 [yO,yO,yO,yO,yO,yO,yO,yN] []]),
 (103,[zF103 0 [yF,yF,yF,yF] [],zF103 1 [] []]),
 (104,[zF104 0 [yF] [],zF104 1 [yO,yO,yO,yO,yO,yO,yO,yO,yO,yF] []]),
 (105,[zF105 0 [yF,yF,yF,yF] [],zF105 1 [] [9,10,11],zF105 2 [yO,yO,yO,yO,yN] [],zF105 3 [yO,yO,yO,yO,yN,yO,yO,yO,yO,yN,yN,yO,yO,yO,yO,yN,yN,yO,yO,yO,yO,yN,yO,yO,yO,yO,yN,yN,yO,yO,yO,yO,yN,yN] [],zF105 4 [yO,yO,yO,yO,yO,yO,yO,yO,yO,yO,yO,yN,yO,yO,yN,yN] [],zF105 5 [yO,yO,yO,yO,yO,yO,yO,yO,yO,yN,yO,yO,yO,yN] [],zF105 6 [yO,yO,yN,yO,yN,yO,yN] []]),
 (106,[zF106 0 [] [],zF106 1 [] []]),
 (107,[zF107 0 [] [],zF107 1 [yO,yO,yO,yO,yO,yO,yO,yO,yO,yO,yF] [],zF107 2 [] [],zF107 3 [] [],zF107 4 [] [],zF107 5 [] [],zF107 6 [] [],zF107 8 [yO,yO,yO,yO,yO,yN] [],zF107 7 [yO,yN] [],zF107 9 [] []]),
 (108,[zF108 0 [] [],zF108 1 [] [],zF108 2 [] [],zF108 4 [] [],zF108 5 [] [],zF108 6 [] [],zF108 3 [yO,yN] [],zF108 7 [] []]),
 (109,[zF109 0 [] [],zF109 1 [yO,yO,yO,yO,yO,yO,yO,yO,yO,yO,yF] [],zF109 2 [] [],zF109 3 [] [],zF109 4 [] [],zF109 5 [] [],zF109 7 [yO,yO,yO,yS,yS,yS,yS,yS,yO,yO,yS,yS,yS,yS,yS,yS,yS,yS,yS,yM,yS,yS,yS,yS,yS] [],zF109 8 [] [],zF109 6 [yO,yN] [],zF109 9 [] []]),
 (110,[zF110 0 [yF] [],zF110 1 [yO,yO,yO,yO,yO,yO,yO,yO,yN] [5,6],zF110 2 [yO,yO,yO,yO,yO,yO,yS,yS,yS,yS,yS,yO,yO,yO,yO,yO,yO,yO,yO,yO,yO,yO,yO,yO,yF] [],zF110 3 [] [],zF110 4 [] [],zF110 5 [] [],zF110 6 [] [],zF110 8 [yO,yO,yO,yS,yS,yS,yS,yS,yS,yS,yS,yM,yS,yS,yS,yS,yO,yO,yS,yS,yS,yS,yS,yS,yS,yS,yS,yS,yS,yS,yS,yS,yS] [],zF110 9 [] [],zF110 7 [yO,yN] [],zF110 10 [] []]),
 (112,[zF112 0 [yF] [],zF112 1 [yO,yO,yO,yO,yN,yO,yO,yO,yO,yN,yN,yO,yO,yO,yO,yN] []]),
 (113,[zF113 0 [yF,yF] [],zF113 1 [yO,yO,yO,yO,yN,yO,yO,yO,yO,yN,yO,yO,yO,yO,yN] []]),
 (114,[zF114 0 [yF,yF] [],zF114 1 [] [],zF114 2 [] [],zF114 3 [] [],zF114 4 [] [],zF114 5 [] [],zF114 6 [] [],zF114 7 [yN] [],zF114 8 [] [],zF114 9 [] [],zF114 10 [yO,yO,yO,yO,yO,yN] [],zF114 11 [yO,yO,yO,yS,yS,yS,yS,yS,yS,yS,yS] [],zF114 12 [] [],zF114 13 [yO,yO,yO,yN] [11,12],zF114 14 [yO,yO,yO,yO,yO,yO,yO,yO,yO,yO,yO,yO,yO,yN,yO,yO,yO,yO,yN] []]),
 (115,[zF115 0 [yF] [],zF115 1 [yO,yO,yO,yO,yO,yO,yF] []]),
 (116,[zF116 0 [yF,yF] [],zF116 1 [yO,yO,yO,yO,yN,yO,yO,yO,yO,yN,yN,yO,yO,yO,yO,yN,yO,yO,yO,yO,yN,yN] [],zF116 2 [] [],zF116 3 [] [],zF116 5 [yO,yO,yO,yO,yS,yS,yO,yO,yS,yS,yS,yS,yS,yS] [],zF116 6 [] [],zF116 7 [yO,yO,yO,yO,yS,yS] [],zF116 8 [yO,yN] [],zF116 9 [yO,yO,yN] [],zF116 4 [yO,yN] [],zF116 10 [] []]),
 (117,[zF117 0 [yF,yF,yF] [],zF117 1 [] [7],zF117 2 [] [8],zF117 3 [] [],zF117 4 [] [],zF117 5 [] [],zF117 6 [yO,yO,yO,yO,yO,yO,yO,yN,yO,yO,yO,yO,yO,yN] [],zF117 7 [yO,yO,yN] [],zF117 8 [yO,yO,yO,yN,yN] [],zF117 9 [yO,yN] []]),
 (118,[zF118 0 [] [],zF118 1 [] []]),
 (119,[zF119 0 [] [],zF119 1 [] [],zF119 2 [] [],zF119 3 [] [],zF119 4 [] [],zF119 5 [yO,yO,yO,yO,yF] [],zF119 6 [yN] [],zF119 7 [] []]),
 (120,[zF120 0 [] [],zF120 1 [yO,yN,yO,yN,yO,yO,yO,yN,yN,yN] []]),
 (121,[zF121 0 [] [],zF121 1 [] [],zF121 2 [] [],zF121 3 [] [],zF121 4 [] [],zF121 5 [yO,yO,yN] [],zF121 6 [yN] [],zF121 7 [] []]),
 (122,[zF122 0 [] [],zF122 1 [] [],zF122 2 [] [],zF122 3 [] [],zF122 4 [yO,yO,yO,yS,yS,yO,yO,yS,yS,yS,yS,yS,yS] [],zF122 5 [yO,yO,yO,yS,yS,yS,yS,yS,yS,yS,yS,yS,yS,yS,yS,yS,yS] [],zF122 6 [] [],zF122 7 [yO,yO,yO,yS,yS,yS] []]),
 (123,[zF123 0 [] [],zF123 1 [yO,yO,yO,yO,yO,yO,yO,yF] []]),
 (124,[zF124 0 [yF] [],zF124 1 [] []]),
 (125,[zF125 0 [yF] [],zF125 1 [] [],zF125 2 [] [],zF125 3 [] [],zF125 4 [yO,yO,yO,yF] [],zF125 5 [] [],zF125 6 [] [],zF125 7 [] [6],zF125 8 [yO,yO,yO,yO,yO,yO,yO,yO,yO,yO,yO,yO,yO,yO,yO,yO,yO,yO,yO,yO,yF] [],zF125 9 [] [],zF125 10 [] [],zF125 11 [] [],zF125 12 [] [],zF125 13 [] [],zF125 14 [yO,yO,yO,yS,yS,yS,yS,yM,yS,yS,yS,yO,yO,yS,yS,yS,yS,yS,yS,yS] [],zF125 15 [] [],zF125 16 [yN] [],zF125 17 [] [],zF125 18 [yN] [],zF125 19 [] []]),
 (126,[zF126 0 [] [],zF126 1 [] [],zF126 2 [yO,yO,yO,yN] [],zF126 3 [] [],zF126 4 [] [7],zF126 5 [] [],zF126 6 [] [],zF126 7 [yN] [],zF126 8 [yO,yO,yO,yO,yO,yO,yN] [8,9],zF126 9 [yO,yO,yO,yN,yO,yO,yO,yO,yN] [],zF126 10 [] [12],zF126 11 [yO,yO,yO,yO,yO,yO,yO,yN,yO,yO,yO,yO,yO,yO,yN] []]),
 (127,[zF127 0 [yF,yF] [],zF127 1 [yO,yO,yO,yO,yO,yF] [],zF127 2 [] [],zF127 3 [] [],zF127 4 [] []]),
 (128,[zF128 0 [] [],zF128 1 [] []]),
 (129,[zF129 0 [] [],zF129 1 [] [],zF129 2 [] [],zF129 3 [] [],zF129 4 [] [],zF129 5 [] [],zF129 7 [] [],zF129 8 [] [],zF129 6 [yO,yN] [],zF129 9 [] []]),
 (130,[zF130 0 [yF,yF] [],zF130 1 [] []]),
 (134,[zF134 0 [yF] [],zF134 1 [yO,yO,yO,yO,yO,yO,yO,yO,yO,yF] []]),
 (135,[zF135 0 [] [],zF135 1 [yO,yO,yO,yO,{fz:=true},yO,yN] []]),
 (136,[zF136 0 [] [],zF136 1 [] []]),
 (137,[zF137 0 [] [],zF137 1 [] []]),
 (138,[zF138 0 [] [],zF138 1 [] []]),
 (139,[zF139 0 [] [],zF139 1 [yO,yO,yO,yO,yO,yO,yO,yS,yS,yS,yS,yS,yS,yS] [],zF139 2 [] [],zF139 3 [] [],zF139 4 [] [],zF139 5 [] [],zF139 6 [] []]),
 (140,[zF140 0 [] [],zF140 1 [] [],zF140 2 [] [],zF140 4 [yO,yN,yO,yO,yO,yO,yO,yN] [],zF140 3 [yO,yN] [],zF140 5 [yO,yN] []]),
 (141,[zF141 0 [] [],zF141 1 [yO,yO,yO,yS,yS,yS,yO,yO,yS,yS,yS,yS,yS,yS,yS,yS] [],zF141 2 [] [],zF141 3 [] [],zF141 4 [] [],zF141 5 [] [],zF141 7 [yO,yO,yO,yO,yO,yS,yS,yS,yS] [],zF141 8 [] [],zF141 9 [yO,yN,yO,yO,yO,yN,yO,yN] [],zF141 6 [yO,yN] [],zF141 10 [] []]),
 (142,[zF142 0 [] [],zF142 1 [yO,yO,yO,yN,yO,yN,yO,yO,yN] []]),
 (144,[zF144 0 [] [],zF144 1 [] [],zF144 3 [] [],zF144 2 [yO,yN] []]),
 (145,[zF145 0 [] [],zF145 1 [] [],zF145 2 [yO,yO,yN,yO,yO,yN,yO,yO,yO,yN,yO,yO,yN] []]),
 (146,[zF146 0 [] [],zF146 1 [] [],zF146 2 [] [],zF146 3 [] [],zF146 4 [] [],zF146 5 [] [],zF146 7 [] [],zF146 6 [yO,yN] [],zF146 8 [] []]),
 (147,[zF147 0 [] [],zF147 1 [] [],zF147 2 [] [],zF147 3 [] [],zF147 4 [] [],zF147 5 [] [],zF147 7 [] [],zF147 6 [yO,yN] [],zF147 8 [] []]),
 (148,[zF148 0 [] [],zF148 1 [yO,yO,yO,yO,yS,yS,yS] [],zF148 2 [] [],zF148 3 [] [],zF148 4 [] [],zF148 6 [yO,yO,yO,yO,yO,yS,yS,yS,yS,yO,yO,yS,yS,yS,yS,yS,yS,yS,yS,yS,yS] [],zF148 7 [yO,yO,yO,yO,yO,yS,yS,yS,yS,yO,yO,yS,yS,yS,yS] [],zF148 8 [yO,yO,yO,yS,yS,yS,yS,yS,yS] [],zF148 9 [] [],zF148 5 [yO,yN] [],zF148 10 [] []]),
 (149,[zF149 0 [] [],zF149 1 [] [],zF149 2 [] [],zF149 3 [] [],zF149 4 [] [],zF149 5 [] [],zF149 6 [yN] [],zF149 7 [] []]),
 (150,[zF150 0 [yF] [],zF150 1 [] []]),
 (151,[zF151 0 [] [],zF151 1 [yO,yO,yO,yO,yS,yS,yS] []]),
 (152,[zF152 0 [] [],zF152 1 [] [],zF152 2 [] [],zF152 3 [] [],zF152 4 [] [],zF152 5 [yO,yO,yO,yO,yF] [],zF152 6 [yN] [],zF152 7 [] []]),
 (153,[zF153 0 [] [],zF153 1 [] []]),
 (154,[zF154 0 [] [],zF154 1 [] [],zF154 2 [] [],zF154 3 [] [],zF154 4 [] [7],zF154 5 [yO,yO,yO,yO,yF] [],zF154 6 [yN] [],zF154 7 [] []]),
 (155,[zF155 0 [yF] [],zF155 1 [] []]),
 (156,[zF156 0 [yF] [],zF156 1 [] []]),
 (157,[zF157 0 [] [],zF157 1 [] [],zF157 2 [] [],zF157 3 [] [],zF157 4 [] [7],zF157 5 [yO,yO,yO,yO,yF] [],zF157 6 [yN] [],zF157 7 [] []]),
 (158,[zF158 0 [yF] [],zF158 1 [] []]),
 (159,[zF159 0 [] [],zF159 1 [] [],zF159 2 [] [],zF159 3 [] [],zF159 4 [] [],zF159 5 [] [],zF159 6 [] [],zF159 7 [] [],zF159 8 [] [],zF159 9 [] [],zF159 10 [] [],zF159 11 [] [],zF159 12 [] [],zF159 13 [] []]),
 (161,[zF161 0 [] [],zF161 1 [] [],zF161 2 [] [],zF161 3 [] [],zF161 4 [] [],zF161 5 [] [],zF161 6 [] [],zF161 7 [] [],zF161 8 [yO,yO,yO,yO,yN,yN] [],zF161 9 [] [],zF161 10 [yO,yO,yO,yO,yO,yN,yN,yN] [],zF161 11 [] [],zF161 12 [] [],zF161 13 [] [],zF161 14 [yO,yO,yO,yN] [],zF161 15 [] [],zF161 16 [yO,yO,yO,yN] [],zF161 17 [yN] [],zF161 18 [] [],zF161 19 [] [],zF161 20 [] [],zF161 21 [] [],zF161 22 [] [],zF161 23 [] [],zF161 24 [] [],zF161 25 [] [],zF161 26 [yN] [],zF161 27 [] []]),
 (162,[zF162 0 [] [],zF162 1 [] [],zF162 2 [] [],zF162 3 [] [],zF162 4 [] [],zF162 5 [yO,yO,yO,yO,yF] [],zF162 6 [yN] [],zF162 7 [] []]),
 (163,[zF163 0 [] [],zF163 1 [] []]),
 (164,[zF164 0 [] [],zF164 1 [] [],zF164 2 [] [],zF164 3 [] [],zF164 4 [yO,yO,yN,yO,yO,yO,yN] [],zF164 5 [] [],zF164 6 [] []]),
 (165,[zF165 0 [] [],zF165 1 [] []]),
 (166,[zF166 0 [] [],zF166 1 [] [],zF166 2 [] [],zF166 3 [yO,yO,yO,yO,yO,yN] []]),
 (167,[zF167 0 [] [],zF167 1 [] [],zF167 2 [] [],zF167 3 [] [],zF167 4 [] [],zF167 5 [] [],zF167 6 [yO,yO,yO,yN] [],zF167 7 [yO,yO,yO,yN] [],zF167 8 [] [],zF167 9 [yO,yN] [],zF167 10 [] [],zF167 11 [] [],zF167 12 [] [],zF167 13 [] [],zF167 14 [yO,yO,yO,yO,yO,yN] [],zF167 15 [yO,yO,yO,yO,yN] [],zF167 16 [yO,yN] [],zF167 17 [] [],zF167 18 [yO,yO,yN] []]),
 (168,[zF168 0 [] [],zF168 1 [] [],zF168 2 [] [],zF168 3 [] [],zF168 4 [] [],zF168 5 [] [],zF168 7 [yO,yO,yO,yO,yN,yO,yN,yO,yF,yO,yO,yN] [],zF168 6 [yO,yN] [],zF168 8 [] [],zF168 9 [yO,yN] [],zF168 10 [] []]),
 (169,[zF169 0 [] [],zF169 1 [] [],zF169 2 [] [],zF169 3 [] []]),
 (170,[zF170 0 [] [],zF170 1 [] [],zF170 2 [] [],zF170 3 [] [],zF170 4 [] [],zF170 5 [] [],zF170 6 [yN] [],zF170 7 [] []]),
 (171,[zF171 0 [yF] [],zF171 1 [] []]),
 (172,[zF172 0 [] [],zF172 1 [] []]),
 (173,[zF173 0 [] [],zF173 1 [] [],zF173 2 [] [],zF173 3 [yO,yO,yO,yO,yO,yO,yO,yO,yO,yO,yN] [],zF173 4 [] []]),
 (174,[zF174 0 [] [],zF174 1 [] [],zF174 2 [yO,yO,yO,yO,yO,yO,{fz:=true}] [],zF174 3 [] []]),
 (175,[zF175 0 [] [],zF175 1 [] []]),
 (176,[zF176 0 [] [],zF176 1 [] []]),
 (177,[zF177 0 [] [],zF177 1 [] []]),
 (178,[zF178 0 [] [],zF178 1 [yO,yO,yO,yO,yO,yO,yS,yS,yS,yS,yS,yM,yS,yS,yS] []]),
 (179,[zF179 0 [] [],zF179 1 [] [],zF179 2 [yO,yO,yO,yS,yS,yS] [],zF179 3 [] [],zF179 4 [] [],zF179 5 [] [],zF179 6 [yO,yO,yN] [],zF179 8 [] [],zF179 9 [] [],zF179 10 [] [],zF179 7 [yO,yN] [],zF179 11 [] [],zF179 12 [yO,yO,yN] [],zF179 13 [] []]),
 (180,[zF180 0 [] [],zF180 1 [] [],zF180 2 [yO,yO,yN] [],zF180 3 [] [],zF180 4 [] [],zF180 5 [] [],zF180 6 [] [],zF180 7 [] [],zF180 8 [] [],zF180 9 [yO,yN] [],zF180 10 [yO,yO,yO,yO,yN] []]),
 (181,[zF181 0 [] [],zF181 1 [] []]),
 (182,[zF182 0 [] [],zF182 1 [] [],zF182 2 [] []]),
 (183,[zF183 0 [yO,yO,yO,yO,yO,yN,yO,yN] [],zF183 1 [] [],zF183 2 [] []]),
 (184,[zF184 0 [] [],zF184 1 [] [],zF184 2 [yO,yO,yO,yS,yS] [],zF184 3 [] [],zF184 4 [] [],zF184 5 [] [],zF184 6 [] [],zF184 7 [yO,yN] [],zF184 8 [] [],zF184 9 [yO,yN] [],zF184 10 [] [],zF184 11 [] [],zF184 12 [yO,yN] [],zF184 13 [yO,yN] [],zF184 14 [] [],zF184 15 [] []]),
 (186,[zF186 0 [] [],zF186 1 [] [],zF186 2 [] [],zF186 3 [yO,yN] [],zF186 4 [] []]),
 (187,[zF187 0 [] [],zF187 1 [yO,yO,yO,yS,yS,yS] [],zF187 2 [] [],zF187 3 [] []]),
 (189,[zF189 0 [] [],zF189 1 [] [],zF189 2 [yO,yO,yO,yS,yS,yS] [],zF189 3 [] [],zF189 4 [] [],zF189 5 [] [],zF189 6 [] [],zF189 7 [] [],zF189 8 [yO,yO,yO,yO,yS,yS,yS] [],zF189 9 [] [],zF189 10 [] [],zF189 11 [] [],zF189 12 [] [],zF189 13 [yO,yO,yO,yN,yN] [],zF189 14 [] [],zF189 15 [] [],zF189 16 [] [],zF189 17 [yO,yO,yN] [],zF189 18 [] [],zF189 19 [] [],zF189 20 [yO,yO,yN,yN] [],zF189 21 [yO,yO,yN,yO,yO,yO,yO,yS,yS,yS,yS,yM,yS,yS,yS] [],zF189 22 [] [],zF189 23 [yO,yN] [],zF189 24 [yO,yN] [],zF189 25 [yO,yO,yO,yO,yS,yS,yS,yS] [],zF189 26 [] [],zF189 27 [] [],zF189 28 [yO,yO,yN] [],zF189 29 [] [],zF189 30 [yO,yO,yO,yO,yS,yS,yS,yM,yS,yO,yO,yS,yS,yS] [],zF189 31 [] [],zF189 32 [] [],zF189 33 [] [],zF189 34 [yO,yO,yN] [],zF189 35 [] []]),
 (192,[zF192 0 [] [],zF192 1 [] [],zF192 2 [yO,yO,yN] [],zF192 3 [yO,yN,yO,yN,yN] []]),
 (193,[zF193 0 [] [],zF193 1 [] [],zF193 2 [yO,yO,yO,yO,yO,yO,yO,yN] []]),
 (194,[zF194 0 [] [],zF194 1 [] [],zF194 2 [] [],zF194 3 [yO,yN] [],zF194 4 [yO,yN] [],zF194 5 [yO,yN,yN,yO,yO,yN] [],zF194 6 [yO,yN,yN,yO,yO,yN] [],zF194 7 [yO,yO,yN,yO,yO,yN,yO,yN] [],zF194 8 [yO,yO,yN,yO,yO,yN,yO,yN] [],zF194 9 [yO,yO,yN,yO,yO,yN,yO,yN] [],zF194 10 [yO,yO,yN,yO,yO,yN,yO,yN] [],zF194 11 [yO,yN] [],zF194 12 [] [],zF194 13 [] [],zF194 14 [] [],zF194 15 [yO,yN] [],zF194 16 [yO,yN,yN,yO,yO,yN] [],zF194 17 [yO,yO,yN,yO,yO,yN,yO,yN] [],zF194 18 [yO,yO,yN,yO,yO,yN,yO,yN] [],zF194 19 [yO,yN] [],zF194 20 [] [],zF194 21 [yO,yO,yN] [],zF194 22 [yO,yN] [],zF194 23 [yO,yO,yN,yO,yO,yN,yO,yN] [],zF194 24 [yO,yN] [],zF194 25 [] [],zF194 26 [yO,yO,yN] []]),
 (195,[zF195 0 [] [],zF195 1 [yO,yO,yO,yS,yS,yO,yO,yS,yS] [],zF195 2 [] [],zF195 3 [] [],zF195 4 [] [],zF195 5 [] [],zF195 6 [yO,yN] [],zF195 7 [] [],zF195 8 [] [],zF195 9 [] [],zF195 10 [yO,yO,yN] [],zF195 11 [] [],zF195 12 [yO,yN] [],zF195 13 [] [],zF195 14 [] [],zF195 15 [yO,yN] [],zF195 16 [] [],zF195 17 [] [],zF195 18 [] [],zF195 19 [yO,yN] [],zF195 20 [yO,yO,yN] [],zF195 21 [yO,yO,yO,yO,yN,yN] [],zF195 22 [] [],zF195 23 [yO,yN] [],zF195 24 [] [],zF195 25 [] [],zF195 26 [yO,yN] [],zF195 27 [] [],zF195 28 [] [],zF195 29 [yO,yO,yO,{fz:=true}] [],zF195 30 [] []]),
 (196,[zF196 0 [] [],zF196 1 [] [],zF196 2 [] [],zF196 3 [] [],zF196 4 [] [],zF196 5 [] [],zF196 6 [] [],zF196 7 [] [],zF196 8 [] [],zF196 9 [] [],zF196 10 [] [9],zF196 11 [] [],zF196 12 [] [],zF196 13 [] [],zF196 14 [yO,yO,yO,yO,yO,yS,yS,yS,yS] [],zF196 15 [] [],zF196 16 [] [],zF196 17 [] [],zF196 18 [] [],zF196 19 [yO,yO,yO,yS,yS] [],zF196 20 [] [],zF196 21 [] [],zF196 22 [] [],zF196 23 [] [],zF196 24 [yO,yO,yO,yS,yS] [],zF196 25 [] [],zF196 26 [] []]),
 (198,[zF198 0 [] [],zF198 1 [yO,yN,yN] []]),
 (199,[zF199 0 [] [],zF199 1 [] [],zF199 2 [] [],zF199 3 [] [],zF199 4 [] [],zF199 5 [] [],zF199 7 [yO,yN,yO,yO,yO,yO,yN] [],zF199 6 [yO,yN] [],zF199 8 [yO,yO,yO,yO,yS,yS,yS,yS,yS] [],zF199 9 [] [],zF199 10 [] [],zF199 11 [] [],zF199 12 [yO,yN] [],zF199 13 [yO,yO,yO,yO,yO,yN] [],zF199 14 [yO,yO,yO,yO,yO,yN,yO,yO,yN,yN] [],zF199 15 [yO,yN] [],zF199 16 [yO,yO,yO,yO,yS,yS,yS,yM,yS,yS,yS,yS] [],zF199 17 [yO,yO,yN] [],zF199 18 [] []]),
 (200,[zF200 0 [] [],zF200 1 [yO,yN] []]),
 (201,[zF201 0 [] [],zF201 1 [] [],zF201 2 [] [],zF201 3 [] [],zF201 4 [] [],zF201 5 [] [],zF201 6 [yO,yN] [],zF201 7 [] [],zF201 8 [] [],zF201 9 [yO,yN] [],zF201 10 [yO,yO,yO,yO,yO,yN] []]),
 (202,[zF202 0 [] [],zF202 1 [] [],zF202 2 [] [],zF202 3 [] []]),
 (203,[zF203 0 [] [],zF203 1 [yO,yO,yN] []]),
 (204,[zF204 0 [] [],zF204 1 [] [],zF204 2 [] []]),
 (205,[zF205 0 [] [],zF205 1 [] [],zF205 2 [] [],zF205 3 [] [],zF205 5 [yO,yN,yO,yO,yO,yO,yN] [],zF205 4 [yO,yN] [],zF205 6 [] [],zF205 7 [] [],zF205 8 [] [],zF205 10 [] [],zF205 11 [yO,yO,yN] [],zF205 12 [yO,yO,yN] [],zF205 9 [] [],zF205 13 [] []]),
 (206,[zF206 0 [] [],zF206 1 [] [],zF206 2 [] [],zF206 3 [yO,yO,yN,yO,yN] []]),
 (207,[zF207 0 [] [],zF207 1 [] [],zF207 2 [] [],zF207 3 [yO,yO,yN,yO,yN] []]),
 (223,[zF223 0 [] [],zF223 1 [] [],zF223 2 [yO,yO,yO,yO,yO,yO,yS,yS,yS,yO,yO,yS,yS,yS,yS,yS,yS,yS,yS] [],zF223 3 [] [],zF223 4 [] [],zF223 5 [] [],zF223 6 [] [],zF223 7 [yO,yO,yO,yO,yO,yS,yS,yO,yO,yS,yS] [],zF223 8 [] [],zF223 9 [yO,yN,yO,yN,yO,yN] [],zF223 10 [] []]),
 (226,[zF226 0 [] [],zF226 1 [] []]),
 (227,[(0,⟨[],1,[1],[]⟩)]),
 (228,[zF228 0 [] [],zF228 1 [] [],zF228 2 [] [],zF228 3 [] [],zF228 4 [] [],zF228 5 [yO,yO,yO,yF] [],zF228 6 [yN] [],zF228 7 [] []]),
 (229,[zF229 0 [] [],zF229 1 [] [],zF229 2 [] [],zF229 3 [] [],zF229 4 [yN] []]),
 (230,[(0,⟨[],1,[1],[]⟩)]),
 (231,[zF231 0 [] [],zF231 1 [] [],zF231 2 [yO,yO,yO,yO,yO,yO,yF,{fz:=true}] []])]
def G0:List (Nat × List AV):=[(0,[.i 3,.i 1,.i 2,.i 2,.i 0,.i 5,.i (-2),.i 2,.i (-3),.i 0,.i (-1),.i (-1),.i 0,.i (-4),.i 2,.i (-2)]),
 (1,[.str [116,121,112,101],.str [115,104,97,114,101,115],.str [100,105,114,101,99,116],.str [115,113,117,97,114,101,115],.str [112,111,119,101,114]]),
 (4,[.int .u64 1,.int .u64 10,.int .u64 100,.int .u64 1000,.int .u64 10000,.int .u64 100000,.int .u64 1000000,.int .u64 10000000,.int .u64 100000000,.int .u64 1000000000,.int .u64 10000000000,.int .u64 100000000000,.int .u64 1000000000000,.int .u64 10000000000000,.int .u64 100000000000000,.int .u64 1000000000000000,.int .u64 10000000000000000,.int .u64 100000000000000000,.int .u64 1000000000000000000,.int .u64 10000000000000000000]),
 (2,[.fn (.func 226) [] [],.fn (.func 227) [] [],.fn (.func 229) [] [],.fn (.func 230) [] [],.fn (.func 231) [] []])]
theorem tok:TOK Tryz.prog T0:=TOK.of_map (by kernel_rfl)
theorem mix:Tryz.prog.follows .mixedOrders=true:=by kernel_rfl
def bodyOf (fn:Func):Code:=fn.body.getD .skip
theorem vc_of {p q:Prop} (hq:q) (h:p=q):p:=h ▸ hq
theorem c_of {f : Nat} {args : List AV} {r : AV} (fn : Func) (B : BA) (hf : Tryz.prog.funcs[f]? = some fn) (hb : fn.body = some (bodyOf fn)) (hn : (fn.name == "runtime.NumGoroutine") = false) (hlen : Nat.ble args.length fn.ntmps = true)
 {q:Prop} (hq:q) (h:VC (bodyE Tryz.prog T0 G0 fn.ntmps []) B 10000 0 (bodyOf fn) (startS args) (retQ T0 fn fun v=>v=r)=q):PCall Tryz.prog G0 f args r :=
 call_of_VC tok mix hf hb hn (Nat.le_of_ble_eq_true hlen) B (vc_of hq h)
def setRd:Nat->(List AV->Option AV)->List An->List An
 | 0,f,[]=>[{ rd:=f }]
 | 0,f,a::l=>{ a with rd:=f }::l
 | n+1,f,[]=>{}::setRd n f []
 | n+1,f,a::l=>a::setRd n f l
def addRd:List (Nat × Nat × (List AV->Option AV))->Nat->RA->RA
 | [],_,ra=>ra
 | (i,k,f)::l,j,ra=>addRd l j (if i.beq j then { ra with ans:=setRd k f ra.ans } else ra)
def mkB (sp:Nat->List AV->Option AV) (f:Nat) (rds:List (Nat × Nat × (List AV->Option AV))) (la:Nat->Option LA):BA :=
 { ra:=fun i=>addRd rds i ((lk i ((lk f F0).getD [])).getD {}),gs:=fun _=>[],la:=la,fa:=none,spec:=sp }
def noLa:Nat->Option LA:=fun _=>none
end Go.Proofs.YtjhjmncjidbieaaGreatDoor
namespace Go.Proofs.YtjhjmncjidbieaaGreatDoor
open Go Go.Av Go.RowKit
def sWhen (b:Bool) (e:Int):Int:=if b then e else 0
def sFirst:List Int->Int
 | []=>0
 | x::l=>if x ≠ 0 then x else sFirst l
def sWithin (x lo hi:Int):Int:=sWhen (if decide (x < lo) then true else decide (x > hi)) 3
def sFloor (n d:Int):Int:=if n.tdiv d * d > n then n.tdiv d-1 else n.tdiv d
def hdI (l:List AV):Int:=match l with
 | [.int _ n]=>n
 | _=>0
def rInt (l:List Int):List (List AV):=l.map fun x=>[.i x]
def sPower (p:Int):Int:=sWithin p 1 100
def sPlace (x y z:Int):Int:=sFirst [sWithin x (-100000) 100000,sWithin y (-100000) 100000,sWithin z 0 20000]
def sFix (t x y z p:Int):Int:=sFirst [sWithin t 0 100000000,sPlace x y z,sPower p]
def spA:Nat->List AV->Option AV
 | 92,[.bool b,.int _ e]=>some (.i (sWhen b e))
 | 94,[.bool b,.int _ e]=>some (.i (sWhen b e))
 | 87,[.sl _ rows]=>some (.i (sFirst (rows.map hdI)))
 | 93,[.sl _ rows]=>some (.i (sFirst (rows.map hdI)))
 | 89,[.int _ x,.int _ lo,.int _ hi]=>some (.i (sWithin x lo hi))
 | 95,[.int _ x,.int _ lo,.int _ hi]=>some (.i (sWithin x lo hi))
 | 98,[.int _ p]=>some (.i (sPower p))
 | 44,[.int _ p]=>some (.i (sPower p))
 | 19,[.int _ p]=>some (.i (sWithin p 1 1000))
 | 20,[.int _ p]=>some (.i (sWithin p 0 100000000))
 | 16,[.sl _ rows]=>some (.i (sFirst (rows.map hdI)))
 | 104,[.agg [.int _ x,.int _ y,.int _ z]]=>some (.i (sPlace x y z))
 | 35,[.agg [.int _ x,.int _ y,.int _ z]]=>some (.i (sPlace x y z))
 | 134,[.agg [.int _ t,.int _ x,.int _ y,.int _ z,.int _ p]]=>some (.i (sFix t x y z p))
 | 91,[.int _ n,.int _ d]=>some (.i (sFloor n d))
 | 143,[.int _ n,.int _ d]=>some (.i (sFloor n d))
 | _,_=>none
theorem rInt_len (es:List Int):(rInt es).length=es.length:=by simp [rInt]
theorem rInt_at {es:List Int} {i:Nat} (h:i < es.length):nthR (rInt es) i=[.i (es.getD i 0)]:=by
 simp [nthR,rInt,List.getD_eq_getElem?_getD,h]
theorem first_drop (es:List Int):∀ (i:Nat),(∀ k,k < i->es.getD k 0=0)->i<=es.length->sFirst es=sFirst (es.drop i):=by
 intro i
 induction i with
 | zero=>intros;rfl
 | succ i ih =>
  intro h hl
  rw [ih (fun k hk=>h k (by omega)) (by omega)]
  have:=h i (by omega)
  rw [List.drop_eq_getElem_cons (show i < es.length by omega)]
  rw [List.getD_eq_getElem?_getD,List.getElem?_eq_getElem (show i < es.length by omega)] at this
  simp at this
  simp [sFirst,this]
theorem first_hit {es:List Int} {i:Nat} (h:i < es.length) (h0:∀ k,k < i->es.getD k 0=0) (hne:es.getD i 0 ≠ 0):sFirst es=es.getD i 0:=by
 rw [first_drop es i h0 (by omega),List.drop_eq_getElem_cons h]
 simp [List.getD_eq_getElem?_getD,h] at hne
 simp [sFirst,hne,List.getD_eq_getElem?_getD,h]
theorem first_end {es:List Int} (h0:∀ k,k < es.length->es.getD k 0=0):sFirst es=0:=by
 rw [first_drop es es.length h0 (Nat.le_refl _)]
 simp [sFirst]
theorem c92 (b:Bool) (e:Int) :PCall Tryz.prog G0 92 [.bool b,.i e] (.i (sWhen b e)):=by
 have key :
  (b=true->AV.int IntKind.i64 e=AV.int IntKind.i64 (sWhen b e))∧(b=false->AV.int IntKind.i64 (0:Int)=AV.int IntKind.i64 (sWhen b e)):=by
   exact ⟨fun h=>by simp [sWhen,h],fun h=>by simp [sWhen,h]⟩
 exact c_of Tryz.f92 (mkB spA 92 [] noLa) (by kernel_rfl) (by kernel_rfl) (by kernel_rfl) (by kernel_rfl) key (by kernel_rfl)
theorem c94 (b:Bool) (e:Int) :PCall Tryz.prog G0 94 [.bool b,.i e] (.i (sWhen b e)):=by
 have key :
  (b=true->AV.int IntKind.i64 e=AV.int IntKind.i64 (sWhen b e))∧(b=false->AV.int IntKind.i64 (0:Int)=AV.int IntKind.i64 (sWhen b e)):=by
   exact ⟨fun h=>by simp [sWhen,h],fun h=>by simp [sWhen,h]⟩
 exact c_of Tryz.f94 (mkB spA 94 [] noLa) (by kernel_rfl) (by kernel_rfl) (by kernel_rfl) (by kernel_rfl) key (by kernel_rfl)
theorem c89 (x lo hi:Int) :PCall Tryz.prog G0 89 [.i x,.i lo,.i hi] (.i (sWithin x lo hi)):=by
 have key :
  ((!decide (x < lo))=true->(!decide (x < lo))=true)∧((!decide (x < lo))=true->(!decide (x < lo))=true)∧(decide (x < lo)=false->(!decide (x < lo))=true)∧PCall Tryz.prog G0 (92:Nat) [AV.bool (if decide (x < lo)
  = true then true else decide (x > hi)),AV.int IntKind.i64 (3:Int)] (AV.int IntKind.i64 (sWhen (if decide (x < lo)=true then true else decide (x > hi)) (3:Int)))∧AV.int IntKind.i64 (sWhen (if decide (x < lo)=true then
  true else decide (x > hi)) (3:Int))=AV.int IntKind.i64 (sWithin x lo hi):=by
   exact ⟨fun h=>h,fun h=>h,fun h=>by simp [h],c92 _ _,rfl⟩
 exact c_of Tryz.f89 (mkB spA 89 [] noLa) (by kernel_rfl) (by kernel_rfl) (by kernel_rfl) (by kernel_rfl) key (by kernel_rfl)
theorem c95 (x lo hi:Int) :PCall Tryz.prog G0 95 [.i x,.i lo,.i hi] (.i (sWithin x lo hi)):=by
 have key :
  ((!decide (x < lo))=true->(!decide (x < lo))=true)∧((!decide (x < lo))=true->(!decide (x < lo))=true)∧(decide (x < lo)=false->(!decide (x < lo))=true)∧PCall Tryz.prog G0 (94:Nat) [AV.bool (if decide (x < lo)
  = true then true else decide (x > hi)),AV.int IntKind.i64 (3:Int)] (AV.int IntKind.i64 (sWhen (if decide (x < lo)=true then true else decide (x > hi)) (3:Int)))∧AV.int IntKind.i64 (sWhen (if decide (x < lo)=true then
  true else decide (x > hi)) (3:Int))=AV.int IntKind.i64 (sWithin x lo hi):=by
   exact ⟨fun h=>h,fun h=>h,fun h=>by simp [h],c94 _ _,rfl⟩
 exact c_of Tryz.f95 (mkB spA 95 [] noLa) (by kernel_rfl) (by kernel_rfl) (by kernel_rfl) (by kernel_rfl) key (by kernel_rfl)
def la87 (es:List Int):LA:={
 pre:=[.keep [0,5,6,7] [],.bound 1],post:=[.keep [0,5,6,7] [],.bound 1]
 Gh:=Nat
 st:=fun i=>⟨[(0,.sl 1 (rInt es)),(5,.sl 1 (rInt es)),(6,.i es.length),(7,.i i)],[],1⟩
 ok:=fun i=>i<=es.length∧∀ k,k < i->es.getD k 0=0
 ms:=fun i=>es.length-i }
def la93 (es:List Int):LA:={
 pre:=[.keep [0,3] [],.bound 1],post:=[.keep [0,3] [],.bound 1]
 Gh:=Nat
 st:=fun i=>⟨[(0,.sl 1 (rInt es)),(3,.i i)],[],1⟩
 ok:=fun i=>i<=es.length∧∀ k,k < i->es.getD k 0=0
 ms:=fun i=>es.length-i }
def rdI (es:List Int):List AV->Option AV
 | [.elt _ _ i _]=>some (.i (es.getD i 0))
 | _=>none
theorem c87 (es:List Int) (hl:es.length<=1000000):PCall Tryz.prog G0 87 [.sl 1 (rInt es)] (.i (sFirst es)):=by
 have key :
  (∃ (g:Nat),(g<=es.length∧∀ (k:Nat),k < g->es.getD k (0:Int)=(0:Int))∧AS.mk [((0:Nat),AV.sl (1:Nat) (rInt es)),((5:Nat),AV.sl (1:Nat) (rInt es)),((6:Nat),AV.int IntKind.i64 (↑(rInt es).length :
  Int)),((7:Nat),AV.int IntKind.i64 (0:Int))] [] (1:Nat)=AS.mk [((0:Nat),AV.sl (1:Nat) (rInt es)),((5:Nat),AV.sl (1:Nat) (rInt es)),((6:Nat),AV.int IntKind.i64 (↑es.length:Int)),((7:Nat),AV.int
  IntKind.i64 (g:Int))] [] (1:Nat))∧∀ (g:Nat),(g<=es.length∧∀ (k:Nat),k < g->es.getD k (0:Int)=(0:Int))->(decide ((g:Int) < (↑es.length:Int))=true->(0:Int)<=(g:Int)∧(g:Int) < (↑(rInt
  es).length:Int)∧nth (nthR (rInt es) (g:Int).toNat) (0:Nat)=AV.int IntKind.i64 (es.getD (g:Int).toNat (0:Int))∧((es.getD (g:Int).toNat (0:Int) != 0)=true->AV.int IntKind.i64 (es.getD (g:Int).toNat (0 :
  Int))=AV.int IntKind.i64 (sFirst es))∧((es.getD (g:Int).toNat (0:Int) != 0)=false->In64 ((g:Int)+1)∧∃ (g':Nat),(g'<=es.length∧∀ (k:Nat),k < g'->es.getD k (0:Int)=(0:Int))∧es.length-g' <
  es.length-g∧AS.mk [((0:Nat),AV.sl (1:Nat) (rInt es)),((5:Nat),AV.sl (1:Nat) (rInt es)),((6:Nat),AV.int IntKind.i64 (↑es.length:Int)),((7:Nat),AV.int IntKind.i64 ((g:Int)+1))] [] (1:Nat)=AS.mk [((0
  : Nat),AV.sl (1:Nat) (rInt es)),((5:Nat),AV.sl (1:Nat) (rInt es)),((6:Nat),AV.int IntKind.i64 (↑es.length:Int)),((7:Nat),AV.int IntKind.i64 (↑g':Int))] [] (1:Nat)))∧(decide ((g:Int) < (↑es.length:Int))
  = false->AV.int IntKind.i64 (0:Int)=AV.int IntKind.i64 (sFirst es)):=by
   refine ⟨⟨0,⟨by omega,by intros;omega⟩,by simp [rInt_len]⟩,fun g ⟨h1,h2⟩=>⟨fun hd=>?_,fun hd=>?_⟩⟩
   · have hlt:g < es.length:=by simpa using hd
     refine ⟨by omega,by rw [rInt_len];omega,by simp [rInt_at hlt,nth],fun hne=>?_,fun hz=>⟨?_,g+1,⟨hlt,fun k hk=>?_⟩,by omega,rfl⟩⟩
     · rw [first_hit hlt h2 (by simpa using hne)];rfl
     · unfold In64;omega
     · by_cases e:k=g
       · subst e;simpa using hz
       · exact h2 k (by omega)
   · have hge:g=es.length:=by simp at hd;omega
     rw [first_end (hge ▸ h2)]
 exact c_of Tryz.f87 (mkB spA 87 [(3,1,rdI es)] (fun i=>if i.beq 0 then some (la87 es) else none)) (by kernel_rfl) (by kernel_rfl) (by kernel_rfl) (by kernel_rfl) key (by kernel_rfl)
theorem c93 (es:List Int) (hl:es.length<=1000000):PCall Tryz.prog G0 93 [.sl 1 (rInt es)] (.i (sFirst es)):=by
 have key :
  (∃ (g:Nat),(g<=es.length∧∀ (k:Nat),k < g->es.getD k (0:Int)=(0:Int))∧AS.mk [((0:Nat),AV.sl (1:Nat) (rInt es)),((3:Nat),AV.int IntKind.i64 (0:Int))] [] (1:Nat)=AS.mk [((0:Nat),AV.sl (1:Nat)
  (rInt es)),((3:Nat),AV.int IntKind.i64 (g:Int))] [] (1:Nat))∧∀ (g:Nat),(g<=es.length∧∀ (k:Nat),k < g->es.getD k (0:Int)=(0:Int))->(decide ((g:Int) < (↑(rInt es).length:Int))=true->(0:Int)<=(↑g
  : Int)∧(g:Int) < (↑(rInt es).length:Int)∧nth (nthR (rInt es) (g:Int).toNat) (0:Nat)=AV.int IntKind.i64 (es.getD (g:Int).toNat (0:Int))∧((es.getD (g:Int).toNat (0:Int) != 0)=true->(0:Int)<=(↑g :
  Int)∧(g:Int) < (↑(rInt es).length:Int)∧nth (nthR (rInt es) (g:Int).toNat) (0:Nat)=AV.int IntKind.i64 (es.getD (g:Int).toNat (0:Int))∧AV.int IntKind.i64 (es.getD (g:Int).toNat (0:Int))=AV.int
  IntKind.i64 (sFirst es))∧((es.getD (g:Int).toNat (0:Int) != 0)=false->In64 ((g:Int)+1)∧∃ (g':Nat),(g'<=es.length∧∀ (k:Nat),k < g'->es.getD k (0:Int)=(0:Int))∧es.length-g' < es.length-g∧AS.mk
  [((0:Nat),AV.sl (1:Nat) (rInt es)),((3:Nat),AV.int IntKind.i64 ((g:Int)+1))] [] (1:Nat)=AS.mk [((0:Nat),AV.sl (1:Nat) (rInt es)),((3:Nat),AV.int IntKind.i64 (↑g':Int))] [] (1:Nat)))∧(decide ((↑g :
  Int) < (↑(rInt es).length:Int))=false->AV.int IntKind.i64 (0:Int)=AV.int IntKind.i64 (sFirst es)):=by
   refine ⟨⟨0,⟨by omega,by intros;omega⟩,by simp⟩,fun g ⟨h1,h2⟩=>⟨fun hd=>?_,fun hd=>?_⟩⟩
   · have hlt:g < es.length:=by simpa [rInt_len] using hd
     refine ⟨by omega,by rw [rInt_len];omega,by simp [rInt_at hlt,nth],fun hne=>?_,fun hz=>⟨?_,g+1,⟨hlt,fun k hk=>?_⟩,by omega,rfl⟩⟩
     · refine ⟨by omega,by rw [rInt_len];omega,by simp [rInt_at hlt,nth],?_⟩
       rw [first_hit hlt h2 (by simpa using hne)];rfl
     · unfold In64;omega
     · by_cases e:k=g
       · subst e;simpa using hz
       · exact h2 k (by omega)
   · have hge:g=es.length:=by simp [rInt_len] at hd;omega
     rw [first_end (hge ▸ h2)]
 exact c_of Tryz.f93 (mkB spA 93 [(4,3,rdI es),(5,3,rdI es)] (fun i=>if i.beq 0 then some (la93 es) else none)) (by kernel_rfl) (by kernel_rfl) (by kernel_rfl) (by kernel_rfl) key (by kernel_rfl)
theorem c44 (p:Int) :PCall Tryz.prog G0 44 [.i p] (.i (sPower p)):=by
 have key :
  PCall Tryz.prog G0 (95:Nat) [AV.int IntKind.i64 p,AV.int IntKind.i64 (1:Int),AV.int IntKind.i64 (100:Int)] (AV.int IntKind.i64 (sWithin p (1:Int) (100:Int)))∧AV.int IntKind.i64 (sWithin p (1:Int) (100:Int)) =
  AV.int IntKind.i64 (sPower p):=by
   exact ⟨c95 _ _ _,rfl⟩
 exact c_of Tryz.f44 (mkB spA 44 [] noLa) (by kernel_rfl) (by kernel_rfl) (by kernel_rfl) (by kernel_rfl) key (by kernel_rfl)
end Go.Proofs.YtjhjmncjidbieaaGreatDoor
