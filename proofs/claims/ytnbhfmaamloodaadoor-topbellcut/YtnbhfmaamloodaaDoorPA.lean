/-
  The tables of a seat, and what its functions' proofs share. What the small functions of chapter 2 return. What chapter 2's functions on paths, procedures and tracks return. What chapter 2's functions on names return. No condition but the theorems' own.
-/
import Derived.Test.YtnbhfmaamloodaaDoorChecked
import Derived.Test.YtnbhfmaamloodaaDoorAvD
namespace Go.Proofs.YtnbhfmaamloodaaDoor
open Go Go.Av Go.RowKit
def T0:TT:=[
 (3,⟨(.int .i64),1,8,false,[.int .i64 0],false⟩),
 (4,⟨.bool,1,1,false,[.bool false],false⟩),
 (5,⟨(.int .u8),1,1,false,[.int .u8 0],false⟩),
 (9,⟨.str,1,16,false,[.str []],false⟩),
 (21,⟨(.int .i32),1,4,false,[.int .i32 0],false⟩),
 (22,⟨(.slice 3 1 8),1,24,false,[.ex (.slice none 0 0)],false⟩),
 (23,⟨(.arr 8 3 1),8,64,true,[.int .i64 0,.int .i64 0,.int .i64 0,.int .i64 0,.int .i64 0,.int .i64 0,.int .i64 0,.int .i64 0],true⟩),
 (24,⟨(.slice 79 2 32),1,24,false,[.ex (.slice none 0 0)],false⟩),
 (26,⟨(.struct [(0,9,1),(1,22,1),(2,23,8),(10,3,1),(11,22,1),(12,24,1)]),13,160,true,[.str [],.ex (.slice none 0 0),.int .i64 0,.int .i64 0,.int .i64 0,.int .i64 0,.int .i64 0,.int .i64 0,.int .i64 0,.int .i64 0,.int .i64 0,.ex (.slice none 0 0),.ex (.slice none 0 0)],true⟩),
 (27,⟨(.slice 39 5 40),1,24,false,[.ex (.slice none 0 0)],false⟩),
 (29,⟨(.struct [(0,3,1),(1,3,1),(2,3,1)]),3,24,true,[.int .i64 0,.int .i64 0,.int .i64 0],true⟩),
 (30,⟨(.int .u16),1,2,false,[.int .u16 0],false⟩),
 (31,⟨(.arr 2 30 1),2,4,true,[.int .u16 0,.int .u16 0],true⟩),
 (33,⟨(.struct [(0,29,3),(3,31,2),(5,5,1)]),6,32,true,[.int .i64 0,.int .i64 0,.int .i64 0,.int .u16 0,.int .u16 0,.int .u8 0],true⟩),
 (39,⟨(.struct [(0,3,1),(1,29,3),(4,3,1)]),5,40,true,[.int .i64 0,.int .i64 0,.int .i64 0,.int .i64 0,.int .i64 0],true⟩),
 (41,⟨(.struct [(0,3,1),(1,3,1)]),2,16,true,[.int .i64 0,.int .i64 0],true⟩),
 (42,⟨(.int .i64),1,8,false,[.int .i64 0],false⟩),
 (45,⟨(.slice 67 2 32),1,24,false,[.ex (.slice none 0 0)],false⟩),
 (47,⟨(.struct [(0,9,1),(1,22,1),(2,23,8),(10,3,1),(11,22,1),(12,45,1)]),13,160,true,[.str [],.ex (.slice none 0 0),.int .i64 0,.int .i64 0,.int .i64 0,.int .i64 0,.int .i64 0,.int .i64 0,.int .i64 0,.int .i64 0,.int .i64 0,.ex (.slice none 0 0),.ex (.slice none 0 0)],true⟩),
 (49,⟨(.slice 68 5 40),1,24,false,[.ex (.slice none 0 0)],false⟩),
 (53,⟨(.arr 4 3 1),4,32,true,[.int .i64 0,.int .i64 0,.int .i64 0,.int .i64 0],true⟩),
 (58,⟨(.struct [(0,3,1),(1,3,1)]),2,16,true,[.int .i64 0,.int .i64 0],true⟩),
 (67,⟨(.struct [(0,3,1),(1,22,1)]),2,32,true,[.int .i64 0,.ex (.slice none 0 0)],true⟩),
 (68,⟨(.struct [(0,3,1),(1,29,3),(4,3,1)]),5,40,true,[.int .i64 0,.int .i64 0,.int .i64 0,.int .i64 0,.int .i64 0],true⟩),
 (70,⟨(.struct [(0,3,1),(1,3,1)]),2,16,true,[.int .i64 0,.int .i64 0],true⟩),
 (72,⟨(.struct [(0,29,3),(3,70,2),(5,3,1)]),6,48,true,[.int .i64 0,.int .i64 0,.int .i64 0,.int .i64 0,.int .i64 0,.int .i64 0],true⟩),
 (79,⟨(.struct [(0,3,1),(1,22,1)]),2,32,true,[.int .i64 0,.ex (.slice none 0 0)],true⟩),
 (82,⟨.other,1,8,false,[.ex .nilFunc],false⟩),
 (89,⟨.other,1,8,false,[.ex .nilFunc],false⟩),
 (103,⟨(.slice 42 1 8),1,24,false,[.ex (.slice none 0 0)],false⟩),
 (111,⟨(.arr 2 3 1),2,16,true,[.int .i64 0,.int .i64 0],true⟩),
 (118,⟨(.arr 10 3 1),10,80,true,[.int .i64 0,.int .i64 0,.int .i64 0,.int .i64 0,.int .i64 0,.int .i64 0,.int .i64 0,.int .i64 0,.int .i64 0,.int .i64 0],true⟩),
 (120,⟨.other,1,8,false,[.ex .nilFunc],false⟩)]
def yS:An:={sym:=true}
def yF:An:={fr:=true}
def yN:An:={nw:=true}
def yM:An:={nw:=true,sym:=true}
def yG:An:={fr:=true,sym:=true}
def yO:An:={}
def zF3 (i:Nat) (l:List An) (z:List Nat):Nat × RA:=(i,⟨l,116,[147,148,183],z⟩)
def zF4 (i:Nat) (l:List An) (z:List Nat):Nat × RA:=(i,⟨l,4,[4,6,8],z⟩)
def zF5 (i:Nat) (l:List An) (z:List Nat):Nat × RA:=(i,⟨l,6,[6,7,8],z⟩)
def zF6 (i:Nat) (l:List An) (z:List Nat):Nat × RA:=(i,⟨l,14,[26,37,52],z⟩)
def zF7 (i:Nat) (l:List An) (z:List Nat):Nat × RA:=(i,⟨l,9,[9,10,17],z⟩)
def zF8 (i:Nat) (l:List An) (z:List Nat):Nat × RA:=(i,⟨l,23,[23,24,25],z⟩)
def zF9 (i:Nat) (l:List An) (z:List Nat):Nat × RA:=(i,⟨l,7,[7,8,9],z⟩)
def zF10 (i:Nat) (l:List An) (z:List Nat):Nat × RA:=(i,⟨l,5,[5,9,14],z⟩)
def zF11 (i:Nat) (l:List An) (z:List Nat):Nat × RA:=(i,⟨l,3,[3,4,8],z⟩)
def zF12 (i:Nat) (l:List An) (z:List Nat):Nat × RA:=(i,⟨l,5,[5,6,16],z⟩)
def zF13 (i:Nat) (l:List An) (z:List Nat):Nat × RA:=(i,⟨l,39,[39,40,43],z⟩)
def zF14 (i:Nat) (l:List An) (z:List Nat):Nat × RA:=(i,⟨l,22,[26,27,28],z⟩)
def zF15 (i:Nat) (l:List An) (z:List Nat):Nat × RA:=(i,⟨l,3,[3,8,18],z⟩)
def zF16 (i:Nat) (l:List An) (z:List Nat):Nat × RA:=(i,⟨l,11,[47,53,60],z⟩)
def zF17 (i:Nat) (l:List An) (z:List Nat):Nat × RA:=(i,⟨l,6,[17,22,64],z⟩)
def zF18 (i:Nat) (l:List An) (z:List Nat):Nat × RA:=(i,⟨l,1,[1,2],z⟩)
def zF19 (i:Nat) (l:List An) (z:List Nat):Nat × RA:=(i,⟨l,7,[7,11,25],z⟩)
def zF20 (i:Nat) (l:List An) (z:List Nat):Nat × RA:=(i,⟨l,7,[7,8,25],z⟩)
def zF21 (i:Nat) (l:List An) (z:List Nat):Nat × RA:=(i,⟨l,1,[2],z⟩)
def zF22 (i:Nat) (l:List An) (z:List Nat):Nat × RA:=(i,⟨l,5,[6,7,8],z⟩)
def zF23 (i:Nat) (l:List An) (z:List Nat):Nat × RA:=(i,⟨l,12,[19,20,21],z⟩)
def zF24 (i:Nat) (l:List An) (z:List Nat):Nat × RA:=(i,⟨l,1,[2,5],z⟩)
def zF25 (i:Nat) (l:List An) (z:List Nat):Nat × RA:=(i,⟨l,7,[7,8,9],z⟩)
def zF26 (i:Nat) (l:List An) (z:List Nat):Nat × RA:=(i,⟨l,1,[2],z⟩)
def zF27 (i:Nat) (l:List An) (z:List Nat):Nat × RA:=(i,⟨l,1,[2,3,12],z⟩)
def zF28 (i:Nat) (l:List An) (z:List Nat):Nat × RA:=(i,⟨l,7,[7,8,12],z⟩)
def zF29 (i:Nat) (l:List An) (z:List Nat):Nat × RA:=(i,⟨l,1,[1,4,5],z⟩)
def zF30 (i:Nat) (l:List An) (z:List Nat):Nat × RA:=(i,⟨l,4,[4,7,15],z⟩)
def zF31 (i:Nat) (l:List An) (z:List Nat):Nat × RA:=(i,⟨l,8,[8,9,16],z⟩)
def zF32 (i:Nat) (l:List An) (z:List Nat):Nat × RA:=(i,⟨l,2,[2,3,4],z⟩)
def zF33 (i:Nat) (l:List An) (z:List Nat):Nat × RA:=(i,⟨l,1,[2],z⟩)
def zF34 (i:Nat) (l:List An) (z:List Nat):Nat × RA:=(i,⟨l,6,[6,7,8],z⟩)
def zF35 (i:Nat) (l:List An) (z:List Nat):Nat × RA:=(i,⟨l,7,[7,8,12],z⟩)
def zF36 (i:Nat) (l:List An) (z:List Nat):Nat × RA:=(i,⟨l,50,[50,51,74],z⟩)
def zF37 (i:Nat) (l:List An) (z:List Nat):Nat × RA:=(i,⟨l,22,[22,23,47],z⟩)
def zF38 (i:Nat) (l:List An) (z:List Nat):Nat × RA:=(i,⟨l,1,[1,2],z⟩)
def zF39 (i:Nat) (l:List An) (z:List Nat):Nat × RA:=(i,⟨l,14,[14,15,16],z⟩)
def zF40 (i:Nat) (l:List An) (z:List Nat):Nat × RA:=(i,⟨l,3,[3,7,14],z⟩)
def zF41 (i:Nat) (l:List An) (z:List Nat):Nat × RA:=(i,⟨l,1,[2],z⟩)
def zF42 (i:Nat) (l:List An) (z:List Nat):Nat × RA:=(i,⟨l,5,[5,19,24],z⟩)
def zF43 (i:Nat) (l:List An) (z:List Nat):Nat × RA:=(i,⟨l,8,[8,12,23],z⟩)
def zF44 (i:Nat) (l:List An) (z:List Nat):Nat × RA:=(i,⟨l,1,[1,2,6],z⟩)
def zF45 (i:Nat) (l:List An) (z:List Nat):Nat × RA:=(i,⟨l,5,[18,23,51],z⟩)
def zF46 (i:Nat) (l:List An) (z:List Nat):Nat × RA:=(i,⟨l,1,[1,4,5],z⟩)
def zF47 (i:Nat) (l:List An) (z:List Nat):Nat × RA:=(i,⟨l,9,[48,54,90],z⟩)
def zF48 (i:Nat) (l:List An) (z:List Nat):Nat × RA:=(i,⟨l,1,[2],z⟩)
def zF49 (i:Nat) (l:List An) (z:List Nat):Nat × RA:=(i,⟨l,1,[2],z⟩)
def zF50 (i:Nat) (l:List An) (z:List Nat):Nat × RA:=(i,⟨l,19,[19,20,27],z⟩)
def zF51 (i:Nat) (l:List An) (z:List Nat):Nat × RA:=(i,⟨l,1,[1,2],z⟩)
def zF52 (i:Nat) (l:List An) (z:List Nat):Nat × RA:=(i,⟨l,1,[2],z⟩)
def zF53 (i:Nat) (l:List An) (z:List Nat):Nat × RA:=(i,⟨l,10,[10,19,47],z⟩)
def zF54 (i:Nat) (l:List An) (z:List Nat):Nat × RA:=(i,⟨l,1,[1,4,5],z⟩)
def zF55 (i:Nat) (l:List An) (z:List Nat):Nat × RA:=(i,⟨l,9,[9,10,11],z⟩)
def zF56 (i:Nat) (l:List An) (z:List Nat):Nat × RA:=(i,⟨l,1,[1,2,6],z⟩)
def zF57 (i:Nat) (l:List An) (z:List Nat):Nat × RA:=(i,⟨l,4,[9,10,11],z⟩)
def zF58 (i:Nat) (l:List An) (z:List Nat):Nat × RA:=(i,⟨l,5,[6,12,24],z⟩)
def zF59 (i:Nat) (l:List An) (z:List Nat):Nat × RA:=(i,⟨l,8,[8,9,43],z⟩)
def zF60 (i:Nat) (l:List An) (z:List Nat):Nat × RA:=(i,⟨l,1,[1,4],z⟩)
def zF61 (i:Nat) (l:List An) (z:List Nat):Nat × RA:=(i,⟨l,1,[1,3,4],z⟩)
def zF62 (i:Nat) (l:List An) (z:List Nat):Nat × RA:=(i,⟨l,7,[7,8,9],z⟩)
def zF63 (i:Nat) (l:List An) (z:List Nat):Nat × RA:=(i,⟨l,1,[1,2,6],z⟩)
def zF64 (i:Nat) (l:List An) (z:List Nat):Nat × RA:=(i,⟨l,57,[57,58,82],z⟩)
def zF65 (i:Nat) (l:List An) (z:List Nat):Nat × RA:=(i,⟨l,1,[1,2],z⟩)
def zF66 (i:Nat) (l:List An) (z:List Nat):Nat × RA:=(i,⟨l,3,[6,7,8],z⟩)
def zF67 (i:Nat) (l:List An) (z:List Nat):Nat × RA:=(i,⟨l,18,[23,30,45],z⟩)
def zF68 (i:Nat) (l:List An) (z:List Nat):Nat × RA:=(i,⟨l,4,[4,7,15],z⟩)
def zF69 (i:Nat) (l:List An) (z:List Nat):Nat × RA:=(i,⟨l,2,[4,5,13],z⟩)
def zF70 (i:Nat) (l:List An) (z:List Nat):Nat × RA:=(i,⟨l,6,[13,17,67],z⟩)
def zF71 (i:Nat) (l:List An) (z:List Nat):Nat × RA:=(i,⟨l,2,[2,3,8],z⟩)
def zF72 (i:Nat) (l:List An) (z:List Nat):Nat × RA:=(i,⟨l,2,[2,3,4],z⟩)
def zF73 (i:Nat) (l:List An) (z:List Nat):Nat × RA:=(i,⟨l,1,[1,2],z⟩)
def zF74 (i:Nat) (l:List An) (z:List Nat):Nat × RA:=(i,⟨l,8,[31,34,51],z⟩)
def zF75 (i:Nat) (l:List An) (z:List Nat):Nat × RA:=(i,⟨l,9,[9,10,11],z⟩)
def zF76 (i:Nat) (l:List An) (z:List Nat):Nat × RA:=(i,⟨l,1,[1,3],z⟩)
def zF77 (i:Nat) (l:List An) (z:List Nat):Nat × RA:=(i,⟨l,8,[8,9,16],z⟩)
def zF78 (i:Nat) (l:List An) (z:List Nat):Nat × RA:=(i,⟨l,1,[1,2,3],z⟩)
def F0:FT:=[
 (3,[zF3 0 [yF,yF] [],zF3 1 [] [],zF3 2 [] [],zF3 3 [] [],zF3 4 [] [],zF3 5 [] [],zF3 6 [yO,yO,yO,yO,yO,yO,yO,yN] [9],zF3 7 [] [],zF3 8 [] [],zF3 9 [yO,yO,yO,yO,yO,yO,yO,yO,{fz:=true}] [],zF3 10 [] [],zF3 11 [] [],zF3 12 [] [],zF3 13 [yO,yO,yO,yS,yS,yO,yO,yS] [],zF3 14 [] [],zF3 15 [yO,yO,yO,yO,yS,yS] [],zF3 16 [] [],zF3 17 [yO,yO,yO,yO,yO,yO,yO,yO,yO,yO,yN,yO,yN] [],zF3 18 [yO,yO,yO,yO,yO,yO,yO,yO,yO,yO,yN,yN,yO,yN] [],zF3 19 [] [],zF3 20 [] [],zF3 21 [] [],zF3 22 [] [],zF3 23 [yO,yO,yO,yO,yO,yO,yO,yO,yN] [],zF3 24 [] [],zF3 25 [yO,yO,yO,yS,yS,yO,yO,yS,yS,yS] [],zF3 26 [] [],zF3 27 [yO,yO,yN] [],zF3 28 [yN] [],zF3 29 [yO,yO,{fz:=true}] [],zF3 30 [] [],zF3 31 [] [30],zF3 32 [yO,yO,yO,yS,yS,yO,yO,yS,yS,yO,yO,yS,yS,yS,yO,yO,yS,yS,yS,yO,yO,yS,yS,yS,yS,yM,yS,yO,yO,yS,yS,yS,yS,yO,yO,yS,yS,yS,yS,yO,yO,yS] []]),
 (4,[zF4 0 [yF,yF] [],zF4 1 [yO,yO,yO,yS,yS,yS,yO,yO,yS,yS,yS,yO,yO,yS,yS,yS,yO,yO,yS,yS,yS,yO,yO,yS,yS,yS,yM,yS,yS,yS,yS,yS,yS,yS,yM,yS,yS] []]),
 (5,[zF5 0 [] [],zF5 1 [yF,yO,yF,yF,yO,yF,yO,yF] [1],zF5 2 [yO,yO,yO,yF] [],zF5 3 [] [],zF5 4 [yF] [],zF5 5 [] [],zF5 6 [yO,yO,yO,yS,yS,yO,yO,yS,yS,yO,yO,yS,yS,yO,yO,yS,yS,yO,yO,yS,yS] []]),
 (6,[zF6 0 [yF,yF] [],zF6 1 [] [],zF6 2 [] [],zF6 3 [yO,yO,yO,yO,yN] [],zF6 5 [] [10],zF6 6 [] [],zF6 7 [] [],zF6 8 [] [],zF6 9 [yO,yO,yO,yS,yS,yS] [],zF6 10 [] [],zF6 11 [yO,yO,yF] [],zF6 4 [yO,yN] [],zF6 12 [] []]),
 (7,[zF7 0 [yF,yF,yF] [],zF7 1 [] [],zF7 2 [] [],zF7 3 [] [],zF7 4 [] []]),
 (8,[zF8 0 [yF] [],zF8 1 [yO,yO,yO,yO,yO,{fz:=true},yO,yO,yO,yO,yO,yO,yO,{fz:=true}] [],zF8 2 [] [],zF8 3 [] [],zF8 4 [] [5],zF8 5 [yO,yO,yO,yO,yO,yO,yO,{fz:=true},yO,yF,{fz:=true}] [],zF8 6 [yN] [],zF8 7 [] []]),
 (9,[zF9 0 [] [],zF9 1 [] [],zF9 2 [] [],zF9 3 [] [],zF9 4 [] [5],zF9 5 [yO,yO,yF] [],zF9 6 [yN] [],zF9 7 [] []]),
 (10,[zF10 0 [] [],zF10 1 [] [],zF10 2 [] [],zF10 3 [] [],zF10 4 [] [],zF10 5 [] [],zF10 6 [] [],zF10 7 [] []]),
 (11,[zF11 0 [] [],zF11 1 [] [],zF11 2 [] [],zF11 3 [] [],zF11 4 [] []]),
 (12,[zF12 0 [] [],zF12 1 [yO,yO,yO,yO,yO,yO,yF] [],zF12 2 [] [],zF12 3 [] [],zF12 4 [] [],zF12 5 [] []]),
 (13,[zF13 0 [yF,yF,yF] [],zF13 1 [] [],zF13 2 [] [],zF13 3 [] [],zF13 4 [] [12],zF13 5 [] [],zF13 6 [] [],zF13 7 [] [],zF13 8 [] [],zF13 9 [] [],zF13 10 [] [],zF13 11 [] [],zF13 12 [] [],zF13 13 [] []]),
 (14,[zF14 0 [yF,yF] [],zF14 1 [yO,yO,yO,yO,yO,yO,yF] [],zF14 2 [] [],zF14 3 [] [],zF14 4 [] [],zF14 5 [yO,yO,yN] [],zF14 6 [] [],zF14 7 [] [],zF14 8 [yO,yO,yO,yO,yO,yO,yO,yN] [11],zF14 9 [yO,yO,yO,yO,yN,yO,yO,yO,yO,yN] [],zF14 10 [yN] [],zF14 11 [] []]),
 (15,[zF15 0 [yF] [],zF15 1 [] [],zF15 2 [] [],zF15 4 [] [],zF15 5 [] [],zF15 3 [yO,yN] [],zF15 6 [yO,yO,yO,yO,yO,yS,yS,yS,yS,yO,yO,yS,yS,yS,yS,yO,yO,yS,yS,yS,yS] []]),
 (16,[zF16 0 [yF] [],zF16 1 [] [],zF16 2 [] [],zF16 3 [] [],zF16 5 [yO,yO,yO,yO,yO,yF] [],zF16 4 [yO,yN] [],zF16 6 [yO,yO,yO,yO,yO,yO,yO,yO,yO,yO,yO,yO,yO,yO,yO,yO,yO,yO,yO,yO,yO,yO,yO,yO,yF] [],zF16 7 [] [],zF16 8 [] [],zF16 9 [] [],zF16 10 [] [],zF16 12 [] [],zF16 13 [] [],zF16 14 [] [],zF16 11 [yO,yN] [],zF16 15 [] []]),
 (17,[zF17 0 [] [],zF17 1 [yO,yO,yO,yO,yO,yO,yO,yO,yF] [],zF17 2 [] [],zF17 3 [] [],zF17 4 [] [],zF17 5 [] [],zF17 7 [yO,yO,yO,yO,yO,yO,yO,yO,yO,yO,yO,yO,yO,yO,yO,yO,yO,yO,yO,yO,yO,yS,yS,yS,yS,yS,yS,yS,yM,yS,yS,yS,yS,yS,yO,yO,yF] [],zF17 8 [] [],zF17 9 [] [],zF17 6 [yO,yN] [],zF17 10 [yO,yO,yO,yN,yO,yO,yO,yO,yO,yO,yO,yN] []]),
 (18,[zF18 0 [yF] [],zF18 1 [yO,yO,yO,yO,yO,yO,yO,yO,yO,yF] []]),
 (19,[zF19 0 [] [],zF19 1 [] [],zF19 2 [] [],zF19 3 [] [],zF19 4 [] [7],zF19 5 [yO,yO,yO,yO,yO,yS,yS,yS,yS] [],zF19 6 [] [],zF19 7 [] []]),
 (20,[zF20 0 [yF,yF,yF] [],zF20 1 [yO,yO,yO,yO,yO,yO,yO,yO,yO,yO,yO,yO,yO,yF] [],zF20 2 [] [],zF20 3 [] [],zF20 4 [] []]),
 (21,[zF21 0 [] [],zF21 1 [] []]),
 (22,[zF22 0 [yF,yF,yF] [],zF22 1 [yO,yO,yO,yO,yO,yO,yO,yO,yS,yS,yS,yS,yS,yO,yO,yS,yS,yS,yO,yO,yO,yO,yF] []]),
 (23,[zF23 0 [yF,yF,yF] [],zF23 1 [] [],zF23 2 [] [],zF23 3 [] [],zF23 4 [yO,yO,yN] [],zF23 5 [] []]),
 (24,[zF24 0 [] [],zF24 1 [] [],zF24 2 [] [],zF24 3 [] []]),
 (25,[zF25 0 [] [],zF25 1 [] [],zF25 2 [] [],zF25 3 [] [],zF25 4 [] [],zF25 5 [yO,yO,yN] [],zF25 6 [yN] [],zF25 7 [] []]),
 (26,[zF26 0 [] [],zF26 1 [] []]),
 (27,[zF27 0 [] [],zF27 1 [] [],zF27 2 [yO,yO,yO,yS,yM,yS,yS,yS] [],zF27 3 [yO,yN] [],zF27 4 [] []]),
 (28,[zF28 0 [] [],zF28 1 [] [],zF28 2 [] [],zF28 3 [] [],zF28 4 [] [],zF28 5 [] [],zF28 6 [yN] [],zF28 7 [] []]),
 (29,[zF29 0 [] [],zF29 1 [] [],zF29 2 [] [],zF29 3 [] []]),
 (30,[zF30 0 [] [],zF30 1 [] [],zF30 2 [] [],zF30 3 [] [],zF30 4 [] [],zF30 5 [] [],zF30 7 [] [],zF30 6 [yO,yN] [],zF30 8 [] []]),
 (31,[zF31 0 [] [],zF31 1 [] [],zF31 2 [] [],zF31 3 [] [],zF31 4 [] [],zF31 5 [] [],zF31 6 [yN] [],zF31 7 [] []]),
 (32,[zF32 0 [yF,yF] [],zF32 1 [] []]),
 (33,[zF33 0 [] [],zF33 1 [yO,yO,yO,yO,yO,yO,yO,yN] []]),
 (34,[zF34 0 [yF,yF,yF,yF] [],zF34 1 [] []]),
 (35,[zF35 0 [] [],zF35 1 [] [],zF35 2 [] [],zF35 3 [] [],zF35 4 [] [],zF35 5 [] [],zF35 6 [yN] [],zF35 7 [] []]),
 (36,[zF36 0 [yF] [],zF36 1 [yO,yO,yO,yO,yO,yO,yO,yO,yO,yO,yO,yO,yO,yO,yO,yO,yO,yF] [],zF36 2 [] [],zF36 3 [] [],zF36 4 [yO,yO,yO,yO,yO,yO,yO,yO,yO,yO,yO,yO,yO,yF] [],zF36 5 [] [],zF36 6 [] [],zF36 7 [] [],zF36 8 [] [],zF36 9 [] [],zF36 10 [yO,yO,yO,yS,yS,yO,yO,yS,yS,yS,yS,yS,yS,yS,yM,yS,yS,yS,yS] [],zF36 11 [] [],zF36 12 [yN] [],zF36 13 [] []]),
 (37,[zF37 0 [] [],zF37 1 [yO,yO,yO,yO,yO,yO,yO,yO,yF] [],zF37 2 [] [],zF37 3 [] [],zF37 4 [] [],zF37 5 [] [],zF37 6 [] [5],zF37 7 [yO,yO,yO,yO,yO,yS,yS,yS,yS,yM,yS,yS,yS,yS,yS,yO,yO,yF] [],zF37 8 [] [],zF37 9 [] [],zF37 10 [yN] [],zF37 11 [yO,yO,yO,yN,yO,yO,yO,yO,yO,yO,yO,yN] []]),
 (38,[zF38 0 [yF] [],zF38 1 [yO,yO,yO,yO,yO,yO,yO,yO,yO,yF] []]),
 (39,[zF39 0 [yF,yF,yF,yF] [],zF39 1 [] [9,10,11],zF39 2 [yO,yO,yO,yO,yN] [],zF39 3 [yO,yO,yO,yO,yN,yO,yO,yO,yO,yN,yN,yO,yO,yO,yO,yN,yN,yO,yO,yO,yO,yN,yO,yO,yO,yO,yN,yN,yO,yO,yO,yO,yN,yN] [],zF39 4 [yO,yO,yO,yO,yO,yO,yO,yO,yO,yO,yO,yN,yO,yO,yN,yN] [],zF39 5 [yO,yO,yO,yO,yO,yO,yO,yO,yO,yN,yO,yO,yO,yN] [],zF39 6 [yO,yO,yN,yO,yN,yO,yN] []]),
 (40,[zF40 0 [] [],zF40 1 [] [],zF40 2 [] [],zF40 4 [] [],zF40 5 [] [],zF40 3 [yO,yN] [],zF40 6 [] []]),
 (41,[zF41 0 [] [],zF41 1 [] []]),
 (42,[zF42 0 [] [],zF42 1 [yO,yO,yO,yO,yO,yO,yO,yO,yO,yO,yF] [],zF42 2 [] [],zF42 3 [] [],zF42 4 [] [],zF42 5 [] [],zF42 6 [] [],zF42 8 [yO,yO,yO,yO,yO,yN] [],zF42 7 [yO,yN] [],zF42 9 [] []]),
 (43,[zF43 0 [] [],zF43 1 [] [],zF43 2 [] [],zF43 4 [] [],zF43 5 [] [],zF43 6 [] [],zF43 3 [yO,yN] [],zF43 7 [] []]),
 (44,[zF44 0 [] [],zF44 1 [yO,yO,yO,yO,yS,yS,yS] []]),
 (45,[zF45 0 [] [],zF45 1 [yO,yO,yO,yO,yO,yO,yO,yO,yO,yO,yF] [],zF45 2 [] [],zF45 3 [] [],zF45 4 [] [],zF45 5 [] [],zF45 7 [yO,yO,yO,yS,yS,yS,yS,yS,yO,yO,yS,yS,yS,yS,yS,yS,yS,yS,yS,yM,yS,yS,yS,yS,yS] [],zF45 8 [] [],zF45 6 [yO,yN] [],zF45 9 [] []]),
 (46,[zF46 0 [] [],zF46 1 [] [],zF46 2 [] [],zF46 3 [] []]),
 (47,[zF47 0 [yF] [],zF47 1 [yO,yO,yO,yO,yO,yO,yO,yO,yN] [5,6],zF47 2 [yO,yO,yO,yO,yO,yO,yS,yS,yS,yS,yS,yO,yO,yO,yO,yO,yO,yO,yO,yO,yO,yO,yO,yO,yF] [],zF47 3 [] [],zF47 4 [] [],zF47 5 [] [],zF47 6 [] [],zF47 8 [yO,yO,yO,yS,yS,yS,yS,yS,yS,yS,yS,yM,yS,yS,yS,yS,yO,yO,yS,yS,yS,yS,yS,yS,yS,yS,yS,yS,yS,yS,yS,yS,yS] [],zF47 9 [] [],zF47 7 [yO,yN] [],zF47 10 [] []]),
 (48,[zF48 0 [] [],zF48 1 [] []]),
 (49,[zF49 0 [] [],zF49 1 [] []]),
 (50,[zF50 0 [] [],zF50 1 [] [],zF50 2 [yO,yO,yO,yN] [],zF50 3 [] [],zF50 4 [] [7],zF50 5 [] [],zF50 6 [] [],zF50 7 [yN] [],zF50 8 [yO,yO,yO,yO,yO,yO,yN] [8,9],zF50 9 [yO,yO,yO,yN,yO,yO,yO,yO,yN] [],zF50 10 [] [12],zF50 11 [yO,yO,yO,yO,yO,yO,yO,yN,yO,yO,yO,yO,yO,yO,yN] []]),
 (51,[zF51 0 [yF] [],zF51 1 [yO,yO,yO,yO,yO,yO,yF] []]),
 (52,[zF52 0 [] [],zF52 1 [] []]),
 (53,[zF53 0 [yF,yF,yF] [],zF53 1 [] [7],zF53 2 [] [8],zF53 3 [] [],zF53 4 [] [],zF53 5 [] [],zF53 6 [yO,yO,yO,yO,yO,yO,yO,yN,yO,yO,yO,yO,yO,yN] [],zF53 7 [yO,yO,yN] [],zF53 8 [yO,yO,yO,yN,yN] [],zF53 9 [yO,yN] []]),
 (54,[zF54 0 [] [],zF54 1 [] [],zF54 2 [] [],zF54 3 [] []]),
 (55,[zF55 0 [] [],zF55 1 [] [],zF55 2 [] [],zF55 3 [] [],zF55 4 [] [],zF55 5 [yO,yO,yO,yO,yF] [],zF55 6 [yN] [],zF55 7 [] []]),
 (56,[zF56 0 [] [],zF56 1 [yO,yO,yO,yO,yS,yS,yS] []]),
 (57,[zF57 0 [] [],zF57 1 [] [],zF57 2 [yO,yN] [],zF57 3 [] [],zF57 4 [yO,yN] [],zF57 5 [yN] [],zF57 6 [] []]),
 (58,[zF58 0 [] [],zF58 1 [] [],zF58 3 [] [],zF58 2 [yO,yN] []]),
 (59,[zF59 0 [] [],zF59 1 [] [],zF59 2 [] [],zF59 3 [] [],zF59 4 [yO,yO,yO,yS,yS,yO,yO,yS,yS,yS,yS,yS,yS] [],zF59 5 [yO,yO,yO,yS,yS,yS,yS,yS,yS,yS,yS,yS,yS,yS,yS,yS,yS] [],zF59 6 [] [],zF59 7 [yO,yO,yO,yS,yS,yS] []]),
 (60,[zF60 0 [] [],zF60 1 [yO,yO,yO,yO,yO,yO,yO,yF] []]),
 (61,[zF61 0 [yF] [],zF61 1 [] []]),
 (62,[zF62 0 [] [],zF62 1 [] [],zF62 2 [] [],zF62 3 [] [],zF62 4 [] [],zF62 5 [yO,yO,yN] [],zF62 6 [yN] [],zF62 7 [] []]),
 (63,[zF63 0 [] [],zF63 1 [yO,yO,yO,yO,yS,yS,yS] []]),
 (64,[zF64 0 [yF] [],zF64 1 [] [],zF64 2 [] [],zF64 3 [] [],zF64 4 [yO,yO,yO,yF] [],zF64 5 [] [],zF64 6 [] [],zF64 7 [] [6],zF64 8 [yO,yO,yO,yO,yO,yO,yO,yO,yO,yO,yO,yO,yO,yO,yO,yO,yO,yO,yO,yO,yF] [],zF64 9 [] [],zF64 10 [] [],zF64 11 [] [],zF64 12 [] [],zF64 13 [] [],zF64 14 [yO,yO,yO,yS,yS,yS,yS,yM,yS,yS,yS,yO,yO,yS,yS,yS,yS,yS,yS,yS] [],zF64 15 [] [],zF64 16 [yN] [],zF64 17 [] [],zF64 18 [yN] [],zF64 19 [] []]),
 (65,[zF65 0 [yF] [],zF65 1 [yO,yO,yO,yO,yO,yO,yO,yO,yO,yF] []]),
 (66,[zF66 0 [] [],zF66 1 [] [],zF66 2 [yO,yO,yN,yO,yO,yN,yO,yO,yO,yN,yO,yO,yN] []]),
 (67,[zF67 0 [yF,yF] [],zF67 1 [] [],zF67 2 [] [],zF67 3 [] [],zF67 4 [] [],zF67 5 [] [],zF67 6 [] [],zF67 7 [yN] [],zF67 8 [] [],zF67 9 [] [],zF67 10 [yO,yO,yO,yO,yO,yN] [],zF67 11 [yO,yO,yO,yS,yS,yS,yS,yS,yS,yS,yS] [],zF67 12 [] [],zF67 13 [yO,yO,yO,yN] [11,12],zF67 14 [yO,yO,yO,yO,yO,yO,yO,yO,yO,yO,yO,yO,yO,yN,yO,yO,yO,yO,yN] []]),
 (68,[zF68 0 [] [],zF68 1 [] [],zF68 2 [] [],zF68 3 [] [],zF68 4 [] [],zF68 5 [] [],zF68 7 [] [],zF68 6 [yO,yN] [],zF68 8 [] []]),
 (69,[zF69 0 [] [],zF69 1 [yO,yO,yN] [],zF69 2 [yO,yO,yN] [],zF69 3 [yO,yN] [],zF69 4 [] []]),
 (70,[zF70 0 [] [],zF70 1 [yO,yO,yO,yO,yS,yS,yS] [],zF70 2 [] [],zF70 3 [] [],zF70 4 [] [],zF70 6 [yO,yO,yO,yO,yO,yS,yS,yS,yS,yO,yO,yS,yS,yS,yS,yS,yS,yS,yS,yS,yS] [],zF70 7 [yO,yO,yO,yO,yO,yS,yS,yS,yS,yO,yO,yS,yS,yS,yS] [],zF70 8 [yO,yO,yO,yS,yS,yS,yS,yS,yS] [],zF70 9 [] [],zF70 5 [yO,yN] [],zF70 10 [] []]),
 (71,[zF71 0 [] [],zF71 1 [yO,yO,yO,yN,yO,yN,yO,yO,yN] []]),
 (72,[zF72 0 [yF,yF] [],zF72 1 [yO,yO,yO,yO,yN,yO,yO,yO,yO,yN,yO,yO,yO,yO,yN] []]),
 (73,[zF73 0 [yF] [],zF73 1 [yO,yO,yO,yO,yN,yO,yO,yO,yO,yN,yN,yO,yO,yO,yO,yN] []]),
 (74,[zF74 0 [yF,yF] [],zF74 1 [yO,yO,yO,yO,yN,yO,yO,yO,yO,yN,yN,yO,yO,yO,yO,yN,yO,yO,yO,yO,yN,yN] [],zF74 2 [] [],zF74 3 [] [],zF74 5 [yO,yO,yO,yO,yS,yS,yO,yO,yS,yS,yS,yS,yS,yS] [],zF74 6 [] [],zF74 7 [yO,yO,yO,yO,yS,yS] [],zF74 8 [yO,yN] [],zF74 9 [yO,yO,yN] [],zF74 4 [yO,yN] [],zF74 10 [] []]),
 (75,[zF75 0 [] [],zF75 1 [] [],zF75 2 [] [],zF75 3 [] [],zF75 4 [] [],zF75 5 [yO,yO,yO,yO,yF] [],zF75 6 [yN] [],zF75 7 [] []]),
 (76,[zF76 0 [] [],zF76 1 [] []]),
 (77,[zF77 0 [] [],zF77 1 [] [],zF77 2 [] [],zF77 3 [] [],zF77 4 [] [],zF77 5 [] [],zF77 6 [yN] [],zF77 7 [] []]),
 (78,[zF78 0 [yF] [],zF78 1 [] []])]
def G0:List (Nat × List AV):=[(0,[.i 10,.i 13,.i 16,.i 20,.i 25,.i 32,.i 40,.i 50,.i 63,.i 79])]
theorem tok:TOK Tryd.prog T0:=TOK.of_map (by kernel_rfl)
theorem mix:Tryd.prog.follows .mixedOrders=true:=by kernel_rfl
def bodyOf (fn:Func):Code:=fn.body.getD .skip
theorem vc_of {p q:Prop} (hq:q) (h:p=q):p:=h ▸ hq
theorem c_of {f : Nat} {args : List AV} {r : AV} (fn : Func) (B : BA) (hf : Tryd.prog.funcs[f]? = some fn) (hb : fn.body = some (bodyOf fn)) (hn : (fn.name == "runtime.NumGoroutine") = false) (hlen : Nat.ble args.length fn.ntmps = true)
 {q:Prop} (hq:q) (h:VC (bodyE Tryd.prog T0 G0 fn.ntmps []) B 10000 0 (bodyOf fn) (startS args) (retQ T0 fn fun v=>v=r)=q):PCall Tryd.prog G0 f args r :=
 call_of_VC tok mix hf hb hn (Nat.le_of_ble_eq_true hlen) B (vc_of hq h)
def setRd:Nat->(List AV->Option AV)->List An->List An
 | 0,f,[]=>[{ rd:=f }]
 | 0,f,a::l=>{ a with rd:=f }::l
 | n+1,f,[]=>{}::setRd n f []
 | n+1,f,a::l=>a::setRd n f l
def addRd:List (Nat × Nat × (List AV->Option AV))->Nat->RA->RA
 | [],_,ra=>ra
 | (i,k,f)::l,j,ra=>addRd l j (if i.beq j then { ra with ans:=setRd k f ra.ans } else ra)
def mkB (sp:Nat->List AV->Option AV) (f:Nat) (rds:List (Nat × Nat × (List AV->Option AV))) (la:Nat->Option LA):BA :=
 { ra:=fun i=>addRd rds i ((lk i ((lk f F0).getD [])).getD {}),gs:=fun _=>[],la:=la,fa:=none,spec:=sp }
def noLa:Nat->Option LA:=fun _=>none
end Go.Proofs.YtnbhfmaamloodaaDoor
namespace Go.Proofs.YtnbhfmaamloodaaDoor
open Go Go.Av Go.RowKit
def sWhen (b:Bool) (e:Int):Int:=if b then e else 0
def sFirst:List Int->Int
 | []=>0
 | x::l=>if x ≠ 0 then x else sFirst l
def sWithin (x lo hi:Int):Int:=sWhen (if decide (x < lo) then true else decide (x > hi)) 3
def sFloor (n d:Int):Int:=if n.tdiv d * d > n then n.tdiv d-1 else n.tdiv d
def hdI (l:List AV):Int:=match l with
 | [.int _ n]=>n
 | _=>0
def rInt (l:List Int):List (List AV):=l.map fun x=>[.i x]
def sPower (p:Int):Int:=sWithin p 1 100
def sPlace (x y z:Int):Int:=sFirst [sWithin x (-100000) 100000,sWithin y (-100000) 100000,sWithin z 0 20000]
def sFix (t x y z p:Int):Int:=sFirst [sWithin t 0 100000000,sPlace x y z,sPower p]
def spA:Nat->List AV->Option AV
 | 54,[.bool b,.int _ e]=>some (.i (sWhen b e))
 | 46,[.bool b,.int _ e]=>some (.i (sWhen b e))
 | 35,[.sl _ rows]=>some (.i (sFirst (rows.map hdI)))
 | 40,[.sl _ rows]=>some (.i (sFirst (rows.map hdI)))
 | 63,[.int _ x,.int _ lo,.int _ hi]=>some (.i (sWithin x lo hi))
 | 44,[.int _ x,.int _ lo,.int _ hi]=>some (.i (sWithin x lo hi))
 | 52,[.int _ p]=>some (.i (sPower p))
 | 49,[.int _ p]=>some (.i (sPower p))
 | 1019,[.int _ p]=>some (.i (sWithin p 1 1000))
 | 48,[.int _ p]=>some (.i (sWithin p 0 100000000))
 | 1016,[.sl _ rows]=>some (.i (sFirst (rows.map hdI)))
 | 38,[.agg [.int _ x,.int _ y,.int _ z]]=>some (.i (sPlace x y z))
 | 18,[.agg [.int _ x,.int _ y,.int _ z]]=>some (.i (sPlace x y z))
 | 65,[.agg [.int _ t,.int _ x,.int _ y,.int _ z,.int _ p]]=>some (.i (sFix t x y z p))
 | 69,[.int _ n,.int _ d]=>some (.i (sFloor n d))
 | 1143,[.int _ n,.int _ d]=>some (.i (sFloor n d))
 | _,_=>none
theorem rInt_len (es:List Int):(rInt es).length=es.length:=by simp [rInt]
theorem rInt_at {es:List Int} {i:Nat} (h:i < es.length):nthR (rInt es) i=[.i (es.getD i 0)]:=by
 simp [nthR,rInt,List.getD_eq_getElem?_getD,h]
theorem first_drop (es:List Int):∀ (i:Nat),(∀ k,k < i->es.getD k 0=0)->i<=es.length->sFirst es=sFirst (es.drop i):=by
 intro i
 induction i with
 | zero=>intros;rfl
 | succ i ih =>
  intro h hl
  rw [ih (fun k hk=>h k (by omega)) (by omega)]
  have:=h i (by omega)
  rw [List.drop_eq_getElem_cons (show i < es.length by omega)]
  rw [List.getD_eq_getElem?_getD,List.getElem?_eq_getElem (show i < es.length by omega)] at this
  simp at this
  simp [sFirst,this]
theorem first_hit {es:List Int} {i:Nat} (h:i < es.length) (h0:∀ k,k < i->es.getD k 0=0) (hne:es.getD i 0 ≠ 0):sFirst es=es.getD i 0:=by
 rw [first_drop es i h0 (by omega),List.drop_eq_getElem_cons h]
 simp [List.getD_eq_getElem?_getD,h] at hne
 simp [sFirst,hne,List.getD_eq_getElem?_getD,h]
theorem first_end {es:List Int} (h0:∀ k,k < es.length->es.getD k 0=0):sFirst es=0:=by
 rw [first_drop es es.length h0 (Nat.le_refl _)]
 simp [sFirst]
theorem c54 (b:Bool) (e:Int) :PCall Tryd.prog G0 54 [.bool b,.i e] (.i (sWhen b e)):=by
 have key :
  (b=true->AV.int IntKind.i64 e=AV.int IntKind.i64 (sWhen b e))∧(b=false->AV.int IntKind.i64 (0:Int)=AV.int IntKind.i64 (sWhen b e)):=by
   exact ⟨fun h=>by simp [sWhen,h],fun h=>by simp [sWhen,h]⟩
 exact c_of Tryd.f54 (mkB spA 54 [] noLa) (by kernel_rfl) (by kernel_rfl) (by kernel_rfl) (by kernel_rfl) key (by kernel_rfl)
theorem c46 (b:Bool) (e:Int) :PCall Tryd.prog G0 46 [.bool b,.i e] (.i (sWhen b e)):=by
 have key :
  (b=true->AV.int IntKind.i64 e=AV.int IntKind.i64 (sWhen b e))∧(b=false->AV.int IntKind.i64 (0:Int)=AV.int IntKind.i64 (sWhen b e)):=by
   exact ⟨fun h=>by simp [sWhen,h],fun h=>by simp [sWhen,h]⟩
 exact c_of Tryd.f46 (mkB spA 46 [] noLa) (by kernel_rfl) (by kernel_rfl) (by kernel_rfl) (by kernel_rfl) key (by kernel_rfl)
theorem c63 (x lo hi:Int) :PCall Tryd.prog G0 63 [.i x,.i lo,.i hi] (.i (sWithin x lo hi)):=by
 have key :
  ((!decide (x < lo))=true->(!decide (x < lo))=true)∧((!decide (x < lo))=true->(!decide (x < lo))=true)∧(decide (x < lo)=false->(!decide (x < lo))=true)∧PCall Tryd.prog G0 (54:Nat) [AV.bool (if decide (x < lo)
  = true then true else decide (x > hi)),AV.int IntKind.i64 (3:Int)] (AV.int IntKind.i64 (sWhen (if decide (x < lo)=true then true else decide (x > hi)) (3:Int)))∧AV.int IntKind.i64 (sWhen (if decide (x < lo)=true then
  true else decide (x > hi)) (3:Int))=AV.int IntKind.i64 (sWithin x lo hi):=by
   exact ⟨fun h=>h,fun h=>h,fun h=>by simp [h],c54 _ _,rfl⟩
 exact c_of Tryd.f63 (mkB spA 63 [] noLa) (by kernel_rfl) (by kernel_rfl) (by kernel_rfl) (by kernel_rfl) key (by kernel_rfl)
theorem c44 (x lo hi:Int) :PCall Tryd.prog G0 44 [.i x,.i lo,.i hi] (.i (sWithin x lo hi)):=by
 have key :
  ((!decide (x < lo))=true->(!decide (x < lo))=true)∧((!decide (x < lo))=true->(!decide (x < lo))=true)∧(decide (x < lo)=false->(!decide (x < lo))=true)∧PCall Tryd.prog G0 (46:Nat) [AV.bool (if decide (x < lo)
  = true then true else decide (x > hi)),AV.int IntKind.i64 (3:Int)] (AV.int IntKind.i64 (sWhen (if decide (x < lo)=true then true else decide (x > hi)) (3:Int)))∧AV.int IntKind.i64 (sWhen (if decide (x < lo)=true then
  true else decide (x > hi)) (3:Int))=AV.int IntKind.i64 (sWithin x lo hi):=by
   exact ⟨fun h=>h,fun h=>h,fun h=>by simp [h],c46 _ _,rfl⟩
 exact c_of Tryd.f44 (mkB spA 44 [] noLa) (by kernel_rfl) (by kernel_rfl) (by kernel_rfl) (by kernel_rfl) key (by kernel_rfl)
def la87 (es:List Int):LA:={
 pre:=[.keep [0,5,6,7] [],.bound 1],post:=[.keep [0,5,6,7] [],.bound 1]
 Gh:=Nat
 st:=fun i=>⟨[(0,.sl 1 (rInt es)),(5,.sl 1 (rInt es)),(6,.i es.length),(7,.i i)],[],1⟩
 ok:=fun i=>i<=es.length∧∀ k,k < i->es.getD k 0=0
 ms:=fun i=>es.length-i }
def la93 (es:List Int):LA:={
 pre:=[.keep [0,3] [],.bound 1],post:=[.keep [0,3] [],.bound 1]
 Gh:=Nat
 st:=fun i=>⟨[(0,.sl 1 (rInt es)),(3,.i i)],[],1⟩
 ok:=fun i=>i<=es.length∧∀ k,k < i->es.getD k 0=0
 ms:=fun i=>es.length-i }
def rdI (es:List Int):List AV->Option AV
 | [.elt _ _ i _]=>some (.i (es.getD i 0))
 | _=>none
theorem c35 (es:List Int) (hl:es.length<=1000000):PCall Tryd.prog G0 35 [.sl 1 (rInt es)] (.i (sFirst es)):=by
 have key :
  (∃ (g:Nat),(g<=es.length∧∀ (k:Nat),k < g->es.getD k (0:Int)=(0:Int))∧AS.mk [((0:Nat),AV.sl (1:Nat) (rInt es)),((5:Nat),AV.sl (1:Nat) (rInt es)),((6:Nat),AV.int IntKind.i64 (↑(rInt es).length :
  Int)),((7:Nat),AV.int IntKind.i64 (0:Int))] [] (1:Nat)=AS.mk [((0:Nat),AV.sl (1:Nat) (rInt es)),((5:Nat),AV.sl (1:Nat) (rInt es)),((6:Nat),AV.int IntKind.i64 (↑es.length:Int)),((7:Nat),AV.int
  IntKind.i64 (g:Int))] [] (1:Nat))∧∀ (g:Nat),(g<=es.length∧∀ (k:Nat),k < g->es.getD k (0:Int)=(0:Int))->(decide ((g:Int) < (↑es.length:Int))=true->(0:Int)<=(g:Int)∧(g:Int) < (↑(rInt
  es).length:Int)∧nth (nthR (rInt es) (g:Int).toNat) (0:Nat)=AV.int IntKind.i64 (es.getD (g:Int).toNat (0:Int))∧((es.getD (g:Int).toNat (0:Int) != 0)=true->AV.int IntKind.i64 (es.getD (g:Int).toNat (0 :
  Int))=AV.int IntKind.i64 (sFirst es))∧((es.getD (g:Int).toNat (0:Int) != 0)=false->In64 ((g:Int)+1)∧∃ (g':Nat),(g'<=es.length∧∀ (k:Nat),k < g'->es.getD k (0:Int)=(0:Int))∧es.length-g' <
  es.length-g∧AS.mk [((0:Nat),AV.sl (1:Nat) (rInt es)),((5:Nat),AV.sl (1:Nat) (rInt es)),((6:Nat),AV.int IntKind.i64 (↑es.length:Int)),((7:Nat),AV.int IntKind.i64 ((g:Int)+1))] [] (1:Nat)=AS.mk [((0
  : Nat),AV.sl (1:Nat) (rInt es)),((5:Nat),AV.sl (1:Nat) (rInt es)),((6:Nat),AV.int IntKind.i64 (↑es.length:Int)),((7:Nat),AV.int IntKind.i64 (↑g':Int))] [] (1:Nat)))∧(decide ((g:Int) < (↑es.length:Int))
  = false->AV.int IntKind.i64 (0:Int)=AV.int IntKind.i64 (sFirst es)):=by
   refine ⟨⟨0,⟨by omega,by intros;omega⟩,by simp [rInt_len]⟩,fun g ⟨h1,h2⟩=>⟨fun hd=>?_,fun hd=>?_⟩⟩
   · have hlt:g < es.length:=by simpa using hd
     refine ⟨by omega,by rw [rInt_len];omega,by simp [rInt_at hlt,nth],fun hne=>?_,fun hz=>⟨?_,g+1,⟨hlt,fun k hk=>?_⟩,by omega,rfl⟩⟩
     · rw [first_hit hlt h2 (by simpa using hne)];rfl
     · unfold In64;omega
     · by_cases e:k=g
       · subst e;simpa using hz
       · exact h2 k (by omega)
   · have hge:g=es.length:=by simp at hd;omega
     rw [first_end (hge ▸ h2)]
 exact c_of Tryd.f35 (mkB spA 35 [(3,1,rdI es)] (fun i=>if i.beq 0 then some (la87 es) else none)) (by kernel_rfl) (by kernel_rfl) (by kernel_rfl) (by kernel_rfl) key (by kernel_rfl)
theorem c40 (es:List Int) (hl:es.length<=1000000):PCall Tryd.prog G0 40 [.sl 1 (rInt es)] (.i (sFirst es)):=by
 have key :
  (∃ (g:Nat),(g<=es.length∧∀ (k:Nat),k < g->es.getD k (0:Int)=(0:Int))∧AS.mk [((0:Nat),AV.sl (1:Nat) (rInt es)),((3:Nat),AV.int IntKind.i64 (0:Int))] [] (1:Nat)=AS.mk [((0:Nat),AV.sl (1:Nat)
  (rInt es)),((3:Nat),AV.int IntKind.i64 (g:Int))] [] (1:Nat))∧∀ (g:Nat),(g<=es.length∧∀ (k:Nat),k < g->es.getD k (0:Int)=(0:Int))->(decide ((g:Int) < (↑(rInt es).length:Int))=true->(0:Int)<=(↑g
  : Int)∧(g:Int) < (↑(rInt es).length:Int)∧nth (nthR (rInt es) (g:Int).toNat) (0:Nat)=AV.int IntKind.i64 (es.getD (g:Int).toNat (0:Int))∧((es.getD (g:Int).toNat (0:Int) != 0)=true->(0:Int)<=(↑g :
  Int)∧(g:Int) < (↑(rInt es).length:Int)∧nth (nthR (rInt es) (g:Int).toNat) (0:Nat)=AV.int IntKind.i64 (es.getD (g:Int).toNat (0:Int))∧AV.int IntKind.i64 (es.getD (g:Int).toNat (0:Int))=AV.int
  IntKind.i64 (sFirst es))∧((es.getD (g:Int).toNat (0:Int) != 0)=false->In64 ((g:Int)+1)∧∃ (g':Nat),(g'<=es.length∧∀ (k:Nat),k < g'->es.getD k (0:Int)=(0:Int))∧es.length-g' < es.length-g∧AS.mk
  [((0:Nat),AV.sl (1:Nat) (rInt es)),((3:Nat),AV.int IntKind.i64 ((g:Int)+1))] [] (1:Nat)=AS.mk [((0:Nat),AV.sl (1:Nat) (rInt es)),((3:Nat),AV.int IntKind.i64 (↑g':Int))] [] (1:Nat)))∧(decide ((↑g :
  Int) < (↑(rInt es).length:Int))=false->AV.int IntKind.i64 (0:Int)=AV.int IntKind.i64 (sFirst es)):=by
   refine ⟨⟨0,⟨by omega,by intros;omega⟩,by simp⟩,fun g ⟨h1,h2⟩=>⟨fun hd=>?_,fun hd=>?_⟩⟩
   · have hlt:g < es.length:=by simpa [rInt_len] using hd
     refine ⟨by omega,by rw [rInt_len];omega,by simp [rInt_at hlt,nth],fun hne=>?_,fun hz=>⟨?_,g+1,⟨hlt,fun k hk=>?_⟩,by omega,rfl⟩⟩
     · refine ⟨by omega,by rw [rInt_len];omega,by simp [rInt_at hlt,nth],?_⟩
       rw [first_hit hlt h2 (by simpa using hne)];rfl
     · unfold In64;omega
     · by_cases e:k=g
       · subst e;simpa using hz
       · exact h2 k (by omega)
   · have hge:g=es.length:=by simp [rInt_len] at hd;omega
     rw [first_end (hge ▸ h2)]
 exact c_of Tryd.f40 (mkB spA 40 [(4,3,rdI es),(5,3,rdI es)] (fun i=>if i.beq 0 then some (la93 es) else none)) (by kernel_rfl) (by kernel_rfl) (by kernel_rfl) (by kernel_rfl) key (by kernel_rfl)
theorem c52 (p:Int) :PCall Tryd.prog G0 52 [.i p] (.i (sPower p)):=by
 have key :
  PCall Tryd.prog G0 (63:Nat) [AV.int IntKind.i64 p,AV.int IntKind.i64 (1:Int),AV.int IntKind.i64 (100:Int)] (AV.int IntKind.i64 (sWithin p (1:Int) (100:Int)))∧AV.int IntKind.i64 (sWithin p (1:Int) (100:Int)) =
  AV.int IntKind.i64 (sPower p):=by
   exact ⟨c63 _ _ _,rfl⟩
 exact c_of Tryd.f52 (mkB spA 52 [] noLa) (by kernel_rfl) (by kernel_rfl) (by kernel_rfl) (by kernel_rfl) key (by kernel_rfl)
theorem c49 (p:Int) :PCall Tryd.prog G0 49 [.i p] (.i (sPower p)):=by
 have key :
  PCall Tryd.prog G0 (44:Nat) [AV.int IntKind.i64 p,AV.int IntKind.i64 (1:Int),AV.int IntKind.i64 (100:Int)] (AV.int IntKind.i64 (sWithin p (1:Int) (100:Int)))∧AV.int IntKind.i64 (sWithin p (1:Int) (100:Int)) =
  AV.int IntKind.i64 (sPower p):=by
   exact ⟨c44 _ _ _,rfl⟩
 exact c_of Tryd.f49 (mkB spA 49 [] noLa) (by kernel_rfl) (by kernel_rfl) (by kernel_rfl) (by kernel_rfl) key (by kernel_rfl)
theorem c48 (p:Int) :PCall Tryd.prog G0 48 [.i p] (.i (sWithin p 0 100000000)):=by
 have key :
  PCall Tryd.prog G0 (44:Nat) [AV.int IntKind.i64 p,AV.int IntKind.i64 (0:Int),AV.int IntKind.i64 (100000000:Int)] (AV.int IntKind.i64 (sWithin p (0:Int) (100000000:Int)))∧AV.int IntKind.i64 (sWithin p (0:Int)
  (100000000:Int))=AV.int IntKind.i64 (sWithin p (0:Int) (100000000:Int)):=by
   exact ⟨c44 _ _ _,rfl⟩
 exact c_of Tryd.f48 (mkB spA 48 [] noLa) (by kernel_rfl) (by kernel_rfl) (by kernel_rfl) (by kernel_rfl) key (by kernel_rfl)
theorem c38 (x y z:Int) :PCall Tryd.prog G0 38 [.agg [.i x,.i y,.i z]] (.i (sPlace x y z)):=by
 have key :
  PCall Tryd.prog G0 (63:Nat) [AV.int IntKind.i64 x,AV.int IntKind.i64 (-100000:Int),AV.int IntKind.i64 (100000:Int)] (AV.int IntKind.i64 (sWithin x (-100000:Int) (100000:Int)))∧PCall Tryd.prog G0 (63:Nat) [AV.int
  IntKind.i64 y,AV.int IntKind.i64 (-100000:Int),AV.int IntKind.i64 (100000:Int)] (AV.int IntKind.i64 (sWithin y (-100000:Int) (100000:Int)))∧PCall Tryd.prog G0 (63:Nat) [AV.int IntKind.i64 z,AV.int IntKind.i64 (0 :
  Int),AV.int IntKind.i64 (20000:Int)] (AV.int IntKind.i64 (sWithin z (0:Int) (20000:Int)))∧PCall Tryd.prog G0 (35:Nat) [AV.sl (1:Nat) [[AV.int IntKind.i64 (sWithin x (-100000:Int) (100000:Int))],[AV.int IntKind.i64
  (sWithin y (-100000:Int) (100000:Int))],[AV.int IntKind.i64 (sWithin z (0:Int) (20000:Int))]]] (AV.int IntKind.i64 (sFirst [hdI [AV.int IntKind.i64 (sWithin x (-100000:Int) (100000:Int))],hdI [AV.int IntKind.i64
  (sWithin y (-100000:Int) (100000:Int))],hdI [AV.int IntKind.i64 (sWithin z (0:Int) (20000:Int))]]))∧AV.int IntKind.i64 (sFirst [hdI [AV.int IntKind.i64 (sWithin x (-100000:Int) (100000:Int))],hdI [AV.int IntKind.i64
  (sWithin y (-100000:Int) (100000:Int))],hdI [AV.int IntKind.i64 (sWithin z (0:Int) (20000:Int))]])=AV.int IntKind.i64 (sPlace x y z):=by
   exact ⟨c63 _ _ _,c63 _ _ _,c63 _ _ _,c35 [_,_,_] (by simp),rfl⟩
 exact c_of Tryd.f38 (mkB spA 38 [] noLa) (by kernel_rfl) (by kernel_rfl) (by kernel_rfl) (by kernel_rfl) key (by kernel_rfl)
theorem c18 (x y z:Int) :PCall Tryd.prog G0 18 [.agg [.i x,.i y,.i z]] (.i (sPlace x y z)):=by
 have key :
  PCall Tryd.prog G0 (44:Nat) [AV.int IntKind.i64 x,AV.int IntKind.i64 (-100000:Int),AV.int IntKind.i64 (100000:Int)] (AV.int IntKind.i64 (sWithin x (-100000:Int) (100000:Int)))∧PCall Tryd.prog G0 (44:Nat) [AV.int
  IntKind.i64 y,AV.int IntKind.i64 (-100000:Int),AV.int IntKind.i64 (100000:Int)] (AV.int IntKind.i64 (sWithin y (-100000:Int) (100000:Int)))∧PCall Tryd.prog G0 (44:Nat) [AV.int IntKind.i64 z,AV.int IntKind.i64 (0 :
  Int),AV.int IntKind.i64 (20000:Int)] (AV.int IntKind.i64 (sWithin z (0:Int) (20000:Int)))∧PCall Tryd.prog G0 (40:Nat) [AV.sl (1:Nat) [[AV.int IntKind.i64 (sWithin x (-100000:Int) (100000:Int))],[AV.int IntKind.i64
  (sWithin y (-100000:Int) (100000:Int))],[AV.int IntKind.i64 (sWithin z (0:Int) (20000:Int))]]] (AV.int IntKind.i64 (sFirst [hdI [AV.int IntKind.i64 (sWithin x (-100000:Int) (100000:Int))],hdI [AV.int IntKind.i64
  (sWithin y (-100000:Int) (100000:Int))],hdI [AV.int IntKind.i64 (sWithin z (0:Int) (20000:Int))]]))∧AV.int IntKind.i64 (sFirst [hdI [AV.int IntKind.i64 (sWithin x (-100000:Int) (100000:Int))],hdI [AV.int IntKind.i64
  (sWithin y (-100000:Int) (100000:Int))],hdI [AV.int IntKind.i64 (sWithin z (0:Int) (20000:Int))]])=AV.int IntKind.i64 (sPlace x y z):=by
   exact ⟨c44 _ _ _,c44 _ _ _,c44 _ _ _,c40 [_,_,_] (by simp),rfl⟩
 exact c_of Tryd.f18 (mkB spA 18 [] noLa) (by kernel_rfl) (by kernel_rfl) (by kernel_rfl) (by kernel_rfl) key (by kernel_rfl)
theorem c65 (t x y z p:Int) :PCall Tryd.prog G0 65 [.agg [.i t,.i x,.i y,.i z,.i p]] (.i (sFix t x y z p)):=by
 have key :
  PCall Tryd.prog G0 (63:Nat) [AV.int IntKind.i64 t,AV.int IntKind.i64 (0:Int),AV.int IntKind.i64 (100000000:Int)] (AV.int IntKind.i64 (sWithin t (0:Int) (100000000:Int)))∧PCall Tryd.prog G0 (38:Nat) [AV.agg [AV.int
  IntKind.i64 x,AV.int IntKind.i64 y,AV.int IntKind.i64 z]] (AV.int IntKind.i64 (sPlace x y z))∧PCall Tryd.prog G0 (52:Nat) [AV.int IntKind.i64 p] (AV.int IntKind.i64 (sPower p))∧PCall Tryd.prog G0 (35:Nat) [AV.sl (1:Nat)
  [[AV.int IntKind.i64 (sWithin t (0:Int) (100000000:Int))],[AV.int IntKind.i64 (sPlace x y z)],[AV.int IntKind.i64 (sPower p)]]] (AV.int IntKind.i64 (sFirst [hdI [AV.int IntKind.i64 (sWithin t (0:Int) (100000000:Int))],
  hdI [AV.int IntKind.i64 (sPlace x y z)],hdI [AV.int IntKind.i64 (sPower p)]]))∧AV.int IntKind.i64 (sFirst [hdI [AV.int IntKind.i64 (sWithin t (0:Int) (100000000:Int))],hdI [AV.int IntKind.i64 (sPlace x y z)],hdI [AV.int
  IntKind.i64 (sPower p)]])=AV.int IntKind.i64 (sFix t x y z p):=by
   exact ⟨c63 _ _ _,c38 _ _ _,c52 _,c35 [_,_,_] (by simp),rfl⟩
 exact c_of Tryd.f65 (mkB spA 65 [] noLa) (by kernel_rfl) (by kernel_rfl) (by kernel_rfl) (by kernel_rfl) key (by kernel_rfl)
end Go.Proofs.YtnbhfmaamloodaaDoor
namespace Go.Proofs.YtnbhfmaamloodaaDoor
open Go Go.Av Go.RowKit
structure Pt where
 x:Int
 y:Int
 deriving Inhabited
structure Fx where
 t:Int
 x:Int
 y:Int
 z:Int
 p:Int
 deriving Inhabited
structure St where
 a:Int
 h:Int
 p:Int
 deriving Inhabited
def encFx (r:Fx):List AV:=[.i r.t,.i r.x,.i r.y,.i r.z,.i r.p]
def rdL {α:Type} [Inhabited α] (k:Nat) (enc:α->List AV) (l:List α) (size:Nat) (agg:Bool):List AV->Option AV
 | [.elt k' _ i j]=>if k'.beq k then some (if agg then .agg (((enc (l.getD i default)).drop j).take size) else nth (enc (l.getD i default)) j) else none
 | _=>none
def rdOr:List (List AV->Option AV)->List AV->Option AV
 | [],_=>none
 | f::fs,x=>match f x with
  | some v=>some v
  | none=>rdOr fs x
theorem row_at {α:Type} [Inhabited α] (enc:α->List AV) {l:List α} {i:Nat} (h:i < l.length):nthR (l.map enc) i=enc (l.getD i default):=by
 simp [nthR,List.getD_eq_getElem?_getD,h]
def sScan (f:Nat->Int) (n:Nat) (fin:Int):Int:=sFirst ((List.range n).map f++[fin])
theorem scan_hit {f:Nat->Int} {n i:Nat} {fin:Int} (h:i < n) (h0:∀ k,k < i->f k=0) (hne:f i ≠ 0):sScan f n fin=f i:=by
 have e:∀ k,k < n->((List.range n).map f++[fin]).getD k 0=f k:=fun k hk=>by
  simp [List.getD_eq_getElem?_getD,List.getElem?_append,hk]
 rw [sScan,first_hit (i:=i) (by simp;omega) (fun k hk=>by rw [e k (by omega)];exact h0 k hk) (by rw [e i h];exact hne),e i h]
theorem scan_end {f:Nat->Int} {n:Nat} {fin:Int} (h0:∀ k,k < n->f k=0):sScan f n fin=fin:=by
 have e:∀ k,k < n->((List.range n).map f++[fin]).getD k 0=f k:=fun k hk=>by
  simp [List.getD_eq_getElem?_getD,List.getElem?_append,hk]
 rw [sScan,first_drop _ n (fun k hk=>by rw [e k hk];exact h0 k hk) (by simp),List.drop_left' (by simp)]
 simp [sFirst]
 intro h;exact h.symm
def spB:Nat->List AV->Option AV
 | 1096,[.int _ n,.int _ d]=>some (.i (0-sFloor (0-n) d))
 | n,l=>spA n l
theorem c69 (n d:Int) (hd:d ≠ 0) (h1:In64 (n.tdiv d)) (h2:In64 (n.tdiv d * d)) (h3:In64 (n.tdiv d-1)):PCall Tryd.prog G0 69 [.i n,.i d] (.i (sFloor n d)):=by
 have key :
  ¬d=(0:Int)∧In64 (n.tdiv d)∧In64 (n.tdiv d * d)∧(decide (n.tdiv d * d > n)=true->In64 (n.tdiv d-1)∧AV.int IntKind.i64 (n.tdiv d-1)=AV.int IntKind.i64 (sFloor n d))∧(decide (n.tdiv d * d > n)=false->AV.int
  IntKind.i64 (n.tdiv d)=AV.int IntKind.i64 (sFloor n d)):=by
   refine ⟨hd,h1,h2,fun h=>⟨h3,?_⟩,fun h=>?_⟩
   · simp only [decide_eq_true_eq] at h
     rw [sFloor,if_pos h]
   · simp only [decide_eq_false_iff_not] at h
     rw [sFloor,if_neg h]
 exact c_of Tryd.f69 (mkB spA 69 [] noLa) (by kernel_rfl) (by kernel_rfl) (by kernel_rfl) (by kernel_rfl) key (by kernel_rfl)
theorem bne_t {a:Int} (h:(a != 0)=true):a ≠ 0:=by simpa using h
theorem bne_f {a:Int} (h:(a != 0)=false):a=0:=by simpa using h
def sLS (c:Int) (f:Nat->Int) (n:Nat) (fin:Int):Int:=if c != 0 then c else sScan f n fin
theorem ls_first {c:Int} {f:Nat->Int} {n:Nat} {fin:Int} (h:(c != 0)=true):sLS c f n fin=c:=by rw [sLS,if_pos h]
theorem ls_hit {c:Int} {f:Nat->Int} {n i:Nat} {fin:Int} (h:(c != 0)=false) (hi:decide ((i:Int) < (n:Int))=true) (h0:∀ k,k < i->f k=0) (hne:(f i != 0)=true):sLS c f n fin=f i:=by
 rw [sLS,if_neg (by rw [h];decide),scan_hit (by simpa using hi) h0 (bne_t hne)]
theorem ls_end {c:Int} {f:Nat->Int} {n i:Nat} {fin:Int} (h:(c != 0)=false) (hi:decide ((i:Int) < (n:Int))=false) (hle:i<=n) (h0:∀ k,k < i->f k=0):sLS c f n fin=fin:=by
 have:i=n:=by simp at hi;omega
 subst this
 rw [sLS,if_neg (by rw [h];decide),scan_end h0]
theorem all_succ {f:Nat->Int} {g:Nat} (h:∀ k,k < g->f k=0) (h2:(f g != 0)=false):∀ k,k < g+1->f k=0:=fun k hk=>by
 by_cases e:k=g
 · rw [e];exact bne_f h2
 · exact h k (by omega)
theorem ge_of_dec {i n:Nat} (hi:decide ((i:Int) < (n:Int))=false) (hle:i<=n):i=n:=by simp at hi;omega
theorem lt_of_dec {i n:Nat} (hi:decide ((i:Int) < (n:Int))=true):i < n:=by simpa using hi
theorem av_int {a b:Int} (h:a=b):AV.int .i64 b=.int .i64 a:=by rw [h]
theorem within_zero {x lo hi:Int}:sWithin x lo hi=0 ↔ lo<=x∧x<=hi:=by
 unfold sWithin sWhen
 by_cases h1:x < lo
 · simp [h1];omega
 · by_cases h2:x > hi
   · simp [h1,h2] <;> omega
   · simp [h1,h2] <;> omega
theorem first_zero {x:Int} {l:List Int}:sFirst (x::l)=0 ↔ x=0∧sFirst l=0:=by
 by_cases h:x=0
 · simp [sFirst,h]
 · simp [sFirst,h]
def sLen (n:Nat):Int:=sFirst [sWhen (decide ((n:Int) < 2)) 16,sWhen (decide ((n:Int) > 16)) 5]
def prv (i:Nat):Nat:=(maxI 0 ((i:Int)-1)).toNat
def fTrackS (l:List Fx) (i:Nat):Int:=sFirst [sFix (l.getD i default).t (l.getD i default).x (l.getD i default).y (l.getD i default).z (l.getD i default).p,
 sWhen (if decide ((i:Int) > 0)=true then decide ((l.getD i default).t<=(l.getD (prv i) default).t) else false) 11]
def fTrackR (l:List Fx) (i:Nat):Int:=sFirst [sWithin (l.getD i default).t 0 100000000,sPlace (l.getD i default).x (l.getD i default).y (l.getD i default).z,sPower (l.getD i default).p,
 sWhen (if decide ((i:Int) > 0)=true then decide ((l.getD i default).t<=(l.getD (prv i) default).t) else false) 11]
def lastOf (n:Nat):Nat:=((n:Int)-1).toNat
def sSpan (l:List Fx):Int:=sWhen (decide ((l.getD (lastOf (l.map encFx).length) default).t-(l.getD 0 default).t > 1000)) 14
def sTrackS (l:List Fx):Int:=sLS (sLen (l.map encFx).length) (fTrackS l) (l.map encFx).length (sSpan l)
def sTrackR (l:List Fx):Int:=sLS (sLen (l.map encFx).length) (fTrackR l) (l.map encFx).length (sSpan l)
theorem len_ge {n:Nat} (h:(sLen n != 0)=false):2<=n∧n<=16:=by
 have h:=bne_f h
 unfold sLen at h
 simp only [first_zero,sWhen] at h
 by_cases h1:(n:Int) < 2
 · simp [h1] at h
 · by_cases h2:(n:Int) > 16
   · simp [h2] at h
   · omega
theorem fTrackS_t {l:List Fx} {i:Nat} (h:fTrackS l i=0):0<=(l.getD i default).t∧(l.getD i default).t<=100000000:=by
 simp only [fTrackS,sFix,first_zero,within_zero] at h
 exact h.1.1
theorem fTrackR_t {l:List Fx} {i:Nat} (h:fTrackR l i=0):0<=(l.getD i default).t∧(l.getD i default).t<=100000000:=by
 simp only [fTrackR,first_zero,within_zero] at h
 exact h.1
def la76 (l:List Fx):LA:={
 pre:=[.keep [0,20,21,22] [],.bound 1],post:=[.keep [0,20,21,22] [],.bound 1]
 Gh:=Nat
 st:=fun i=>⟨[(0,.sl 5 (l.map encFx)),(20,.sl 5 (l.map encFx)),(21,.i (l.map encFx).length),(22,.i i)],[],1⟩
 ok:=fun i=>i<=(l.map encFx).length∧∀ k,k < i->fTrackS l k=0
 ms:=fun i=>(l.map encFx).length-i }
abbrev zc37c (l:List Fx) (g:Nat):=l.getD (g:Int).toNat default
abbrev zc37f (g:Nat) (l:List Fx):=if decide ((g:Int) > 0)=true then decide ((zc37c l g).t<=(l.getD (maxI (0:Int) ((g:Int)-1)).toNat default).t) else false
abbrev zc37a (l:List Fx) (g:Nat):=[hdI [AV.int IntKind.i64 (sFix (zc37c l g).t (zc37c l g).x (zc37c l g).y (zc37c l g).z (zc37c l g).p)],hdI [AV.int IntKind.i64 (sWhen (zc37f g l) (11:Int))]]
abbrev zc37b (l:List Fx):=(↑(List.map encFx l).length:Int)
abbrev zc37d (g:Nat):=decide ((g:Int) > 0)=true->decide ((g:Int) > 0)=true
abbrev zc37e (l:List Fx):=[hdI [AV.int IntKind.i64 (sWhen (decide ((zc37b l) < 2)) (16:Int))],hdI [AV.int IntKind.i64 (sWhen (decide ((zc37b l) > 16)) (5:Int))]]
abbrev zc37g (l:List Fx):=decide ((l.getD ((zc37b l)-1).toNat default).t-(l.getD (Int.toNat (0:Int)) default).t > 1000)
theorem c37 (l:List Fx) (hl:(l.map encFx).length<=1000000):PCall Tryd.prog G0 37 [.sl 5 (l.map encFx)] (.i (sTrackS l)):=by
 have key :
  PCall Tryd.prog G0 (54:Nat) [AV.bool (decide ((zc37b l) < 2)),AV.int IntKind.i64 (16:Int)] (AV.int IntKind.i64 (sWhen (decide ((zc37b l) < 2)) (16:Int)))∧PCall Tryd.prog G0 (54:Nat) [AV.bool (decide ((zc37b l) > 16)),
  AV.int IntKind.i64 (5:Int)] (AV.int IntKind.i64 (sWhen (decide ((zc37b l) > 16)) (5:Int)))∧PCall Tryd.prog G0 (35:Nat) [AV.sl (1:Nat) [[AV.int IntKind.i64 (sWhen (decide ((zc37b l) < 2)) (16:Int))],[AV.int IntKind.i64
  (sWhen (decide ((zc37b l) > 16)) (5:Int))]]] (AV.int IntKind.i64 (sFirst (zc37e l)))∧((sFirst (zc37e l) != 0)=true->AV.int IntKind.i64 (sFirst (zc37e l))=AV.int IntKind.i64 (sTrackS l))∧((sFirst (zc37e l) != 0)=false →
  (∃ (g:Nat),(g<=(List.map encFx l).length∧∀ (k:Nat),k < g->fTrackS l k=(0:Int))∧AS.mk [((0:Nat),AV.sl (5:Nat) (List.map encFx l)),((20:Nat),AV.sl (5:Nat) (List.map encFx l)),((21:Nat),AV.int
  IntKind.i64 (zc37b l)),((22:Nat),AV.int IntKind.i64 (0:Int))] [] (1:Nat)=AS.mk [((0:Nat),AV.sl (5:Nat) (List.map encFx l)),((20:Nat),AV.sl (5:Nat) (List.map encFx l)),((21:Nat),AV.int IntKind.i64 (zc37b
  l)),((22:Nat),AV.int IntKind.i64 (g:Int))] [] (1:Nat))∧∀ (g:Nat),(g<=(List.map encFx l).length∧∀ (k:Nat),k < g->fTrackS l k=(0:Int))->(decide ((g:Int) < (zc37b l))=true->(0:Int)<=(g:Int)∧(↑g
  : Int) < (zc37b l)∧AV.agg (nthR (List.map encFx l) (g:Int).toNat)=AV.agg [AV.int IntKind.i64 (zc37c l g).t,AV.int IntKind.i64 (zc37c l g).x,AV.int IntKind.i64 (zc37c l g).y,AV.int IntKind.i64 (zc37c l g).z,AV.int
  IntKind.i64 (zc37c l g).p]∧(zc37d g)∧(zc37d g)∧(decide ((g:Int) > 0)=true->In64 ((g:Int)-1))∧(zc37d g)∧(zc37d g)∧(zc37d g)∧(decide ((g:Int) > 0)=true->(0:Int)<=maxI (0:Int) ((g:Int)-1)) ∧
  (decide ((g:Int) > 0)=true->maxI (0:Int) ((g:Int)-1) < (zc37b l))∧(zc37d g)∧(zc37d g)∧(zc37d g)∧(zc37d g)∧(zc37d g)∧PCall Tryd.prog G0 (65:Nat) [AV.agg [AV.int IntKind.i64 (zc37c l g).t,AV.int
  IntKind.i64 (zc37c l g).x,AV.int IntKind.i64 (zc37c l g).y,AV.int IntKind.i64 (zc37c l g).z,AV.int IntKind.i64 (zc37c l g).p]] (AV.int IntKind.i64 (sFix (zc37c l g).t (zc37c l g).x (zc37c l g).y (zc37c l g).z (zc37c l g).p)) ∧
  impB (decide ((g:Int) > 0)) (nth (nthR (List.map encFx l) (maxI (0:Int) ((g:Int)-1)).toNat) (0:Nat)=AV.int IntKind.i64 (l.getD (maxI (0:Int) ((g:Int)-1)).toNat default).t)∧PCall Tryd.prog G0 (54:Nat)
  [AV.bool (zc37f g l),AV.int IntKind.i64 (11:Int)] (AV.int IntKind.i64 (sWhen (zc37f g l) (11:Int)))∧PCall Tryd.prog G0 (35:Nat) [AV.sl (1:Nat) [[AV.int IntKind.i64 (sFix (zc37c l g).t (zc37c l g).x (zc37c l g).y (zc37c l
  g).z (zc37c l g).p)],[AV.int IntKind.i64 (sWhen (zc37f g l) (11:Int))]]] (AV.int IntKind.i64 (sFirst (zc37a l g)))∧((sFirst (zc37a l g) != 0)=true->AV.int IntKind.i64 (sFirst (zc37a l g))=AV.int IntKind.i64 (sTrackS l)) ∧
  ((sFirst (zc37a l g) != 0)=false->In64 ((g:Int)+1)∧∃ (g':Nat),(g'<=(List.map encFx l).length∧∀ (k:Nat),k < g'->fTrackS l k=(0:Int))∧(List.map encFx l).length-g' < (List.map encFx l).length-g∧AS.mk
  [((0:Nat),AV.sl (5:Nat) (List.map encFx l)),((20:Nat),AV.sl (5:Nat) (List.map encFx l)),((21:Nat),AV.int IntKind.i64 (zc37b l)),((22:Nat),AV.int IntKind.i64 ((g:Int)+1))] [] (1:Nat)=AS.mk [((0:Nat),
  AV.sl (5:Nat) (List.map encFx l)),((20:Nat),AV.sl (5:Nat) (List.map encFx l)),((21:Nat),AV.int IntKind.i64 (zc37b l)),((22:Nat),AV.int IntKind.i64 (↑g':Int))] [] (1:Nat)))∧(decide ((g:Int) < (zc37b l)) =
  false->In64 ((zc37b l)-1)∧(0:Int)<=(zc37b l)-1∧(zc37b l)-1 < (zc37b l)∧(0:Int)<=0∧(0:Int) < (zc37b l)∧In64 ((l.getD ((zc37b l)-1).toNat default).t-(l.getD (Int.toNat (0:Int)) default).t)∧nth (nthR
  (List.map encFx l) ((zc37b l)-1).toNat) (0:Nat)=AV.int IntKind.i64 (l.getD ((zc37b l)-1).toNat default).t∧nth (nthR (List.map encFx l) (0:Nat)) (0:Nat)=AV.int IntKind.i64 (l.getD (Int.toNat (0:Int)) default).t ∧
  PCall Tryd.prog G0 (54:Nat) [AV.bool (zc37g l),AV.int IntKind.i64 (14:Int)] (AV.int IntKind.i64 (sWhen (zc37g l) (14:Int)))∧AV.int IntKind.i64 (sWhen (zc37g l) (14:Int))=AV.int IntKind.i64 (sTrackS l))):=by
   delta zc37a zc37b zc37c zc37d zc37e zc37f zc37g
   repeat' (first | apply And.intro | intro _ | refine impB_iff.2 fun _=>?_)
   all_goals try first
    | exact c54 _ _
    | exact c65 _ _ _ _ _
    | exact c35 [_,_] (by simp)
    | assumption
    | (simp only [decide_eq_true_eq,decide_eq_false_iff_not,List.length_map,maxI,minI,In64,Int.toNat_natCast,bne_iff_ne,ne_eq,beq_iff_eq,Bool.not_eq_true',Int.natCast_add,Int.cast_ofNat_Int] at *;omega)
    | (show (_:Bool)=true;simp_all;done)
    | (rw [row_at _ (by simp only [decide_eq_true_eq,decide_eq_false_iff_not,List.length_map,maxI,minI,In64,Int.toNat_natCast,bne_iff_ne,ne_eq,beq_iff_eq,Bool.not_eq_true',Int.natCast_add,Int.cast_ofNat_Int] at *;omega)];rfl)
   · rename_i h;exact av_int (ls_first h)
   · exact ⟨0,⟨by omega,by intros;omega⟩,rfl⟩
   · rename_i h g hg hd hne;exact av_int (ls_hit (f:=fTrackS l) h hd hg.2 hne)
   · rename_i h g hg hd hne;have:=lt_of_dec hd;exact ⟨g+1,⟨this,all_succ (f:=fTrackS l) hg.2 hne⟩,by omega,rfl⟩
   all_goals (rename_i h g hg hd)
   all_goals have hn:=len_ge (n:=(l.map encFx).length) h
   all_goals have hgn:=ge_of_dec hd hg.1
   all_goals have ht:=fun k (hk:k < g)=>fTrackS_t (hg.2 k hk)
   all_goals have h1:=ht (lastOf (l.map encFx).length) (by unfold lastOf;omega)
   all_goals have h2:=ht 0 (by omega)
   all_goals unfold lastOf at h1
   all_goals first
    | omega
    | (simp only [Int.toNat_zero];omega)
    | (rw [row_at _ (by rw [List.length_map] at hn;simp only [List.length_map];omega)];rfl)
    | exact congrArg (fun r=>nth r 0) (row_at encFx (i:=0) (by rw [List.length_map] at hn;omega))
    | exact av_int (ls_end h hd hg.1 hg.2)
 exact c_of Tryd.f37 (mkB spA 37 [(6,2,rdOr [rdL 5 encFx l 5 true]),(7,0,rdOr [rdL 5 encFx l 5 true]),(7,6,rdOr [rdL 5 encFx l 1 false]),(7,13,rdOr [rdL 5 encFx l 1 false]),(11,6,rdOr [rdL 5 encFx l 1 false]),(11,10,rdOr [rdL 5 encFx l 1 false])] (fun i=>if i.beq 0 then some (la76 l) else none)) (by kernel_rfl) (by kernel_rfl) (by kernel_rfl) (by kernel_rfl) key (by kernel_rfl)
def la33 (l:List Fx):LA:={
 pre:=[.keep [0,4] [],.bound 1],post:=[.keep [0,4] [],.bound 1]
 Gh:=Nat
 st:=fun i=>⟨[(0,.sl 5 (l.map encFx)),(4,.i i)],[],1⟩
 ok:=fun i=>i<=(l.map encFx).length∧∀ k,k < i->fTrackR l k=0
 ms:=fun i=>(l.map encFx).length-i }
abbrev zc17d (l:List Fx) (g:Nat):=l.getD (g:Int).toNat default
abbrev zc17f (g:Nat) (l:List Fx):=if decide ((g:Int) > 0)=true then decide ((zc17d l g).t<=(l.getD (maxI (0:Int) ((g:Int)-1)).toNat default).t) else false
abbrev zc17a (l:List Fx) (g:Nat):=[hdI [AV.int IntKind.i64 (sWithin (zc17d l g).t (0:Int) (100000000:Int))],hdI [AV.int IntKind.i64 (sPlace (zc17d l g).x (zc17d l g).y (zc17d l g).z)],hdI [AV.int IntKind.i64 (sPower (zc17d l g).p)],hdI [AV.int IntKind.i64 (sWhen (zc17f g l) (11:Int))]]
abbrev zc17b (l:List Fx):=(↑(List.map encFx l).length:Int)
abbrev zc17c (g:Nat):=decide ((g:Int) > 0)=true->decide ((g:Int) > 0)=true
abbrev zc17e (l:List Fx):=[hdI [AV.int IntKind.i64 (sWhen (decide ((zc17b l) < 2)) (16:Int))],hdI [AV.int IntKind.i64 (sWhen (decide ((zc17b l) > 16)) (5:Int))]]
abbrev zc17g (l:List Fx):=decide ((l.getD ((zc17b l)-1).toNat default).t-(l.getD (Int.toNat (0:Int)) default).t > 1000)
theorem c17 (l:List Fx) (hl:(l.map encFx).length<=1000000):PCall Tryd.prog G0 17 [.sl 5 (l.map encFx)] (.i (sTrackR l)):=by
 have key :
  PCall Tryd.prog G0 (46:Nat) [AV.bool (decide ((zc17b l) < 2)),AV.int IntKind.i64 (16:Int)] (AV.int IntKind.i64 (sWhen (decide ((zc17b l) < 2)) (16:Int)))∧PCall Tryd.prog G0 (46:Nat) [AV.bool (decide ((zc17b l) > 16)),
  AV.int IntKind.i64 (5:Int)] (AV.int IntKind.i64 (sWhen (decide ((zc17b l) > 16)) (5:Int)))∧PCall Tryd.prog G0 (40:Nat) [AV.sl (1:Nat) [[AV.int IntKind.i64 (sWhen (decide ((zc17b l) < 2)) (16:Int))],[AV.int IntKind.i64
  (sWhen (decide ((zc17b l) > 16)) (5:Int))]]] (AV.int IntKind.i64 (sFirst (zc17e l)))∧((sFirst (zc17e l) != 0)=true->AV.int IntKind.i64 (sFirst (zc17e l))=AV.int IntKind.i64 (sTrackR l))∧((sFirst (zc17e l) != 0)=false →
  (∃ (g:Nat),(g<=(List.map encFx l).length∧∀ (k:Nat),k < g->fTrackR l k=(0:Int))∧AS.mk [((0:Nat),AV.sl (5:Nat) (List.map encFx l)),((4:Nat),AV.int IntKind.i64 (0:Int))] [] (1:Nat)=AS.mk [((0:Nat),
  AV.sl (5:Nat) (List.map encFx l)),((4:Nat),AV.int IntKind.i64 (g:Int))] [] (1:Nat))∧∀ (g:Nat),(g<=(List.map encFx l).length∧∀ (k:Nat),k < g->fTrackR l k=(0:Int))->(decide ((g:Int) < (zc17b l))=true
  → (0:Int)<=(g:Int)∧(g:Int) < (zc17b l)∧(0:Int)<=(g:Int)∧(g:Int) < (zc17b l)∧(0:Int)<=(g:Int)∧(g:Int) < (zc17b l)∧(zc17c g)∧(zc17c g)∧(decide ((g:Int) > 0)=true->(0:Int)<=(↑g :
  Int))∧(decide ((g:Int) > 0)=true->(g:Int) < (zc17b l))∧(zc17c g)∧(zc17c g)∧(zc17c g)∧(decide ((g:Int) > 0)=true->In64 ((g:Int)-1))∧(zc17c g)∧(zc17c g)∧(zc17c g)∧(decide ((g:Int) > 0)=true
  → (0:Int)<=maxI (0:Int) ((g:Int)-1))∧(decide ((g:Int) > 0)=true->maxI (0:Int) ((g:Int)-1) < (zc17b l))∧(zc17c g)∧(zc17c g)∧(zc17c g)∧(zc17c g)∧(zc17c g)∧nth (nthR (List.map encFx l) (↑g :
  Int).toNat) (0:Nat)=AV.int IntKind.i64 (zc17d l g).t∧PCall Tryd.prog G0 (48:Nat) [AV.int IntKind.i64 (zc17d l g).t] (AV.int IntKind.i64 (sWithin (zc17d l g).t (0:Int) (100000000:Int)))∧AV.agg (List.take (3:Nat)
  (List.drop (1:Nat) (nthR (List.map encFx l) (g:Int).toNat)))=AV.agg [AV.int IntKind.i64 (zc17d l g).x,AV.int IntKind.i64 (zc17d l g).y,AV.int IntKind.i64 (zc17d l g).z]∧PCall Tryd.prog G0 (18:Nat) [AV.agg [AV.int
  IntKind.i64 (zc17d l g).x,AV.int IntKind.i64 (zc17d l g).y,AV.int IntKind.i64 (zc17d l g).z]] (AV.int IntKind.i64 (sPlace (zc17d l g).x (zc17d l g).y (zc17d l g).z))∧nth (nthR (List.map encFx l) (g:Int).toNat) (4:Nat) =
  AV.int IntKind.i64 (zc17d l g).p∧PCall Tryd.prog G0 (49:Nat) [AV.int IntKind.i64 (zc17d l g).p] (AV.int IntKind.i64 (sPower (zc17d l g).p))∧impB (decide ((g:Int) > 0)) (nth (nthR (List.map encFx l) (g:Int).toNat) (0 :
  Nat)=AV.int IntKind.i64 (zc17d l g).t)∧impB (decide ((g:Int) > 0)) (nth (nthR (List.map encFx l) (maxI (0:Int) ((g:Int)-1)).toNat) (0:Nat)=AV.int IntKind.i64 (l.getD (maxI (0:Int) ((g:Int)-1)).toNat
  default).t)∧PCall Tryd.prog G0 (46:Nat) [AV.bool (zc17f g l),AV.int IntKind.i64 (11:Int)] (AV.int IntKind.i64 (sWhen (zc17f g l) (11:Int)))∧PCall Tryd.prog G0 (40:Nat) [AV.sl (1:Nat) [[AV.int IntKind.i64 (sWithin
  (zc17d l g).t (0:Int) (100000000:Int))],[AV.int IntKind.i64 (sPlace (zc17d l g).x (zc17d l g).y (zc17d l g).z)],[AV.int IntKind.i64 (sPower (zc17d l g).p)],[AV.int IntKind.i64 (sWhen (zc17f g l) (11:Int))]]] (AV.int
  IntKind.i64 (sFirst (zc17a l g)))∧((sFirst (zc17a l g) != 0)=true->AV.int IntKind.i64 (sFirst (zc17a l g))=AV.int IntKind.i64 (sTrackR l))∧((sFirst (zc17a l g) != 0)=false->In64 ((g:Int)+1)∧∃ (g':Nat),(g' ≤
  (List.map encFx l).length∧∀ (k:Nat),k < g'->fTrackR l k=(0:Int))∧(List.map encFx l).length-g' < (List.map encFx l).length-g∧AS.mk [((0:Nat),AV.sl (5:Nat) (List.map encFx l)),((4:Nat),AV.int IntKind.i64
  ((g:Int)+1))] [] (1:Nat)=AS.mk [((0:Nat),AV.sl (5:Nat) (List.map encFx l)),((4:Nat),AV.int IntKind.i64 (↑g':Int))] [] (1:Nat)))∧(decide ((g:Int) < (zc17b l))=false->In64 ((zc17b l)-1)∧(0:Int) ≤
  (zc17b l)-1∧(zc17b l)-1 < (zc17b l)∧(0:Int)<=0∧(0:Int) < (zc17b l)∧In64 ((l.getD ((zc17b l)-1).toNat default).t-(l.getD (Int.toNat (0:Int)) default).t)∧nth (nthR (List.map encFx l) ((zc17b l)-1).toNat) (0
  : Nat)=AV.int IntKind.i64 (l.getD ((zc17b l)-1).toNat default).t∧nth (nthR (List.map encFx l) (0:Nat)) (0:Nat)=AV.int IntKind.i64 (l.getD (Int.toNat (0:Int)) default).t∧PCall Tryd.prog G0 (46:Nat) [AV.bool (zc17g
  l),AV.int IntKind.i64 (14:Int)] (AV.int IntKind.i64 (sWhen (zc17g l) (14:Int)))∧AV.int IntKind.i64 (sWhen (zc17g l) (14:Int))=AV.int IntKind.i64 (sTrackR l))):=by
   delta zc17a zc17b zc17c zc17d zc17e zc17f zc17g
   repeat' (first | apply And.intro | intro _ | refine impB_iff.2 fun _=>?_)
   all_goals try first
    | exact c46 _ _
    | exact c48 _
    | exact c18 _ _ _
    | exact c49 _
    | exact c40 [_,_] (by simp)
    | exact c40 [_,_,_,_] (by simp)
    | assumption
    | (simp only [decide_eq_true_eq,decide_eq_false_iff_not,List.length_map,maxI,minI,In64,Int.toNat_natCast,bne_iff_ne,ne_eq,beq_iff_eq,Bool.not_eq_true',Int.natCast_add,Int.cast_ofNat_Int] at *;omega)
    | (show (_:Bool)=true;simp_all;done)
    | (rw [row_at _ (by simp only [decide_eq_true_eq,decide_eq_false_iff_not,List.length_map,maxI,minI,In64,Int.toNat_natCast,bne_iff_ne,ne_eq,beq_iff_eq,Bool.not_eq_true',Int.natCast_add,Int.cast_ofNat_Int] at *;omega)];rfl)
   · rename_i h;exact av_int (ls_first h)
   · exact ⟨0,⟨by omega,by intros;omega⟩,rfl⟩
   · rename_i h g hg hd hne;exact av_int (ls_hit (f:=fTrackR l) h hd hg.2 hne)
   · rename_i h g hg hd hne;have:=lt_of_dec hd;exact ⟨g+1,⟨this,all_succ (f:=fTrackR l) hg.2 hne⟩,by omega,rfl⟩
   all_goals (rename_i h g hg hd)
   all_goals have hn:=len_ge (n:=(l.map encFx).length) h
   all_goals have hgn:=ge_of_dec hd hg.1
   all_goals have ht:=fun k (hk:k < g)=>fTrackR_t (hg.2 k hk)
   all_goals have h1:=ht (lastOf (l.map encFx).length) (by unfold lastOf;omega)
   all_goals have h2:=ht 0 (by omega)
   all_goals unfold lastOf at h1
   all_goals first
    | omega
    | (simp only [Int.toNat_zero];omega)
    | (rw [row_at _ (by rw [List.length_map] at hn;simp only [List.length_map];omega)];rfl)
    | exact congrArg (fun r=>nth r 0) (row_at encFx (i:=0) (by rw [List.length_map] at hn;omega))
    | exact av_int (ls_end h hd hg.1 hg.2)
 exact c_of Tryd.f17 (mkB spA 17 [(7,4,rdOr [rdL 5 encFx l 1 false]),(7,10,rdOr [rdL 5 encFx l 3 true]),(7,16,rdOr [rdL 5 encFx l 1 false]),(7,25,rdOr [rdL 5 encFx l 1 false]),(7,32,rdOr [rdL 5 encFx l 1 false]),(10,6,rdOr [rdL 5 encFx l 1 false]),(10,10,rdOr [rdL 5 encFx l 1 false])] (fun i=>if i.beq 0 then some (la33 l) else none)) (by kernel_rfl) (by kernel_rfl) (by kernel_rfl) (by kernel_rfl) key (by kernel_rfl)
end Go.Proofs.YtnbhfmaamloodaaDoor
namespace Go.Proofs.YtnbhfmaamloodaaDoor
open Go Go.Av Go.RowKit
def sBetween (a b p w:Int):Int:=a+sFloor ((b-a) * p) w
theorem mul_bound {x y A B:Int} (h1 : -A<=x) (h2:x<=A) (h3 : -B<=y) (h4:y<=B) : -(A * B)<=x * y∧x * y<=A * B:=by
 have hx:x.natAbs<=A.natAbs:=by omega
 have hy:y.natAbs<=B.natAbs:=by omega
 have:=Nat.mul_le_mul hx hy
 rw [<- Int.natAbs_mul,<- Int.natAbs_mul] at this
 have hA:0<=A * B:=Int.mul_nonneg (by omega) (by omega)
 omega
theorem floor_in {n d:Int} (hd:0 < d) (h1 : -2000000000000000000<=n) (h2:n<=2000000000000000000) :
 In64 (n.tdiv d)∧In64 (n.tdiv d * d)∧In64 (n.tdiv d-1) ∧ -2000000000000000001<=sFloor n d∧sFloor n d<=2000000000000000000:=by
 have e:=Int.mul_tdiv_add_tmod n d
 have e2:n.tdiv d * d=d * n.tdiv d:=Int.mul_comm _ _
 have h3:n.tmod d < d:=Int.tmod_lt_of_pos n hd
 have h4 : -d < n.tmod d:=by
  have:=Int.tmod_lt_of_pos (-n) hd
  rw [Int.neg_tmod] at this
  omega
 have h5:(n.tdiv d).natAbs<=n.natAbs:=by rw [Int.natAbs_tdiv];exact Nat.div_le_self _ _
 have h6:(n.tmod d).natAbs<=n.natAbs:=by rw [Int.natAbs_tmod];exact Nat.mod_le _ _
 unfold In64 sFloor
 refine ⟨by omega,by omega,by omega,?_⟩
 split <;> omega
def spC:Nat->List AV->Option AV
 | 71,[.int _ a,.int _ b,.int _ p,.int _ w]=>some (.i (sBetween a b p w))
 | 1097,[.int _ a,.int _ b,.int _ p,.int _ w]=>some (.i (sBetween a b p w))
 | n,l=>spB n l
structure BetOK (a b p w:Int):Prop where
 a1 : -1000000000<=a
 a2:a<=1000000000
 b1 : -1000000000<=b-a
 b2:b-a<=1000000000
 p1 : -1000000000<=p
 p2:p<=1000000000
 w:0 < w
theorem c71 (a b p w:Int) (h:BetOK a b p w):PCall Tryd.prog G0 71 [.i a,.i b,.i p,.i w] (.i (sBetween a b p w)):=by
 have key :
  In64 (b-a)∧In64 ((b-a) * p)∧In64 (a+sFloor ((b-a) * p) w)∧PCall Tryd.prog G0 (69:Nat) [AV.int IntKind.i64 ((b-a) * p),AV.int IntKind.i64 w] (AV.int IntKind.i64 (sFloor ((b-a) * p) w))∧AV.int IntKind.i64 (a +
  sFloor ((b-a) * p) w)=AV.int IntKind.i64 (sBetween a b p w):=by
   have hm:=mul_bound h.b1 h.b2 h.p1 h.p2
   have hf:=floor_in (n:=(b-a) * p) h.w (by omega) (by omega)
   have ha1:=h.a1
   have ha2:=h.a2
   have hb1:=h.b1
   have hb2:=h.b2
   exact ⟨by unfold In64;omega,by unfold In64;omega,by unfold In64;omega,c69 _ _ (by have:=h.w;omega) hf.1 hf.2.1 hf.2.2.1,rfl⟩
 exact c_of Tryd.f71 (mkB spC 71 [] noLa) (by kernel_rfl) (by kernel_rfl) (by kernel_rfl) (by kernel_rfl) key (by kernel_rfl)
structure ProcOK (l:List St):Prop where
 n1:2<=l.length
 n2:l.length<=8
 b:∀ i,i < l.length->0<=(l.getD i default).a∧(l.getD i default).a<=400000∧0<=(l.getD i default).h∧(l.getD i default).h<=20000∧1<=(l.getD i default).p∧(l.getD i default).p<=100
 s:∀ i,i+1 < l.length->(l.getD i default).a < (l.getD (i+1) default).a
 z:(l.getD 0 default).a=0
theorem take_succ {α:Type} [Inhabited α] (enc:α->List AV) {l:List α} {g:Nat} (h:g < l.length):(l.take g).map enc++[enc (l.getD g default)]=(l.take (g+1)).map enc:=by
 rw [List.take_add_one,List.map_append]
 simp [List.getD_eq_getElem?_getD,h]
end Go.Proofs.YtnbhfmaamloodaaDoor
namespace Go.Proofs.YtnbhfmaamloodaaDoor
open Go Go.Av Go.RowKit
def encI (x:Int):List AV:=[.i x]
def setA (f:An->An):Nat->List An->List An
 | 0,[]=>[f {}]
 | 0,a::l=>f a::l
 | n+1,[]=>{}::setA f n []
 | n+1,a::l=>a::setA f n l
def wrapAt (r k:Nat) (B:BA):BA:={ B with ra:=fun i=>if i.beq r then { B.ra i with ans:=setA (fun a=>{ a with nw:=false }) k (B.ra i).ans } else B.ra i }
def sRanged (l:List Int) (m:Int):Int:=sFirst (l.map fun x=>sWithin x 0 m)
def sCounted (n m:Int):Int:=sFirst [sWhen (n == 0) 12,sWhen (decide (n > m)) 5]
def sumW (l:List Int):Nat->Int
 | 0=>0
 | i+1=>IntKind.i64.wrap (sumW l i+l.getD i default)
def sDir (x y:Int):Int:=sFirst [sWithin x (-200000) 200000,sWithin y (-200000) 200000]
theorem take_succ_map {α β:Type} [Inhabited α] (enc:β->List AV) (f:α->β) {l:List α} {g:Nat} (h:g < l.length):((l.take g).map f).map enc++[enc (f (l.getD g default))]=((l.take (g+1)).map f).map enc:=by
 rw [List.take_add_one,List.map_append,List.map_append]
 simp [List.getD_eq_getElem?_getD,h]
theorem first_app0:∀ (l:List Int),sFirst (l++[0])=sFirst l
 | []=>by simp [sFirst]
 | x::l=>by
  rw [List.cons_append]
  simp only [sFirst]
  rw [first_app0 l]
theorem scan_list (f:Int->Int) (l:List Int):sScan (fun i=>f (l.getD i default)) l.length 0=sFirst (l.map f):=by
 unfold sScan
 rw [first_app0]
 congr 1
 refine List.ext_getElem (by simp) fun i h1 h2=>?_
 simp only [List.getElem_map,List.getElem_range]
 rw [List.getD_eq_getElem?_getD,List.getElem?_eq_getElem (by simpa using h1)]
 rfl
def spP:Nat->List AV->Option AV
 | 29,[.bool b,.int _ e]=>some (.i (sWhen b e))
 | 56,[.int _ x,.int _ lo,.int _ hi]=>some (.i (sWithin x lo hi))
 | 76,[.int _ x,.elt _ [[.int _ m]] _ _]=>some (.i (sWithin x 0 m))
 | 51,[.agg [.int _ x,.int _ y]]=>some (.i (sDir x y))
 | 1046,[.agg [.int _ x,.int _ y]]=>some (.i (sDir x y))
 | 1045,[.int _ x]=>some (.i (sWithin x 0 100000000000))
 | 60,[.int _ n,.int _ m]=>some (.i (sCounted n m))
 | n,x=>spC n x
theorem c29 (b:Bool) (e:Int) :PCall Tryd.prog G0 29 [.bool b,.i e] (.i (sWhen b e)):=by
 have key :
  (b=true->AV.i e=AV.i (sWhen b e))∧(b=false->AV.i 0=AV.i (sWhen b e)):=by
   exact ⟨fun h=>by simp [sWhen,h],fun h=>by simp [sWhen,h]⟩
 exact c_of Tryd.f29 (mkB spP 29 [] noLa) (by kernel_rfl) (by kernel_rfl) (by kernel_rfl) (by kernel_rfl) key (by kernel_rfl)
theorem c56 (x lo hi:Int) :PCall Tryd.prog G0 56 [.i x,.i lo,.i hi] (.i (sWithin x lo hi)):=by
 have key :
  ((!decide (x < lo))=true->(!decide (x < lo))=true)∧((!decide (x < lo))=true->(!decide (x < lo))=true)∧(decide (x < lo)=false->(!decide (x < lo))=true)∧PCall Tryd.prog G0 29 [AV.bool (if decide (x < lo)=true
  then true else decide (x > hi)),AV.i 3] (AV.i (sWhen (if decide (x < lo)=true then true else decide (x > hi)) (3:Int)))∧AV.i (sWhen (if decide (x < lo)=true then true else decide (x > hi)) (3:Int))=AV.i (sWithin x lo
  hi):=by
   exact ⟨fun h=>h,fun h=>h,fun h=>by simp [h],c29 _ _,rfl⟩
 exact c_of Tryd.f56 (mkB spP 56 [] noLa) (by kernel_rfl) (by kernel_rfl) (by kernel_rfl) (by kernel_rfl) key (by kernel_rfl)
theorem c26 (x:Int) :PCall Tryd.prog G0 26 [.i x] (.i (sWithin x 0 10000000000000)):=by
 have key :
  PCall Tryd.prog G0 56 [AV.i x,AV.i 0,AV.i 10000000000000] (AV.i (sWithin x (0:Int) (10000000000000:Int)))∧AV.i (sWithin x (0:Int) (10000000000000:Int))=AV.i (sWithin x (0:Int) (10000000000000:Int)):=by
   exact ⟨c56 _ _ _,rfl⟩
 exact c_of Tryd.f26 (mkB spP 26 [] noLa) (by kernel_rfl) (by kernel_rfl) (by kernel_rfl) (by kernel_rfl) key (by kernel_rfl)
theorem c21 (x:Int) :PCall Tryd.prog G0 21 [.i x] (.i (sWithin x 0 10000000000000)):=by
 have key :
  PCall Tryd.prog G0 44 [AV.i x,AV.i 0,AV.i 10000000000000] (AV.i (sWithin x (0:Int) (10000000000000:Int)))∧AV.i (sWithin x (0:Int) (10000000000000:Int))=AV.i (sWithin x (0:Int) (10000000000000:Int)):=by
   exact ⟨c44 _ _ _,rfl⟩
 exact c_of Tryd.f21 (mkB spP 21 [] noLa) (by kernel_rfl) (by kernel_rfl) (by kernel_rfl) (by kernel_rfl) key (by kernel_rfl)
theorem c60 (n m:Int) :PCall Tryd.prog G0 60 [.i n,.i m] (.i (sCounted n m)):=by
 have key :
  PCall Tryd.prog G0 54 [AV.bool (n == 0),AV.i 12] (AV.i (sWhen (n == 0) (12:Int)))∧PCall Tryd.prog G0 54 [AV.bool (decide (n > m)),AV.i 5] (AV.i (sWhen (decide (n > m)) (5:Int)))∧PCall Tryd.prog G0 35 [AV.sl 1 [[AV.i
  (sWhen (n == 0) (12:Int))],[AV.i (sWhen (decide (n > m)) (5:Int))]]] (AV.i (sFirst [hdI [AV.i (sWhen (n == 0) (12:Int))],hdI [AV.i (sWhen (decide (n > m)) (5:Int))]]))∧AV.i (sFirst [hdI [AV.i (sWhen (n == 0) (12 :
  Int))],hdI [AV.i (sWhen (decide (n > m)) (5:Int))]])=AV.i (sCounted n m):=by
   exact ⟨c54 _ _,c54 _ _,c35 [_,_] (by simp),rfl⟩
 exact c_of Tryd.f60 (mkB spP 60 [] noLa) (by kernel_rfl) (by kernel_rfl) (by kernel_rfl) (by kernel_rfl) key (by kernel_rfl)
theorem c51 (x y:Int) :PCall Tryd.prog G0 51 [.agg [.i x,.i y]] (.i (sDir x y)):=by
 have key :
  PCall Tryd.prog G0 63 [AV.i x,AV.i (-200000),AV.i 200000] (AV.i (sWithin x (-200000:Int) (200000:Int)))∧PCall Tryd.prog G0 63 [AV.i y,AV.i (-200000),AV.i 200000] (AV.i (sWithin y (-200000:Int) (200000:Int)))∧PCall
  Tryd.prog G0 35 [AV.sl 1 [[AV.i (sWithin x (-200000:Int) (200000:Int))],[AV.i (sWithin y (-200000:Int) (200000:Int))]]] (AV.i (sFirst [hdI [AV.i (sWithin x (-200000:Int) (200000:Int))],hdI [AV.i (sWithin y (-200000 :
  Int) (200000:Int))]]))∧AV.i (sFirst [hdI [AV.i (sWithin x (-200000:Int) (200000:Int))],hdI [AV.i (sWithin y (-200000:Int) (200000:Int))]])=AV.i (sDir x y):=by
   exact ⟨c63 _ _ _,c63 _ _ _,c35 [_,_] (by simp),rfl⟩
 exact c_of Tryd.f51 (mkB spP 51 [] noLa) (by kernel_rfl) (by kernel_rfl) (by kernel_rfl) (by kernel_rfl) key (by kernel_rfl)
theorem c76 (x m:Int) :PCall Tryd.prog G0 76 [.i x,.elt 1 [[.i m]] 0 0] (.i (sWithin x 0 m)):=by
 have key :
  PCall Tryd.prog G0 63 [AV.i x,AV.i 0,AV.i m] (AV.i (sWithin x (0:Int) m))∧AV.i (sWithin x (0:Int) m)=AV.i (sWithin x (0:Int) m):=by
   exact ⟨c63 _ _ _,rfl⟩
 exact c_of Tryd.f76 (mkB spP 76 [] noLa) (by kernel_rfl) (by kernel_rfl) (by kernel_rfl) (by kernel_rfl) key (by kernel_rfl)
def la152 (l:List Int) (m:Int):LA:={
 pre:=[.own 5 42 1,.reno 5 1,.keep [1,5,8,9,10] [1],.bound 2],post:=[.reno 5 1,.keep [1,5,8,9,10] [1],.bound 2]
 Gh:=Nat
 st:=fun i=>⟨[(1,.fn (.func 76) [] [.elt 1 [[.i m]] 0 0]),(5,.own 1 (((l.take i).map fun x=>sWithin x 0 m).map encI).length),(8,.sl 1 (l.map encI)),(9,.i (l.map encI).length),(10,.i i)],[(1,.buf 42 1 (((l.take i).map fun x=>sWithin x 0 m).map encI))],2⟩
 ok:=fun i=>i<=(l.map encI).length
 ms:=fun i=>(l.map encI).length-i }
abbrev zc75a (m:Int) (g:Nat) (l:List Int):=List.map encI (List.map (fun (x:Int)=>sWithin x (0:Int) m) (List.take g l))
theorem c75 (l:List Int) (m:Int) (hl:l.length<=1000):PCall Tryd.prog G0 75 [.sl 1 (l.map encI),.fn (.func 76) [] [.elt 1 [[.i m]] 0 0]] (.fresh 42 1 ((l.map fun x=>sWithin x 0 m).map encI)):=by
 have key :
  (∃ (g:Nat),g<=(List.map encI l).length∧AS.mk [(1,AV.fn (Fn.func 76) [] [AV.elt 1 [[AV.i m]] 0 0]),(5,AV.own 1 0),(8,AV.sl 1 (List.map encI l)),(9,AV.i (↑(List.map encI l).length:Int)),(10,AV.i 0)] [(1,ABlk.buf 42
  1 [])] 2=AS.mk [(1,AV.fn (Fn.func 76) [] [AV.elt 1 [[AV.i m]] 0 0]),(5,AV.own 1 (zc75a m g l).length),(8,AV.sl 1 (List.map encI l)),(9,AV.i (↑(List.map encI l).length:Int)),(10,AV.i (g:Int))] [(1,ABlk.buf 42 1
  (zc75a m g l))] 2)∧∀ (g:Nat),g<=(List.map encI l).length->(decide ((g:Int) < (↑(List.map encI l).length:Int))=true->(0:Int)<=(g:Int)∧(g:Int) < (↑(List.map encI l).length:Int)∧nth (nthR (List.map encI
  l) (g:Int).toNat) 0=AV.i (l.getD (g:Int).toNat default)∧(zc75a m g l).length+1<=9223372036854775807∧((zc75a m g l).length+1) * 8<=140737488355328∧PCall Tryd.prog G0 76 [AV.i (l.getD (g:Int).toNat default),
  AV.elt 1 [[AV.i m]] 0 0] (AV.i (sWithin (l.getD (g:Int).toNat default) (0:Int) m))∧In64 ((g:Int)+1)∧∃ (g':Nat),g'<=(List.map encI l).length∧(List.map encI l).length-g' < (List.map encI l).length-g∧AS.mk
  [(1,AV.fn (Fn.func 76) [] [AV.elt 1 [[AV.i m]] 0 0]),(5,AV.own 1 ((zc75a m g l).length+1)),(8,AV.sl 1 (List.map encI l)),(9,AV.i (↑(List.map encI l).length:Int)),(10,AV.i ((g:Int)+1))] [(1,ABlk.buf 42 1 (List.map
  encI (List.map (fun (x:Int)=>sWithin x (0:Int) m) (List.take g l))++[[AV.i (sWithin (l.getD (g:Int).toNat default) (0:Int) m)]]))] 2=AS.mk [(1,AV.fn (Fn.func 76) [] [AV.elt 1 [[AV.i m]] 0 0]),(5,AV.own 1 (List.map
  encI (List.map (fun (x:Int)=>sWithin x (0:Int) m) (List.take g' l))).length),(8,AV.sl 1 (List.map encI l)),(9,AV.i (↑(List.map encI l).length:Int)),(10,AV.i (↑g':Int))] [(1,ABlk.buf 42 1 (List.map encI (List.map
  (fun (x:Int)=>sWithin x (0:Int) m) (List.take g' l))))] 2)∧(decide ((g:Int) < (↑(List.map encI l).length:Int))=false->AV.fresh 42 1 (zc75a m g l)=AV.fresh 42 1 (List.map encI (List.map (fun (x:Int)=>sWithin x
  (0:Int) m) l))):=by
   delta zc75a
   simp only [List.length_map]
   refine ⟨⟨0,by omega,rfl⟩,fun g hg=>⟨fun hd=>?_,fun hd=>?_⟩⟩
   · have hlt:=lt_of_dec hd
     simp only [Int.toNat_natCast]
     refine ⟨by omega,by omega,by rw [row_at _ hlt];rfl,by rw [List.length_take];omega,by rw [List.length_take];omega,c76 _ _,by unfold In64;omega,g+1,hlt,by omega,?_⟩
     have h2:=take_succ_map encI (fun x=>sWithin x 0 m) hlt
     simp only [encI] at h2
     rw [show (l.take g).length+1=(l.take (g+1)).length by simp only [List.length_take];omega,h2]
     rfl
   · rw [ge_of_dec hd hg,List.take_length]
 exact c_of Tryd.f75 (mkB spP 75 [(4,1,rdOr [rdL 1 encI l 1 false])] (fun i=>if i.beq 0 then some (la152 l m) else none)) (by kernel_rfl) (by kernel_rfl) (by kernel_rfl) (by kernel_rfl) key (by kernel_rfl)
def la121 (l:List Int):LA:={
 pre:=[.keep [3,6,7,8] [],.bound 1],post:=[.keep [3,6,7,8] [],.bound 1]
 Gh:=Nat
 st:=fun i=>⟨[(3,.i (sumW l i)),(6,.sl 1 (l.map encI)),(7,.i (l.map encI).length),(8,.i i)],[],1⟩
 ok:=fun i=>i<=(l.map encI).length
 ms:=fun i=>(l.map encI).length-i }
theorem c62 (l:List Int) (hl:l.length<=1000000):PCall Tryd.prog G0 62 [.sl 1 (l.map encI)] (.i (sumW l l.length)):=by
 have key :
  (∃ (g:Nat),g<=(List.map encI l).length∧AS.mk [(3,AV.i 0),(6,AV.sl 1 (List.map encI l)),(7,AV.i (↑(List.map encI l).length:Int)),(8,AV.i 0)] [] 1=AS.mk [(3,AV.i (sumW l g)),(6,AV.sl 1 (List.map encI l)),(7,AV.i
  (↑(List.map encI l).length:Int)),(8,AV.i (g:Int))] [] 1)∧∀ (g:Nat),g<=(List.map encI l).length->(decide ((g:Int) < (↑(List.map encI l).length:Int))=true->(0:Int)<=(g:Int)∧(g:Int) < (↑(List.map encI
  l).length:Int)∧nth (nthR (List.map encI l) (g:Int).toNat) 0=AV.i (l.getD (g:Int).toNat default)∧In64 ((g:Int)+1)∧∃ (g':Nat),g'<=(List.map encI l).length∧(List.map encI l).length-g' < (List.map encI
  l).length-g∧AS.mk [(3,AV.i (IntKind.i64.wrap (sumW l g+l.getD (g:Int).toNat default))),(6,AV.sl 1 (List.map encI l)),(7,AV.i (↑(List.map encI l).length:Int)),(8,AV.i ((g:Int)+1))] [] 1=AS.mk [(3,AV.i (sumW
  l g')),(6,AV.sl 1 (List.map encI l)),(7,AV.i (↑(List.map encI l).length:Int)),(8,AV.i (↑g':Int))] [] 1)∧(decide ((g:Int) < (↑(List.map encI l).length:Int))=false->AV.i (sumW l g)=AV.i (sumW l l.length)):=by
   simp only [List.length_map]
   refine ⟨⟨0,by omega,rfl⟩,fun g hg=>⟨fun hd=>?_,fun hd=>?_⟩⟩
   · have hlt:=lt_of_dec hd
     simp only [Int.toNat_natCast]
     exact ⟨by omega,by omega,by rw [row_at _ hlt];rfl,by unfold In64;omega,g+1,hlt,by omega,rfl⟩
   · rw [ge_of_dec hd hg]
 exact c_of Tryd.f62 (wrapAt 5 2 (mkB spP 62 [(4,1,rdOr [rdL 1 encI l 1 false])] (fun i=>if i.beq 0 then some (la121 l) else none))) (by kernel_rfl) (by kernel_rfl) (by kernel_rfl) (by kernel_rfl) key (by kernel_rfl)
def la108 (l:List Int) (lo hi:Int):LA:={
 pre:=[.keep [0,1,2,7] [],.bound 1],post:=[.keep [0,1,2,7] [],.bound 1]
 Gh:=Nat
 st:=fun i=>⟨[(0,.sl 1 (l.map encI)),(1,.i lo),(2,.i hi),(7,.i i)],[],1⟩
 ok:=fun i=>i<=(l.map encI).length∧∀ k,k < i->sWithin (l.getD k default) lo hi=0
 ms:=fun i=>(l.map encI).length-i }
theorem c43 (l:List Int) (lo hi:Int) (hl:l.length<=1000000):PCall Tryd.prog G0 43 [.sl 1 (l.map encI),.i lo,.i hi] (.i (sFirst (l.map fun x=>sWithin x lo hi))):=by
 have key :
  (∃ (g:Nat),(g<=(List.map encI l).length∧∀ (k:Nat),k < g->sWithin (l.getD k default) lo hi=(0:Int))∧AS.mk [(0,AV.sl 1 (List.map encI l)),(1,AV.i lo),(2,AV.i hi),(7,AV.i 0)] [] 1=AS.mk [(0,AV.sl 1 (List.map
  encI l)),(1,AV.i lo),(2,AV.i hi),(7,AV.i (g:Int))] [] 1)∧∀ (g:Nat),(g<=(List.map encI l).length∧∀ (k:Nat),k < g->sWithin (l.getD k default) lo hi=(0:Int))->(decide ((g:Int) < (↑(List.map encI l).length
  : Int))=true->(0:Int)<=(g:Int)∧(g:Int) < (↑(List.map encI l).length:Int)∧nth (nthR (List.map encI l) (g:Int).toNat) 0=AV.i (l.getD (g:Int).toNat default)∧PCall Tryd.prog G0 44 [AV.i (l.getD (↑g :
  Int).toNat default),AV.i lo,AV.i hi] (AV.i (sWithin (l.getD (g:Int).toNat default) lo hi))∧((sWithin (l.getD (g:Int).toNat default) lo hi != 0)=true->AV.i (sWithin (l.getD (g:Int).toNat default) lo hi)=AV.i
  (sFirst (List.map (fun (x:Int)=>sWithin x lo hi) l)))∧((sWithin (l.getD (g:Int).toNat default) lo hi != 0)=false->In64 ((g:Int)+1)∧∃ (g':Nat),(g'<=(List.map encI l).length∧∀ (k:Nat),k < g'->sWithin
  (l.getD k default) lo hi=(0:Int))∧(List.map encI l).length-g' < (List.map encI l).length-g∧AS.mk [(0,AV.sl 1 (List.map encI l)),(1,AV.i lo),(2,AV.i hi),(7,AV.i ((g:Int)+1))] [] 1=AS.mk [(0,AV.sl 1
  (List.map encI l)),(1,AV.i lo),(2,AV.i hi),(7,AV.i (↑g':Int))] [] 1))∧(decide ((g:Int) < (↑(List.map encI l).length:Int))=false->AV.i 0=AV.i (sFirst (List.map (fun (x:Int)=>sWithin x lo hi) l))):=by
   simp only [List.length_map]
   refine ⟨⟨0,⟨by omega,by intros;omega⟩,rfl⟩,fun g hg=>⟨fun hd=>?_,fun hd=>?_⟩⟩
   · have hlt:=lt_of_dec hd
     simp only [Int.toNat_natCast]
     refine ⟨by omega,by omega,by rw [row_at _ hlt];rfl,c44 _ _ _,fun hne=>?_,fun hz=>⟨by unfold In64;omega,g+1,⟨hlt,all_succ (f:=fun k=>sWithin (l.getD k default) lo hi) hg.2 hz⟩,by omega,rfl⟩⟩
     rw [<- scan_list,scan_hit hlt hg.2 (bne_t hne)]
   · rw [<- scan_list,scan_end]
     exact fun k hk=>hg.2 k (by rw [ge_of_dec hd hg.1];exact hk)
 exact c_of Tryd.f43 (mkB spP 43 [(4,3,rdOr [rdL 1 encI l 1 false])] (fun i=>if i.beq 0 then some (la108 l lo hi) else none)) (by kernel_rfl) (by kernel_rfl) (by kernel_rfl) (by kernel_rfl) key (by kernel_rfl)
def sp124 (l:List Int) (m:Int):Nat->List AV->Option AV
 | 75,_=>some (.sl 1 ((l.map fun x=>sWithin x 0 m).map encI))
 | 35,_=>some (.i (sRanged l m))
 | _,_=>none
theorem c61 (l:List Int) (m:Int) (hl:l.length<=1000):PCall Tryd.prog G0 61 [.sl 1 (l.map encI),.i m] (.i (sRanged l m)):=by
 have key :
  PCall Tryd.prog G0 75 [AV.sl 1 (List.map encI l),AV.fn (Fn.func 76) [] [AV.elt 1 [[AV.i m]] 0 0]] (AV.sl 1 (List.map encI (List.map (fun (x:Int)=>sWithin x (0:Int) m) l)))∧PCall Tryd.prog G0 35 [AV.sl 1 (List.map encI
  (List.map (fun (x:Int)=>sWithin x (0:Int) m) l))] (AV.i (sRanged l m))∧AV.i (sRanged l m)=AV.i (sRanged l m):=by
   exact ⟨(c75 l m hl).un,c35 (l.map fun x=>sWithin x 0 m) (by simp;omega),rfl⟩
 exact c_of Tryd.f61 (mkB (sp124 l m) 61 [] noLa) (by kernel_rfl) (by kernel_rfl) (by kernel_rfl) (by kernel_rfl) key (by kernel_rfl)
theorem c73 (x y z:Int) (h1:In64 (x * x)) (h2:In64 (y * y)) (h3:In64 (x * x+y * y)) (h4:In64 (z * z)):PCall Tryd.prog G0 73 [.agg [.i x,.i y,.i z]] (.agg [.i (x * x+y * y),.i (z * z)]):=by
 have key :
  In64 (x * x)∧In64 (y * y)∧In64 (x * x+y * y)∧In64 (z * z)∧AV.agg [AV.i (x * x+y * y),AV.i (z * z)]=AV.agg [AV.i (x * x+y * y),AV.i (z * z)]:=by
   exact ⟨h1,h2,h3,h4,rfl⟩
 exact c_of Tryd.f73 (mkB spP 73 [] noLa) (by kernel_rfl) (by kernel_rfl) (by kernel_rfl) (by kernel_rfl) key (by kernel_rfl)
theorem c72 (x y z p q r:Int) (h1:In64 (x-p)) (h2:In64 (y-q)) (h3:In64 (z-r)):PCall Tryd.prog G0 72 [.agg [.i x,.i y,.i z],.agg [.i p,.i q,.i r]] (.agg [.i (x-p),.i (y-q),.i (z-r)]):=by
 have key :
  In64 (x-p)∧In64 (y-q)∧In64 (z-r)∧AV.agg [AV.i (x-p),AV.i (y-q),AV.i (z-r)]=AV.agg [AV.i (x-p),AV.i (y-q),AV.i (z-r)]:=by
   exact ⟨h1,h2,h3,rfl⟩
 exact c_of Tryd.f72 (mkB spP 72 [] noLa) (by kernel_rfl) (by kernel_rfl) (by kernel_rfl) (by kernel_rfl) key (by kernel_rfl)
end Go.Proofs.YtnbhfmaamloodaaDoor
namespace Go.Proofs.YtnbhfmaamloodaaDoor
open Go Go.Av Go.RowKit
theorem dec_ascii {c:UInt8} (r:List UInt8) (h:c.toNat < 128):dec (c::r)=(c.toNat,1):=by
 unfold dec Utf8.decode
 have:(({ data:=(c::r).toArray }:ByteArray).get! (0+0)).toNat=c.toNat:=rfl
 simp only [this]
 rw [if_pos (by simpa using h)]
theorem dec_big {c:UInt8} (r:List UInt8) (h:¬ c.toNat < 128):128<=(dec (c::r)).1:=by
 unfold dec Utf8.decode
 have:(({ data:=(c::r).toArray }:ByteArray).get! (0+0)).toNat=c.toNat:=rfl
 simp only [this]
 rw [if_neg (by simpa using h)]
 repeat' split
 all_goals first
  | (simp only [Bool.and_eq_true,decide_eq_true_eq] at *;omega)
  | omega
  | (show 128<=Utf8.runeError;decide)
def isLet (c:Nat):Bool:=decide (97<=c∧c<=122) || decide (65<=c∧c<=90)
def okB (first:Bool) (c:Nat):Bool:=isLet c || (!first && (decide (c=95) || decide (48<=c∧c<=57)))
def allB (s:List UInt8) (n:Nat):Bool:=(List.range n).all fun i=>okB (i == 0) (s.getD i 0).toNat
def sName (s:List UInt8):Bool:=allB s s.length && (!(s == []) && decide (s.length<=24))
def cutA (ts ids:List Nat) (n t:Nat) (f:AS->AV):AS->AS:=fun S=>⟨pickL ((t,f S)::delL t S.s) ts,pickL S.b ids,n⟩
def onI (x:Option AV) (f:Int->AV):AV:=match x with
 | some (.int _ n)=>f n
 | _=>.any
def isLetI (n:Int):Bool:=decide (97<=n∧n<=122) || decide (65<=n∧n<=90)
def isDigU (n:Int):Bool:=decide (48<=n∧n<=57) || decide (n=95)
theorem all_fail {s:List UInt8} {g:Nat} (h:g < s.length) (hf:okB (g == 0) (s.getD g 0).toNat=false):sName s=false:=by
 have:allB s s.length=false:=List.all_eq_false.2 ⟨g,by simpa using h,by rw [hf];decide⟩
 rw [sName,this]
 rfl
theorem all_next {s:List UInt8} {g:Nat} (ha:allB s g=true) (hf:okB (g == 0) (s.getD g 0).toNat=true):allB s (g+1)=true:=by
 unfold allB at ha ⊢
 rw [List.range_succ,List.all_append,ha]
 simp only [List.all_cons,List.all_nil,hf,Bool.and_self]
theorem okB_I (b:Bool) (c:Nat):okB b c=(isLetI (c:Int) || (!b && isDigU (c:Int))):=by
 have e1:isLet c=isLetI (c:Int):=by
  unfold isLet isLetI
  congr 1 <;> (apply decide_eq_decide.2;omega)
 have e2:(decide (c=95) || decide (48<=c∧c<=57))=isDigU (c:Int):=by
  unfold isDigU
  rw [Bool.or_comm]
  congr 1 <;> (apply decide_eq_decide.2;omega)
 rw [okB,e1,e2]
theorem okB_big (b:Bool) {c:Nat} (h:128<=c):okB b c=false:=by
 rw [okB_I]
 have e1:isLetI (c:Int)=false:=by
  simp only [isLetI,Bool.or_eq_false_iff,decide_eq_false_iff_not]
  omega
 have e2:isDigU (c:Int)=false:=by
  simp only [isDigU,Bool.or_eq_false_iff,decide_eq_false_iff_not]
  omega
 rw [e1,e2]
 simp
theorem dec_ok (b:Bool) (c:UInt8) (r:List UInt8):okB b (dec (c::r)).1=okB b c.toNat∧(okB b c.toNat=true->(dec (c::r)).2=1):=by
 by_cases h:c.toNat < 128
 · rw [dec_ascii r h]
   exact ⟨rfl,fun _=>rfl⟩
 · have h1:=okB_big b (dec_big r h)
   have h2:=okB_big b (show 128<=c.toNat by omega)
   rw [h1,h2]
   exact ⟨rfl,fun h=>by cases h⟩
def la122 (s:List UInt8):LA:={
 pre:=[.keep [0,7] [3],.bound 4],post:=[.keep [0,7] [3],.bound 4]
 Gh:=Nat
 st:=fun i=>⟨[(0,.str s),(7,.ref 3)],[(3,.iter (s.drop i) i)],4⟩
 ok:=fun i=>i<=s.length∧allB s i=true
 ms:=fun i=>s.length-i
 it:=some 3 }
def B122 (s:List UInt8):BA:={ mkB spP 59 [] (fun i=>if i.beq 0 then some (la122 s) else none) with
 split:=fun i=>if i.beq 4 then 1 else if i.beq 5 then 1 else 0
 gs:=fun i=>if i.beq 4 then [.keep [0,3,4,5,7] [3],.bound 4] else if i.beq 5 then [.keep [0,3,4,5,7,43] [3],.bound 4] else []
 cut:=fun i=>if i.beq 4 then some (cutA [0,3,4,5,7] [3] 4 5 fun S=>onI (slotF S 4) fun n=>.bool (isLetI n)) else none }
abbrev zc59a (c:UInt8) (r:List UInt8) (g:Nat):=[(3,ABlk.iter (List.drop (dec (c::r)).snd (c::r)) (g+(dec (c::r)).snd))]
abbrev zc59b (c:UInt8) (r:List UInt8):=(↑(dec (c::r)).fst:Int)
abbrev zc59c (s:List UInt8) (g:Nat) (c:UInt8) (r:List UInt8):=[(0,AV.str s),(3,AV.i (g:Int)),(4,AV.int IntKind.i32 (zc59b c r)),(5,AV.bool (isLetI (zc59b c r))),(7,AV.ref 3)]
abbrev zc59d (s:List UInt8):=[(0,AV.str s),(7,AV.ref 3)]
theorem c59 (s:List UInt8) (hs:s.length<=1000000):PCall Tryd.prog G0 59 [.str s] (.bool (sName s)):=by
 have key :
  (∃ (g:Nat),(g<=s.length∧allB s g=true)∧AS.mk (zc59d s) [(3,ABlk.iter s 0)] 4=AS.mk (zc59d s) [(3,ABlk.iter (List.drop g s) g)] 4)∧∀ (g:Nat),g<=s.length∧allB s g=true->(∀ (c:UInt8) (r:List UInt8),
  List.drop g s=c::r->(true=true->((decide ((zc59b c r)>=97)=true->(decide ((zc59b c r)<=122)=true->(true=false->false=true)∧AV.bool (decide ((zc59b c r)>=97))=AV.bool true∧AV.bool (decide ((zc59b c r) ≤
  122))=AV.bool true∧AS.mk [(0,AV.str s),(3,AV.i (g:Int)),(4,AV.int IntKind.i32 (zc59b c r)),(5,AV.bool true),(7,AV.ref 3)] (zc59a c r g) 4=AS.mk (zc59c s g c r) (zc59a c r g) 4)∧(decide ((zc59b c r)<=122) =
  false->(decide ((zc59b c r)>=65)=true->AV.bool (decide ((zc59b c r)>=97))=AV.bool true∧AV.bool (decide ((zc59b c r)<=122))=AV.bool false∧AV.bool (decide ((zc59b c r)>=65))=AV.bool true∧AS.mk [(0,AV.str s),(3,
  AV.i (g:Int)),(4,AV.int IntKind.i32 (zc59b c r)),(5,AV.bool (decide ((zc59b c r)<=90))),(7,AV.ref 3)] (zc59a c r g) 4=AS.mk (zc59c s g c r) (zc59a c r g) 4)∧(decide ((zc59b c r)>=65)=false->(false=true->false =
  true)∧AV.bool (decide ((zc59b c r)>=97))=AV.bool true∧AV.bool (decide ((zc59b c r)<=122))=AV.bool false∧AV.bool (decide ((zc59b c r)>=65))=AV.bool false∧AS.mk [(0,AV.str s),(3,AV.i (g:Int)),(4,AV.int
  IntKind.i32 (zc59b c r)),(5,AV.bool false),(7,AV.ref 3)] (zc59a c r g) 4=AS.mk (zc59c s g c r) (zc59a c r g) 4)))∧(decide ((zc59b c r)>=97)=false->(false=true->(false=true->false=true)∧(true=false->false =
  true)∧AV.bool (decide ((zc59b c r)>=97))=AV.bool false∧AV.bool false=AV.bool true∧AS.mk [(0,AV.str s),(3,AV.i (g:Int)),(4,AV.int IntKind.i32 (zc59b c r)),(5,AV.bool true),(7,AV.ref 3)] (zc59a c r g) 4=AS.mk
  (zc59c s g c r) (zc59a c r g) 4)∧(false=false->(decide ((zc59b c r)>=65)=true->(false=true->false=true)∧AV.bool (decide ((zc59b c r)>=97))=AV.bool false∧AV.bool false=AV.bool false∧AV.bool (decide ((zc59b c
  r)>=65))=AV.bool true∧AS.mk [(0,AV.str s),(3,AV.i (g:Int)),(4,AV.int IntKind.i32 (zc59b c r)),(5,AV.bool (decide ((zc59b c r)<=90))),(7,AV.ref 3)] (zc59a c r g) 4=AS.mk (zc59c s g c r) (zc59a c r g) 4)∧(decide
  ((zc59b c r)>=65)=false->(false=true->false=true)∧(false=true->false=true)∧AV.bool (decide ((zc59b c r)>=97))=AV.bool false∧AV.bool false=AV.bool false∧AV.bool (decide ((zc59b c r)>=65))=AV.bool false
  ∧ AS.mk [(0,AV.str s),(3,AV.i (g:Int)),(4,AV.int IntKind.i32 (zc59b c r)),(5,AV.bool false),(7,AV.ref 3)] (zc59a c r g) 4=AS.mk (zc59c s g c r) (zc59a c r g) 4))))∧((!isLetI (zc59b c r))=true->(((g:Int) == 0)
  = true->(true=false->false=true)∧(AV.bool !isLetI (zc59b c r))=AV.bool true∧AV.bool ((g:Int) == 0)=AV.bool true∧(true=true->AV.bool false=AV.bool (sName s))∧(true=false->∃ (g':Nat),(g'<=s.length ∧
  allB s g'=true)∧s.length-g' < s.length-g∧AS.mk (zc59d s) (zc59a c r g) 4=AS.mk (zc59d s) [(3,ABlk.iter (List.drop g' s) g')] 4))∧(((g:Int) == 0)=false->(((zc59b c r) != 95)=true->(decide ((zc59b c r) < 48) =
  true->(true=false->false=true)∧(AV.bool !isLetI (zc59b c r))=AV.bool true∧AV.bool ((g:Int) == 0)=AV.bool false∧AV.bool ((zc59b c r) != 95)=AV.bool true∧AV.bool (decide ((zc59b c r) < 48))=AV.bool true ∧
  (true=true->AV.bool false=AV.bool (sName s))∧(true=false->∃ (g':Nat),(g'<=s.length∧allB s g'=true)∧s.length-g' < s.length-g∧AS.mk (zc59d s) (zc59a c r g) 4=AS.mk (zc59d s) [(3,ABlk.iter (List.drop g' s)
  g')] 4))∧(decide ((zc59b c r) < 48)=false->(AV.bool !isLetI (zc59b c r))=AV.bool true∧AV.bool ((g:Int) == 0)=AV.bool false∧AV.bool ((zc59b c r) != 95)=AV.bool true∧AV.bool (decide ((zc59b c r) < 48))=AV.bool
  false∧(decide ((zc59b c r) > 57)=true->AV.bool false=AV.bool (sName s))∧(decide ((zc59b c r) > 57)=false->∃ (g':Nat),(g'<=s.length∧allB s g'=true)∧s.length-g' < s.length-g∧AS.mk (zc59d s) (zc59a c r g) 4
  = AS.mk (zc59d s) [(3,ABlk.iter (List.drop g' s) g')] 4)))∧(((zc59b c r) != 95)=false->(false=true->false=true)∧(AV.bool !isLetI (zc59b c r))=AV.bool true∧AV.bool ((g:Int) == 0)=AV.bool false∧AV.bool ((zc59b
  c r) != 95)=AV.bool false∧(false=true->AV.bool false=AV.bool (sName s))∧(false=false->∃ (g':Nat),(g'<=s.length∧allB s g'=true)∧s.length-g' < s.length-g∧AS.mk (zc59d s) (zc59a c r g) 4=AS.mk (zc59d s)
  [(3,ABlk.iter (List.drop g' s) g')] 4))))∧((!isLetI (zc59b c r))=false->(false=true->false=true)∧(AV.bool !isLetI (zc59b c r))=AV.bool false∧(false=true->AV.bool false=AV.bool (sName s))∧(false=false->∃
  (g':Nat),(g'<=s.length∧allB s g'=true)∧s.length-g' < s.length-g∧AS.mk (zc59d s) (zc59a c r g) 4=AS.mk (zc59d s) [(3,ABlk.iter (List.drop g' s) g')] 4)))∧(true=false->((!s == [])=true->(!s == [])=true) ∧
  ((!s == [])=true->(!s == [])=true)∧((!s == [])=true->(!s == [])=true)∧AV.bool (if (!s == [])=true then decide ((↑s.length:Int)<=24) else false)=AV.bool (sName s)))∧(List.drop g s=[]->(false=true->False)
  ∧ (false=false->((!s == [])=true->(!s == [])=true)∧((!s == [])=true->(!s == [])=true)∧((!s == [])=true->(!s == [])=true)∧AV.bool (if (!s == [])=true then decide ((↑s.length:Int)<=24) else false) =
  AV.bool (sName s))):=by
   delta zc59a zc59b zc59c zc59d
   refine ⟨⟨0,⟨by omega,rfl⟩,rfl⟩,fun g ⟨hg,ha⟩=>⟨fun c r hcr=>?_,fun hnil=>?_⟩⟩
   · have hlt:g < s.length:=by
      by_cases h:g < s.length
      · exact h
      · rw [List.drop_eq_nil_of_le (by omega)] at hcr;cases hcr
     have hcg:s.getD g 0=c:=by
      have:=congrArg (fun l=>l.getD 0 0) hcr
      simpa [List.getD_eq_getElem?_getD] using this
     have hr:r=s.drop (g+1):=by
      have:=congrArg (fun l=>l.drop 1) hcr
      simpa using this.symm
     have hz:((g:Int) == 0)=(g == 0):=by
      by_cases h:g=0
      · simp [h]
      · rw [beq_eq_false_iff_ne.2 h,beq_eq_false_iff_ne.2 (by omega)]
     obtain ⟨hk1,hk2⟩:=dec_ok (g == 0) c r
     have hF:okB (g == 0) (dec (c::r)).1=false->AV.bool false=AV.bool (sName s):=fun h=>by
      rw [all_fail hlt (by rw [hcg,<- hk1];exact h)]
     have hN:okB (g == 0) (dec (c::r)).1=true->∃ (g':Nat),(g'<=s.length∧allB s g'=true)∧s.length-g' < s.length-g ∧
      AS.mk [(0,AV.str s),(7,AV.ref 3)] [(3,ABlk.iter (List.drop (dec (c::r)).snd (c::r)) (g+(dec (c::r)).snd))] 4=AS.mk [(0,AV.str s),(7,AV.ref 3)] [(3,ABlk.iter (List.drop g' s) g')] 4:=fun h=>by
      refine ⟨g+1,⟨hlt,all_next ha (by rw [hcg,<- hk1];exact h)⟩,by omega,?_⟩
      rw [hk2 (by rw [<- hk1];exact h),hr]
      rfl
     rw [okB_I] at hF hN
     clear hk1 hk2
     generalize (dec (c::r)).1=n at hF hN ⊢
     generalize (dec (c::r)).2=w at hN ⊢
     rw [hz]
     repeat' (first | apply And.intro | intro _)
     all_goals try first
      | contradiction
      | rfl
      | assumption
      | exact congrArg AV.bool (by assumption)
      | (rw [show isLetI (n:Int)=true by (simp only [decide_eq_true_eq,decide_eq_false_iff_not] at *;simp only [isLetI,Bool.or_eq_true,decide_eq_true_eq];omega)];done)
      | (rw [show isLetI (n:Int)=false by (simp only [decide_eq_true_eq,decide_eq_false_iff_not] at *;simp only [isLetI,Bool.or_eq_false_iff,decide_eq_false_iff_not];omega)];done)
      | (rw [show isLetI (n:Int)=decide ((n:Int)<=90) by (simp only [decide_eq_true_eq,decide_eq_false_iff_not] at *;simp only [isLetI];by_cases h90:(n:Int)<=90 <;> simp [h90] <;> omega)];done)
      | (refine hF ?_;simp_all [isDigU];done)
      | (refine hN ?_;simp_all [isDigU];done)
      | (refine hF ?_;simp_all [isDigU];omega)
      | (refine hN ?_;simp_all [isDigU];omega)
   · have hge:g=s.length:=by
      have:=congrArg List.length hnil
      rw [List.length_drop] at this
      simp only [List.length_nil] at this
      omega
     subst hge
     refine ⟨fun h=>by (cases h),fun _=>⟨fun h=>h,fun h=>h,fun h=>h,?_⟩⟩
     rw [sName,ha,Bool.true_and,show decide ((s.length:Int)<=24)=decide (s.length<=24) from decide_eq_decide.2 (by omega)]
     cases (!s == []) <;> rfl
 exact c_of Tryd.f59 (B122 s) (by kernel_rfl) (by kernel_rfl) (by kernel_rfl) (by kernel_rfl) key (by kernel_rfl)
def la148 (s:List UInt8):LA:={
 pre:=[.keep [0,3] [],.bound 1],post:=[.keep [0,3] [],.bound 1]
 Gh:=Nat
 st:=fun i=>⟨[(0,.str s),(3,.i i)],[],1⟩
 ok:=fun i=>i<=s.length∧allB s i=true
 ms:=fun i=>s.length-i }
def B148 (s:List UInt8):BA:={ mkB spP 70 [] (fun i=>if i.beq 0 then some (la148 s) else none) with
 split:=fun i=>if i.beq 1 then 0 else if i.beq 6 then 1 else if i.beq 7 then 1 else if i.beq 8 then 1 else 0
 gs:=fun i=>if i.beq 6 then [.keep [0,3,4] [],.bound 1] else if i.beq 7 then [.keep [0,3,4,5] [],.bound 1] else []
 cut:=fun i=>if i.beq 6 then some (cutA [0,3,4] [] 1 4 fun S=>onI (slotF S 3) fun n=>.bool (isLetI ((s.getD n.toNat 0).toNat:Int)))
  else if i.beq 7 then some (cutA [0,3,4,5] [] 1 5 fun S=>onI (slotF S 3) fun n=>.bool (isDigU ((s.getD n.toNat 0).toNat:Int))) else none }
abbrev zc70a (s:List UInt8) (g:Nat):=(↑(s.getD (g:Int).toNat (0:UInt8)).toNat:Int)
abbrev zc70b (s:List UInt8) (g:Nat):=[(0,AV.str s),(3,AV.i (g:Int)),(4,AV.bool (isLetI (zc70a s g)))]
abbrev zc70c (s:List UInt8) (g:Nat):=[(0,AV.str s),(3,AV.i (g:Int)),(4,AV.bool (isLetI (zc70a s g))),(5,AV.bool (isDigU (zc70a s g)))]
abbrev zc70d:=false=true->false=true
theorem c70 (s:List UInt8) (hs:s.length<=1000000):PCall Tryd.prog G0 70 [.str s] (.bool (sName s)):=by
 have key :
  ((!(↑s.length:Int) == 0)=true->(!(↑s.length:Int) == 0)=true)∧((!(↑s.length:Int) == 0)=true->(!(↑s.length:Int) == 0)=true)∧(((↑s.length:Int) == 0)=false->(!(↑s.length:Int) == 0)=true)∧((if
  ((↑s.length:Int) == 0)=true then true else decide ((↑s.length:Int) > 24))=true->AV.bool false=AV.bool (sName s))∧((if ((↑s.length:Int) == 0)=true then true else decide ((↑s.length:Int) > 24))=false->(∃ (g :
  Nat),(g<=s.length∧allB s g=true)∧AS.mk [(0,AV.str s),(3,AV.i 0)] [] 1=AS.mk [(0,AV.str s),(3,AV.i (g:Int))] [] 1)∧∀ (g:Nat),g<=s.length∧allB s g=true->(decide ((g:Int) < (↑s.length:Int))=true →
  ((decide ((zc70a s g)>=65)=true->(decide ((zc70a s g)<=90)=true->(0:Int)<=(g:Int)∧(g:Int) < (↑s.length:Int)∧(0:Int)<=(g:Int)∧(g:Int) < (↑s.length:Int)∧(true=false->false=true)∧AV.bool
  (decide ((zc70a s g)>=65))=AV.bool true∧AV.bool (decide ((zc70a s g)<=90))=AV.bool true∧AS.mk [(0,AV.str s),(3,AV.i (g:Int)),(4,AV.bool true)] [] 1=AS.mk (zc70b s g) [] 1)∧(decide ((zc70a s g)<=90)=false →
  (decide ((zc70a s g)>=97)=true->(0:Int)<=(g:Int)∧(g:Int) < (↑s.length:Int)∧(0:Int)<=(g:Int)∧(g:Int) < (↑s.length:Int)∧(0:Int)<=(g:Int)∧(g:Int) < (↑s.length:Int)∧(0:Int)<=(↑g :
  Int)∧(g:Int) < (↑s.length:Int)∧AV.bool (decide ((zc70a s g)>=65))=AV.bool true∧AV.bool (decide ((zc70a s g)<=90))=AV.bool false∧AV.bool (decide ((zc70a s g)>=97))=AV.bool true∧AS.mk [(0,AV.str s),(3,AV.i
  (g:Int)),(4,AV.bool (decide ((zc70a s g)<=122)))] [] 1=AS.mk (zc70b s g) [] 1)∧(decide ((zc70a s g)>=97)=false->(0:Int)<=(g:Int)∧(g:Int) < (↑s.length:Int)∧(0:Int)<=(g:Int)∧(g:Int) <
  (↑s.length:Int)∧(0:Int)<=(g:Int)∧(g:Int) < (↑s.length:Int)∧zc70d∧AV.bool (decide ((zc70a s g)>=65))=AV.bool true∧AV.bool (decide ((zc70a s g)<=90))=AV.bool false∧AV.bool (decide ((zc70a s g)>=97)) =
  AV.bool false∧AS.mk [(0,AV.str s),(3,AV.i (g:Int)),(4,AV.bool false)] [] 1=AS.mk (zc70b s g) [] 1)))∧(decide ((zc70a s g)>=65)=false->(false=true->(0:Int)<=(g:Int)∧(g:Int) < (↑s.length:Int)∧zc70d
  ∧ (true=false->false=true)∧AV.bool (decide ((zc70a s g)>=65))=AV.bool false∧AV.bool false=AV.bool true∧AS.mk [(0,AV.str s),(3,AV.i (g:Int)),(4,AV.bool true)] [] 1=AS.mk (zc70b s g) [] 1)∧(false=false →
  (decide ((zc70a s g)>=97)=true->(0:Int)<=(g:Int)∧(g:Int) < (↑s.length:Int)∧zc70d∧(0:Int)<=(g:Int)∧(g:Int) < (↑s.length:Int)∧(0:Int)<=(g:Int)∧(g:Int) < (↑s.length:Int)∧AV.bool
  (decide ((zc70a s g)>=65))=AV.bool false∧AV.bool false=AV.bool false∧AV.bool (decide ((zc70a s g)>=97))=AV.bool true∧AS.mk [(0,AV.str s),(3,AV.i (g:Int)),(4,AV.bool (decide ((zc70a s g)<=122)))] [] 1=AS.mk
  (zc70b s g) [] 1)∧(decide ((zc70a s g)>=97)=false->(0:Int)<=(g:Int)∧(g:Int) < (↑s.length:Int)∧zc70d∧(0:Int)<=(g:Int)∧(g:Int) < (↑s.length:Int)∧zc70d∧AV.bool (decide ((zc70a s g)>=65)) =
  AV.bool false∧AV.bool false=AV.bool false∧AV.bool (decide ((zc70a s g)>=97))=AV.bool false∧AS.mk [(0,AV.str s),(3,AV.i (g:Int)),(4,AV.bool false)] [] 1=AS.mk (zc70b s g) [] 1))))∧((decide ((zc70a s g)>=48) =
  true->(decide ((zc70a s g)<=57)=true->(0:Int)<=(g:Int)∧(g:Int) < (↑s.length:Int)∧(0:Int)<=(g:Int)∧(g:Int) < (↑s.length:Int)∧(true=false->false=true)∧AV.bool (decide ((zc70a s g)>=48)) =
  AV.bool true∧AV.bool (decide ((zc70a s g)<=57))=AV.bool true∧AS.mk [(0,AV.str s),(3,AV.i (g:Int)),(4,AV.bool (isLetI (zc70a s g))),(5,AV.bool true)] [] 1=AS.mk (zc70c s g) [] 1)∧(decide ((zc70a s g)<=57) =
  false->(0:Int)<=(g:Int)∧(g:Int) < (↑s.length:Int)∧(0:Int)<=(g:Int)∧(g:Int) < (↑s.length:Int)∧(0:Int)<=(g:Int)∧(g:Int) < (↑s.length:Int)∧AV.bool (decide ((zc70a s g)>=48))=AV.bool
  true∧AV.bool (decide ((zc70a s g)<=57))=AV.bool false∧AS.mk [(0,AV.str s),(3,AV.i (g:Int)),(4,AV.bool (isLetI (zc70a s g))),(5,AV.bool ((zc70a s g) == 95))] [] 1=AS.mk (zc70c s g) [] 1))∧(decide ((zc70a s g) ≥
  48)=false->(false=true->(0:Int)<=(g:Int)∧(g:Int) < (↑s.length:Int)∧zc70d∧(true=false->false=true)∧AV.bool (decide ((zc70a s g)>=48))=AV.bool false∧AV.bool false=AV.bool true∧AS.mk [(0,AV.str
  s),(3,AV.i (g:Int)),(4,AV.bool (isLetI (zc70a s g))),(5,AV.bool true)] [] 1=AS.mk (zc70c s g) [] 1)∧(false=false->(0:Int)<=(g:Int)∧(g:Int) < (↑s.length:Int)∧zc70d∧(0:Int)<=(g:Int)∧(g:Int)
  < (↑s.length:Int)∧AV.bool (decide ((zc70a s g)>=48))=AV.bool false∧AV.bool false=AV.bool false∧AS.mk [(0,AV.str s),(3,AV.i (g:Int)),(4,AV.bool (isLetI (zc70a s g))),(5,AV.bool ((zc70a s g) == 95))] [] 1 =
  AS.mk (zc70c s g) [] 1)))∧((!isLetI (zc70a s g))=true->(((g:Int) == 0)=true->(true=false->false=true)∧(AV.bool !isLetI (zc70a s g))=AV.bool true∧AV.bool ((g:Int) == 0)=AV.bool true∧(true=true →
  AV.bool false=AV.bool (sName s))∧(true=false->In64 ((g:Int)+1)∧∃ (g':Nat),(g'<=s.length∧allB s g'=true)∧s.length-g' < s.length-g∧AS.mk [(0,AV.str s),(3,AV.i ((g:Int)+1))] [] 1=AS.mk [(0,
  AV.str s),(3,AV.i (↑g':Int))] [] 1))∧(((g:Int) == 0)=false->(AV.bool !isLetI (zc70a s g))=AV.bool true∧AV.bool ((g:Int) == 0)=AV.bool false∧((!isDigU (zc70a s g))=true->AV.bool false=AV.bool (sName s)) ∧
  ((!isDigU (zc70a s g))=false->In64 ((g:Int)+1)∧∃ (g':Nat),(g'<=s.length∧allB s g'=true)∧s.length-g' < s.length-g∧AS.mk [(0,AV.str s),(3,AV.i ((g:Int)+1))] [] 1=AS.mk [(0,AV.str s),(3,AV.i (↑g'
  : Int))] [] 1)))∧((!isLetI (zc70a s g))=false->zc70d∧(AV.bool !isLetI (zc70a s g))=AV.bool false∧(false=true->AV.bool false=AV.bool (sName s))∧(false=false->In64 ((g:Int)+1)∧∃ (g':Nat),(g'<=s.length
  ∧ allB s g'=true)∧s.length-g' < s.length-g∧AS.mk [(0,AV.str s),(3,AV.i ((g:Int)+1))] [] 1=AS.mk [(0,AV.str s),(3,AV.i (↑g':Int))] [] 1)))∧(decide ((g:Int) < (↑s.length:Int))=false->AV.bool true =
  AV.bool (sName s))):=by
   delta zc70a zc70b zc70c zc70d
   have hs0:(s.length == 0)=(s == []):=by cases s <;> rfl
   refine ⟨fun h=>h,fun h=>h,fun h=>by rw [h];rfl,fun h=>?_,fun h=>⟨⟨0,⟨by omega,rfl⟩,rfl⟩,fun g ⟨hg,ha⟩=>⟨fun hd=>?_,fun hd=>?_⟩⟩⟩
   · have:(!(s == []) && decide (s.length<=24))=false:=by
      rw [<- hs0]
      by_cases h0:s.length=0
      · simp [h0]
      · rw [beq_eq_false_iff_ne.2 (show (s.length:Int) ≠ 0 by omega)] at h
        simp at h
        simp only [Bool.and_eq_false_iff,decide_eq_false_iff_not]
        omega
     rw [sName,this,Bool.and_false]
   · have hlt:=lt_of_dec hd
     have hz:((g:Int) == 0)=(g == 0):=by
      by_cases h:g=0
      · simp [h]
      · rw [beq_eq_false_iff_ne.2 h,beq_eq_false_iff_ne.2 (by omega)]
     obtain ⟨n,hx⟩:∃ n,(s.getD g 0).toNat=n:=⟨_,rfl⟩
     rw [show (s.getD ((g:Int)).toNat 0).toNat=n from hx]
     have hF:okB (g == 0) (s.getD g 0).toNat=false->AV.bool false=AV.bool (sName s):=fun h=>by
      rw [all_fail hlt h]
     have hN:okB (g == 0) (s.getD g 0).toNat=true->In64 ((g:Int)+1)∧∃ (g':Nat),(g'<=s.length∧allB s g'=true)∧s.length-g' < s.length-g ∧
      AS.mk [(0,AV.str s),(3,AV.i ((g:Int)+1))] [] 1=AS.mk [(0,AV.str s),(3,AV.i g')] [] 1:=fun h =>
      ⟨by unfold In64;omega,g+1,⟨hlt,all_next ha h⟩,by omega,rfl⟩
     rw [okB_I] at hF hN
     have h1:(0:Int)<=g:=by omega
     have h2:(g:Int) < s.length:=by omega
     rw [hx] at hF hN
     rw [hz]
     generalize sName s=sn at hF ⊢
     clear hx ha
     repeat' (first | apply And.intro | intro _)
     all_goals try first
      | omega
      | contradiction
      | rfl
      | assumption
      | exact congrArg AV.bool (by assumption)
      | (rw [show isLetI (n:Int)=true by (simp only [decide_eq_true_eq,decide_eq_false_iff_not] at *;simp only [isLetI,Bool.or_eq_true,decide_eq_true_eq];omega)];done)
      | (rw [show isLetI (n:Int)=false by (simp only [decide_eq_true_eq,decide_eq_false_iff_not] at *;simp only [isLetI,Bool.or_eq_false_iff,decide_eq_false_iff_not];omega)];done)
      | (rw [show isLetI (n:Int)=decide ((n:Int)<=122) by (simp only [decide_eq_true_eq,decide_eq_false_iff_not] at *;simp only [isLetI];by_cases h90:(n:Int)<=122 <;> simp [h90] <;> omega)];done)
      | (rw [show isDigU (n:Int)=true by (simp only [decide_eq_true_eq,decide_eq_false_iff_not] at *;simp only [isDigU,Bool.or_eq_true,decide_eq_true_eq];omega)];done)
      | (rw [show isDigU (n:Int)=((n:Int) == 95) by (simp only [decide_eq_true_eq,decide_eq_false_iff_not] at *;unfold isDigU;rw [decide_eq_false (show ¬ (48<=(n:Int)∧(n:Int)<=57) by omega),Bool.false_or];rfl)];done)
      | (refine hF ?_;(clear hF hN;generalize isLetI (n:Int)=p at *;generalize isDigU (n:Int)=q at *;generalize (g == 0)=z at *;cases p <;> cases q <;> cases z <;> first | rfl | (exfalso;simp at *;done));done)
      | (refine (hN ?_).1;(clear hF hN;generalize isLetI (n:Int)=p at *;generalize isDigU (n:Int)=q at *;generalize (g == 0)=z at *;cases p <;> cases q <;> cases z <;> first | rfl | (exfalso;simp at *;done));done)
      | (refine (hN ?_).2;(clear hF hN;generalize isLetI (n:Int)=p at *;generalize isDigU (n:Int)=q at *;generalize (g == 0)=z at *;cases p <;> cases q <;> cases z <;> first | rfl | (exfalso;simp at *;done));done)
   · have hge:=ge_of_dec hd hg
     subst hge
     have h2:(!(s == []) && decide (s.length<=24))=true:=by
      rw [<- hs0]
      by_cases h0:s.length=0
      · simp [h0] at h
      · rw [beq_eq_false_iff_ne.2 (show (s.length:Int) ≠ 0 by omega)] at h
        simp at h
        simp only [Bool.and_eq_true,decide_eq_true_eq,Bool.not_eq_true',beq_eq_false_iff_ne]
        omega
     rw [sName,ha,h2]
     rfl
 exact c_of Tryd.f70 (B148 s) (by kernel_rfl) (by kernel_rfl) (by kernel_rfl) (by kernel_rfl) key (by kernel_rfl)
def spQ:Nat->List AV->Option AV
 | 70,[.str s]=>some (.bool (sName s))
 | 59,[.str s]=>some (.bool (sName s))
 | n,x=>spP n x
theorem c41 (s:List UInt8) (hs:s.length<=1000000):PCall Tryd.prog G0 41 [.str s] (.i (sWhen (!sName s) 8)):=by
 have key :
  PCall Tryd.prog G0 70 [AV.str s] (AV.bool (sName s))∧PCall Tryd.prog G0 46 [AV.bool !sName s,AV.i 8] (AV.i (sWhen (!sName s) (8:Int)))∧AV.i (sWhen (!sName s) (8:Int))=AV.i (sWhen (!sName s) (8:Int)):=by
   exact ⟨c70 s hs,c46 _ _,rfl⟩
 exact c_of Tryd.f41 (mkB spQ 41 [] noLa) (by kernel_rfl) (by kernel_rfl) (by kernel_rfl) (by kernel_rfl) key (by kernel_rfl)
end Go.Proofs.YtnbhfmaamloodaaDoor
namespace Go.Proofs.YtnbhfmaamloodaaDoor
open Go Go.Av Go.RowKit
structure Sg where
 p:Int
 e:List Int
 deriving Inhabited
structure Ty where
 name:List UInt8
 sh:List Int
 d0:Int
 d1:Int
 d2:Int
 d3:Int
 d4:Int
 d5:Int
 d6:Int
 d7:Int
 side:Int
 sq:List Int
 st:List Sg
 deriving Inhabited
def encSg (s:Sg):List AV:=[.i s.p,.sl 1 (s.e.map encI)]
def Ty.dir (t:Ty):List Int:=[t.d0,t.d1,t.d2,t.d3,t.d4,t.d5,t.d6,t.d7]
def encTy (t:Ty):List AV:=[.str t.name,.sl 1 (t.sh.map encI),.i t.d0,.i t.d1,.i t.d2,.i t.d3,.i t.d4,.i t.d5,.i t.d6,.i t.d7,.i t.side,.sl 1 (t.sq.map encI),.sl 2 (t.st.map encSg)]
def cI (rows:List (List AV)) (i:Nat):Int:=match nth (nthR rows i) 0 with
 | .int _ n=>n
 | _=>0
def rdJ:List AV->Option AV
 | [.elt _ rows i _]=>some (.i (cI rows i))
 | _=>none
theorem cI_map (l:List Int) (i:Nat):cI (l.map encI) i=l.getD i default:=by
 unfold cI nthR
 rw [List.getD_eq_getElem?_getD,List.getD_eq_getElem?_getD,List.getElem?_map]
 cases l[i]? <;> rfl
theorem cI_at {l:List Int} {i:Nat} (h:i < l.length):nth (nthR (l.map encI) i) 0=.i (cI (l.map encI) i):=by
 rw [cI_map,row_at encI h]
 rfl
def modA (r k:Nat) (f:An->An) (B:BA):BA:={ B with ra:=fun i=>if i.beq r then { B.ra i with ans:=setA f k (B.ra i).ans } else B.ra i }
def sqBad (l:List Int) (i:Nat):Bool:=if i=0 then l.getD i default != 0 else decide (l.getD i default<=l.getD (i-1) default)
def fSq (l:List Int) (i:Nat):Int:=if sqBad l i then 11 else 0
theorem fSq_z (l:List Int) (i:Nat):fSq l i=0 ↔ sqBad l i=false:=by
 unfold fSq
 cases sqBad l i <;> simp
theorem sqBad_s (l:List Int) {i:Nat} (h:i ≠ 0):sqBad l i=decide (l.getD i default<=l.getD (i-1) default):=by rw [sqBad,if_neg h]
theorem max_prev {g:Nat} (h:g ≠ 0):(maxI (0:Int) ((g:Int)-1)).toNat=g-1:=by
 unfold maxI
 split <;> omega
theorem max_prev_lt {g n:Nat} (h:g < n):0<=maxI (0:Int) ((g:Int)-1)∧maxI (0:Int) ((g:Int)-1) < n:=by
 unfold maxI
 split <;> omega
def sSquares (l:List Int):Int:=sLS (sFirst [sWhen ((l.length:Int) == 0) 12,sWhen (decide ((l.length:Int) > 8)) 5,sFirst (l.map fun x=>sWithin x 0 100000000000)]) (fSq l) l.length 0
def spR:Nat->List AV->Option AV
 | 41,[.str s]=>some (.i (sWhen (!sName s) 8))
 | n,x=>spQ n x
def sp109 (l:List Int):Nat->List AV->Option AV
 | 43,_=>some (.i (sFirst (l.map fun x=>sWithin x 0 100000000000)))
 | n,x=>spR n x
def la109 (l:List Int):LA:={
 pre:=[.keep [0,4] [],.bound 1],post:=[.keep [0,4] [],.bound 1]
 Gh:=Nat
 st:=fun i=>⟨[(0,.sl 1 (l.map encI)),(4,.i i)],[],1⟩
 ok:=fun i=>i<=l.length∧∀ k,k < i->fSq l k=0
 ms:=fun i=>l.length-i }
abbrev zc45b (l:List Int):=(↑(List.map encI l).length:Int)
abbrev zc45a (l:List Int):=[hdI [AV.i (sWhen ((zc45b l) == 0) (12:Int))],hdI [AV.i (sWhen (decide ((zc45b l) > 8)) (5:Int))],hdI [AV.i (sFirst (List.map (fun (x:Int)=>sWithin x (0:Int) (100000000000:Int)) l))]]
abbrev zc45f (l:List Int) (g:Nat):=cI (List.map encI l) (g:Int).toNat<=cI (List.map encI l) (maxI (0:Int) ((g:Int)-1)).toNat
abbrev zc45c (l:List Int) (g:Nat):=(decide (zc45f l g)=false->In64 ((g:Int)+1)∧∃ (g':Nat),(g'<=l.length∧∀ (k:Nat),k < g'->fSq l k=(0:Int))∧l.length-g' < l.length-g∧AS.mk [(0,AV.sl 1 (List.map encI l)),(4,AV.i ((g:Int)+1))] [] 1=AS.mk [(0,AV.sl 1 (List.map encI l)),(4,AV.i (↑g':Int))] [] 1)
abbrev zc45d (g:Nat) (l:List Int):=(false=false->In64 ((g:Int)+1)∧∃ (g':Nat),(g'<=l.length∧∀ (k:Nat),k < g'->fSq l k=(0:Int))∧l.length-g' < l.length-g∧AS.mk [(0,AV.sl 1 (List.map encI l)),(4,AV.i ((g:Int)+1))] [] 1=AS.mk [(0,AV.sl 1 (List.map encI l)),(4,AV.i (↑g':Int))] [] 1)
abbrev zc45e (g:Nat) (l:List Int):=(true=false->In64 ((g:Int)+1)∧∃ (g':Nat),(g'<=l.length∧∀ (k:Nat),k < g'->fSq l k=(0:Int))∧l.length-g' < l.length-g∧AS.mk [(0,AV.sl 1 (List.map encI l)),(4,AV.i ((g:Int)+1))] [] 1=AS.mk [(0,AV.sl 1 (List.map encI l)),(4,AV.i (↑g':Int))] [] 1)
theorem c45 (l:List Int) (hl:l.length<=1000):PCall Tryd.prog G0 45 [.sl 1 (l.map encI)] (.i (sSquares l)):=by
 have key :
  PCall Tryd.prog G0 46 [AV.bool ((zc45b l) == 0),AV.i 12] (AV.i (sWhen ((zc45b l) == 0) (12:Int)))∧PCall Tryd.prog G0 46 [AV.bool (decide ((zc45b l) > 8)),AV.i 5] (AV.i (sWhen (decide ((zc45b l) > 8)) (5:Int)))∧PCall
  Tryd.prog G0 43 [AV.sl 1 (List.map encI l),AV.i 0,AV.i 100000000000] (AV.i (sFirst (List.map (fun (x:Int)=>sWithin x (0:Int) (100000000000:Int)) l)))∧PCall Tryd.prog G0 40 [AV.sl 1 [[AV.i (sWhen ((zc45b l) == 0) (12 :
  Int))],[AV.i (sWhen (decide ((zc45b l) > 8)) (5:Int))],[AV.i (sFirst (List.map (fun (x:Int)=>sWithin x (0:Int) (100000000000:Int)) l))]]] (AV.i (sFirst (zc45a l)))∧((sFirst (zc45a l) != 0)=true->AV.i (sFirst (zc45a
  l))=AV.i (sSquares l))∧((sFirst (zc45a l) != 0)=false->(∃ (g:Nat),(g<=l.length∧∀ (k:Nat),k < g->fSq l k=(0:Int))∧AS.mk [(0,AV.sl 1 (List.map encI l)),(4,AV.i 0)] [] 1=AS.mk [(0,AV.sl 1 (List.map encI
  l)),(4,AV.i (g:Int))] [] 1)∧∀ (g:Nat),(g<=l.length∧∀ (k:Nat),k < g->fSq l k=(0:Int))->(decide ((g:Int) < (zc45b l))=true->(((g:Int) == 0)=true->((cI (List.map encI l) (g:Int).toNat != 0)=true
  → (0:Int)<=(g:Int)∧(g:Int) < (zc45b l)∧(true=false->false=true)∧AV.bool ((g:Int) == 0)=AV.bool true∧nth (nthR (List.map encI l) (g:Int).toNat) 0=AV.i (cI (List.map encI l) (g:Int).toNat)∧AV.bool
  (cI (List.map encI l) (g:Int).toNat != 0)=AV.bool true∧(true=true->AV.i 11=AV.i (sSquares l))∧(zc45e g l))∧((cI (List.map encI l) (g:Int).toNat != 0)=false->(decide ((g:Int) > 0)=true->(0:Int)<=(↑g :
  Int)∧(g:Int) < (zc45b l)∧(0:Int)<=(g:Int)∧(g:Int) < (zc45b l)∧In64 ((g:Int)-1)∧(0:Int)<=maxI (0:Int) ((g:Int)-1)∧maxI (0:Int) ((g:Int)-1) < (zc45b l)∧AV.bool ((g:Int) == 0) =
  AV.bool true∧nth (nthR (List.map encI l) (g:Int).toNat) 0=AV.i (cI (List.map encI l) (g:Int).toNat)∧AV.bool (cI (List.map encI l) (g:Int).toNat != 0)=AV.bool false∧AV.bool (decide ((g:Int) > 0))=AV.bool true
  ∧ nth (nthR (List.map encI l) (g:Int).toNat) 0=AV.i (cI (List.map encI l) (g:Int).toNat)∧nth (nthR (List.map encI l) (maxI (0:Int) ((g:Int)-1)).toNat) 0=AV.i (cI (List.map encI l) (maxI (0:Int) ((g:Int) -
  1)).toNat)∧(decide (zc45f l g)=true->AV.i 11=AV.i (sSquares l))∧(zc45c l g))∧(decide ((g:Int) > 0)=false->(0:Int)<=(g:Int)∧(g:Int) < (zc45b l)∧(false=true->false=true)∧AV.bool ((g:Int) == 0)
  = AV.bool true∧nth (nthR (List.map encI l) (g:Int).toNat) 0=AV.i (cI (List.map encI l) (g:Int).toNat)∧AV.bool (cI (List.map encI l) (g:Int).toNat != 0)=AV.bool false∧AV.bool (decide ((g:Int) > 0))=AV.bool
  false∧(false=true->AV.i 11=AV.i (sSquares l))∧(zc45d g l))))∧(((g:Int) == 0)=false->(false=true->(false=true->false=true)∧(true=false->false=true)∧AV.bool ((g:Int) == 0)=AV.bool false ∧
  AV.bool false=AV.bool true∧(true=true->AV.i 11=AV.i (sSquares l))∧(zc45e g l))∧(false=false->(decide ((g:Int) > 0)=true->(false=true->false=true)∧(0:Int)<=(g:Int)∧(g:Int) < (zc45b l)∧In64
  ((g:Int)-1)∧(0:Int)<=maxI (0:Int) ((g:Int)-1)∧maxI (0:Int) ((g:Int)-1) < (zc45b l)∧AV.bool ((g:Int) == 0)=AV.bool false∧AV.bool false=AV.bool false∧AV.bool (decide ((g:Int) > 0))=AV.bool
  true∧nth (nthR (List.map encI l) (g:Int).toNat) 0=AV.i (cI (List.map encI l) (g:Int).toNat)∧nth (nthR (List.map encI l) (maxI (0:Int) ((g:Int)-1)).toNat) 0=AV.i (cI (List.map encI l) (maxI (0:Int) ((g:Int)
  - 1)).toNat)∧(decide (zc45f l g)=true->AV.i 11=AV.i (sSquares l))∧(zc45c l g))∧(decide ((g:Int) > 0)=false->(false=true->false=true)∧(false=true->false=true)∧AV.bool ((g:Int) == 0)=AV.bool false
  ∧ AV.bool false=AV.bool false∧AV.bool (decide ((g:Int) > 0))=AV.bool false∧(false=true->AV.i 11=AV.i (sSquares l))∧(zc45d g l)))))∧(decide ((g:Int) < (zc45b l))=false->AV.i 0=AV.i (sSquares l))):=by
   delta zc45a zc45b zc45c zc45d zc45e zc45f
   simp only [List.length_map]
   refine ⟨c46 _ _,c46 _ _,c43 l 0 100000000000 (by omega),c40 [_,_,_] (by simp),fun h=>?_,fun h=>⟨⟨0,⟨by omega,by intros;omega⟩,rfl⟩,fun g ⟨hg,ha⟩=>⟨fun hd=>?_,fun hd=>?_⟩⟩⟩
   · exact congrArg AV.i (ls_first (f:=fSq l) (n:=l.length) (fin:=0) h).symm
   · have hlt:=lt_of_dec hd
     have hm:=max_prev_lt hlt
     have h':(sFirst [sWhen ((l.length:Int) == 0) 12,sWhen (decide ((l.length:Int) > 8)) 5,sFirst (l.map fun x=>sWithin x 0 100000000000)] != 0)=false:=h
     have hF:sqBad l g=true->AV.i 11=AV.i (sSquares l):=fun hb=>by
      have e:fSq l g=11:=by rw [fSq,if_pos hb]
      rw [sSquares,ls_hit (f:=fSq l) h' hd ha (by rw [e];decide),e]
     have hN:sqBad l g=false->∃ (g':Nat),(g'<=l.length∧∀ (k:Nat),k < g'->fSq l k=0)∧l.length-g' < l.length-g ∧
      AS.mk [(0,AV.sl 1 (List.map encI l)),(4,AV.i ((g:Int)+1))] [] 1=AS.mk [(0,AV.sl 1 (List.map encI l)),(4,AV.i (g':Int))] [] 1:=fun hb =>
      ⟨g+1,⟨hlt,all_succ ha (by rw [(fSq_z l g).2 hb];rfl)⟩,by omega,rfl⟩
     have h64:In64 ((g:Int)+1):=by unfold In64;omega
     have h65:In64 ((g:Int)-1):=by unfold In64;omega
     have hat:nth (nthR (List.map encI l) ((g:Int)).toNat) 0=AV.i (cI (List.map encI l) ((g:Int)).toNat):=cI_at hlt
     have hat2:nth (nthR (List.map encI l) (maxI 0 ((g:Int)-1)).toNat) 0=AV.i (cI (List.map encI l) (maxI 0 ((g:Int)-1)).toNat):=cI_at (by omega)
     have hsb:sqBad l g=if ((g:Int) == 0)=true then cI (List.map encI l) ((g:Int)).toNat != 0 else decide (cI (List.map encI l) ((g:Int)).toNat<=cI (List.map encI l) (maxI 0 ((g:Int)-1)).toNat):=by
      rw [cI_map,cI_map]
      by_cases e0:g=0
      · subst e0;rfl
      · rw [if_neg (by simp;omega),sqBad_s l e0,max_prev e0];rfl
     rw [hsb] at hF hN
     clear hsb ha h h' hd hl hg
     obtain ⟨_,_⟩:=h64
     obtain ⟨_,_⟩:=h65
     generalize sSquares l=sq at hF ⊢
     generalize cI (List.map encI l) ((g:Int)).toNat=c at hF hN hat ⊢
     generalize cI (List.map encI l) (maxI 0 ((g:Int)-1)).toNat=c2 at hF hN hat2 ⊢
     repeat' (first | apply And.intro | (intro h;cases h;done) | intro _)
     all_goals try first
      | omega
      | (unfold In64;omega)
      | rfl
      | exact hat
      | exact hat2
      | exact congrArg AV.bool (by assumption)
      | (refine hF ?_;rw [if_pos (by assumption)];assumption)
      | (refine hN ?_;rw [if_pos (by assumption)];assumption)
      | (refine hF ?_;rw [if_neg (by simp only [*];decide)];assumption)
      | (refine hN ?_;rw [if_neg (by simp only [*];decide)];assumption)
      | (exfalso;clear hF hN hat hat2;simp only [beq_iff_eq,decide_eq_true_eq,decide_eq_false_iff_not,beq_eq_false_iff_ne,ne_eq] at *;omega)
      | (refine hN ?_;rw [if_pos (by assumption)];assumption)
   · exact congrArg AV.i (ls_end (f:=fSq l) h hd hg ha).symm
 exact c_of Tryd.f45 ({ mkB (sp109 l) 45 [(7,6,rdOr [rdJ]),(7,16,rdOr [rdJ]),(7,22,rdOr [rdJ])] (fun i=>if i.beq 0 then some (la109 l) else none) with split:=fun i=>if i.beq 7 then 1 else 0 }) (by kernel_rfl) (by kernel_rfl) (by kernel_rfl) (by kernel_rfl) key (by kernel_rfl)
def sp107 (l:List Int):Nat->List AV->Option AV
 | 43,_=>some (.i (sFirst (l.map fun x=>sWithin x 0 1000)))
 | n,x=>spR n x
def sumI (l:List Int):Nat->Int
 | 0=>0
 | i+1=>sumI l i+l.getD i default
theorem sumI_bound {l:List Int} {B:Int} (h:∀ k,k < l.length->0<=l.getD k default∧l.getD k default<=B):∀ i,i<=l.length->0<=sumI l i∧sumI l i<=B * i
 | 0,_=>by simp [sumI]
 | i+1,hi=>by
  have:=sumI_bound h i (by omega)
  have:=h i hi
  simp only [sumI]
  rw [Int.natCast_add,Int.mul_add]
  omega
theorem ranged_of {l:List Int} {lo hi:Int} (h:sFirst (l.map fun x=>sWithin x lo hi)=0):∀ k,k < l.length->lo<=l.getD k default∧l.getD k default<=hi:=by
 induction l with
 | nil=>intro k hk;simp at hk
 | cons x l ih =>
  simp only [List.map_cons,first_zero,within_zero] at h
  intro k hk
  cases k with
  | zero=>exact h.1
  | succ k =>
   have:=ih h.2 k (by simpa using hk)
   simpa using this
def la107 (l:List Int):LA:={
 pre:=[.keep [0,4,5] [],.bound 1],post:=[.keep [0,4,5] [],.bound 1]
 Gh:=Nat
 st:=fun i=>⟨[(0,.sl 1 (l.map encI)),(4,.i (sumI l i)),(5,.i i)],[],1⟩
 ok:=fun i=>i<=l.length
 ms:=fun i=>l.length-i }
def sShares (l:List Int):Int:=if sFirst [sWhen ((l.length:Int) == 0) 12,sWhen (decide ((l.length:Int) > 8)) 5,sFirst (l.map fun x=>sWithin x 0 1000)] != 0 then sFirst [sWhen ((l.length:Int) == 0) 12,sWhen (decide ((l.length:Int) > 8)) 5,sFirst (l.map fun x=>sWithin x 0 1000)] else sWhen (sumI l l.length != 1000) 1
abbrev zc42b (l:List Int):=(↑(List.map encI l).length:Int)
abbrev zc42a (l:List Int):=[hdI [AV.i (sWhen ((zc42b l) == 0) (12:Int))],hdI [AV.i (sWhen (decide ((zc42b l) > 8)) (5:Int))],hdI [AV.i (sFirst (List.map (fun (x:Int)=>sWithin x (0:Int) (1000:Int)) l))]]
theorem c42 (l:List Int) (hl:l.length<=1000):PCall Tryd.prog G0 42 [.sl 1 (l.map encI)] (.i (sShares l)):=by
 have key :
  PCall Tryd.prog G0 46 [AV.bool ((zc42b l) == 0),AV.i 12] (AV.i (sWhen ((zc42b l) == 0) (12:Int)))∧PCall Tryd.prog G0 46 [AV.bool (decide ((zc42b l) > 8)),AV.i 5] (AV.i (sWhen (decide ((zc42b l) > 8)) (5:Int)))∧PCall
  Tryd.prog G0 43 [AV.sl 1 (List.map encI l),AV.i 0,AV.i 1000] (AV.i (sFirst (List.map (fun (x:Int)=>sWithin x (0:Int) (1000:Int)) l)))∧PCall Tryd.prog G0 40 [AV.sl 1 [[AV.i (sWhen ((zc42b l) == 0) (12:Int))],[AV.i
  (sWhen (decide ((zc42b l) > 8)) (5:Int))],[AV.i (sFirst (List.map (fun (x:Int)=>sWithin x (0:Int) (1000:Int)) l))]]] (AV.i (sFirst (zc42a l)))∧((sFirst (zc42a l) != 0)=true->AV.i (sFirst (zc42a l))=AV.i (sShares
  l))∧((sFirst (zc42a l) != 0)=false->(∃ (g:Nat),g<=l.length∧AS.mk [(0,AV.sl 1 (List.map encI l)),(4,AV.i 0),(5,AV.i 0)] [] 1=AS.mk [(0,AV.sl 1 (List.map encI l)),(4,AV.i (sumI l g)),(5,AV.i (g:Int))] [] 1)
  ∧ ∀ (g:Nat),g<=l.length->(decide ((g:Int) < (zc42b l))=true->(0:Int)<=(g:Int)∧(g:Int) < (zc42b l)∧In64 (sumI l g+cI (List.map encI l) (g:Int).toNat)∧nth (nthR (List.map encI l) (g:Int).toNat) 0 =
  AV.i (cI (List.map encI l) (g:Int).toNat)∧In64 ((g:Int)+1)∧∃ (g':Nat),g'<=l.length∧l.length-g' < l.length-g∧AS.mk [(0,AV.sl 1 (List.map encI l)),(4,AV.i (sumI l g+cI (List.map encI l) (↑g :
  Int).toNat)),(5,AV.i ((g:Int)+1))] [] 1=AS.mk [(0,AV.sl 1 (List.map encI l)),(4,AV.i (sumI l g')),(5,AV.i (↑g':Int))] [] 1)∧(decide ((g:Int) < (zc42b l))=false->PCall Tryd.prog G0 46 [AV.bool (sumI l g !=
  1000),AV.i 1] (AV.i (sWhen (sumI l g != 1000) (1:Int)))∧AV.i (sWhen (sumI l g != 1000) (1:Int))=AV.i (sShares l))):=by
   delta zc42a zc42b
   simp only [List.length_map]
   refine ⟨c46 _ _,c46 _ _,c43 l 0 1000 (by omega),c40 [_,_,_] (by simp),fun h=>?_,fun h=>⟨⟨0,by omega,rfl⟩,fun g hg=>⟨fun hd=>?_,fun hd=>?_⟩⟩⟩
   · exact congrArg AV.i (if_pos h).symm
   · have hlt:=lt_of_dec hd
     have h0:sFirst [sWhen ((l.length:Int) == 0) 12,sWhen (decide ((l.length:Int) > 8)) 5,sFirst (l.map fun x=>sWithin x 0 1000)]=0:=bne_f h
     simp only [first_zero] at h0
     have hb:=ranged_of h0.2.2.1
     have h1:=sumI_bound hb g (by omega)
     have h2:=hb g hlt
     simp only [Int.toNat_natCast,cI_map]
     exact ⟨by omega,by omega,by unfold In64;omega,by rw [cI_at hlt,cI_map],by unfold In64;omega,g+1,hlt,by omega,rfl⟩
   · have hge:=ge_of_dec hd hg
     subst hge
     refine ⟨c46 _ _,?_⟩
     rw [sShares,if_neg]
     have:(sFirst [sWhen ((l.length:Int) == 0) 12,sWhen (decide ((l.length:Int) > 8)) 5,sFirst (l.map fun x=>sWithin x 0 1000)] != 0)=false:=h
     rw [this]
     decide
 exact c_of Tryd.f42 (mkB (sp107 l) 42 [(8,4,rdOr [rdJ])] (fun i=>if i.beq 0 then some (la107 l) else none)) (by kernel_rfl) (by kernel_rfl) (by kernel_rfl) (by kernel_rfl) key (by kernel_rfl)
def la25 (t:Ty):LA:={
 pre:=[.keep [1,3] [],.bound 1],post:=[.keep [1,3] [],.bound 1]
 Gh:=Nat
 st:=fun i=>⟨[(1,.elt 13 [encTy t] 0 0),(3,.i i)],[],1⟩
 ok:=fun i=>i<=t.st.length∧∀ k,k < i->(t.st.getD k default).e.length<=9
 ms:=fun i=>t.st.length-i }
def sShort (t:Ty):Bool:=(t.st.all fun s=>decide (s.e.length<=9)) && (decide (t.name.length<=40) && (decide (t.sh.length<=9) && (decide (t.sq.length<=9) && decide (t.st.length<=7))))
abbrev zc15a:=false=true->false=true
abbrev zc15b (t:Ty):=(↑(List.map encI t.sq).length:Int)<=9
abbrev zc15c (t:Ty):=decide ((↑t.name.length:Int)<=40)
abbrev zc15d (t:Ty):=(↑(List.map encI t.sh).length:Int)<=9
abbrev zc15e (t:Ty):=(↑(List.map encSg t.st).length:Int)
theorem c15 (t:Ty) (hl:t.st.length<=9223372036854775807):PCall Tryd.prog G0 15 [.agg (encTy t)] (.bool (sShort t)):=by
 have key :
  (∃ (g:Nat),(g<=t.st.length∧∀ (k:Nat),k < g->(t.st.getD k default).e.length<=9)∧AS.mk [(1,AV.elt 13 [(encTy t)] 0 0),(3,AV.i 0)] [] 1=AS.mk [(1,AV.elt 13 [(encTy t)] 0 0),(3,AV.i (g:Int))] [] 1)∧∀ (g :
  Nat),(g<=t.st.length∧∀ (k:Nat),k < g->(t.st.getD k default).e.length<=9)->(decide ((g:Int) < (zc15e t))=true->(0:Int)<=(g:Int)∧(g:Int) < (zc15e t)∧nth (nthR (List.map encSg t.st) (g:Int).toNat) 1 =
  AV.sl 1 (List.map encI (t.st.getD (g:Int).toNat default).e)∧(decide ((↑(List.map encI (t.st.getD (g:Int).toNat default).e).length:Int) > 9)=true->AV.bool false=AV.bool (sShort t))∧(decide ((↑(List.map encI
  (t.st.getD (g:Int).toNat default).e).length:Int) > 9)=false->In64 ((g:Int)+1)∧∃ (g':Nat),(g'<=t.st.length∧∀ (k:Nat),k < g'->(t.st.getD k default).e.length<=9)∧t.st.length-g' < t.st.length-g∧AS.mk
  [(1,AV.elt 13 [(encTy t)] 0 0),(3,AV.i ((g:Int)+1))] [] 1=AS.mk [(1,AV.elt 13 [(encTy t)] 0 0),(3,AV.i (↑g':Int))] [] 1))∧(decide ((g:Int) < (zc15e t))=false->(decide ((↑t.name.length:Int)<=40)=true →
  (decide (zc15d t)=true->(decide (zc15b t)=true->AV.bool (zc15c t)=AV.bool true∧AV.bool (decide (zc15d t))=AV.bool true∧AV.bool (decide (zc15b t))=AV.bool true∧AV.bool (decide ((zc15e t)<=7))=AV.bool (sShort t))
  ∧ (decide (zc15b t)=false->zc15a∧AV.bool (zc15c t)=AV.bool true∧AV.bool (decide (zc15d t))=AV.bool true∧AV.bool (decide (zc15b t))=AV.bool false∧AV.bool false=AV.bool (sShort t)))∧(decide (zc15d t)=false →
  (false=true->zc15a∧AV.bool (zc15c t)=AV.bool true∧AV.bool (decide (zc15d t))=AV.bool false∧AV.bool false=AV.bool true∧AV.bool (decide ((zc15e t)<=7))=AV.bool (sShort t))∧(false=false->zc15a∧zc15a ∧
  AV.bool (zc15c t)=AV.bool true∧AV.bool (decide (zc15d t))=AV.bool false∧AV.bool false=AV.bool false∧AV.bool false=AV.bool (sShort t))))∧(decide ((↑t.name.length:Int)<=40)=false->(false=true->(decide (zc15b
  t)=true->zc15a∧AV.bool (zc15c t)=AV.bool false∧AV.bool false=AV.bool true∧AV.bool (decide (zc15b t))=AV.bool true∧AV.bool (decide ((zc15e t)<=7))=AV.bool (sShort t))∧(decide (zc15b t)=false->zc15a∧zc15a ∧
  AV.bool (zc15c t)=AV.bool false∧AV.bool false=AV.bool true∧AV.bool (decide (zc15b t))=AV.bool false∧AV.bool false=AV.bool (sShort t)))∧(false=false->(false=true->zc15a∧zc15a∧AV.bool (zc15c t)=AV.bool
  false∧AV.bool false=AV.bool false∧AV.bool false=AV.bool true∧AV.bool (decide ((zc15e t)<=7))=AV.bool (sShort t))∧(false=false->zc15a∧zc15a∧zc15a∧AV.bool (zc15c t)=AV.bool false∧AV.bool false=AV.bool
  false∧AV.bool false=AV.bool false∧AV.bool false=AV.bool (sShort t))))):=by
   delta zc15a zc15b zc15c zc15d zc15e
   refine ⟨⟨0,⟨by omega,by intros;omega⟩,rfl⟩,fun g ⟨hg,ha⟩=>⟨fun hd=>?_,fun hd=>?_⟩⟩
   · have hlt:g < t.st.length:=by simpa using hd
     refine ⟨by omega,by rw [List.length_map];omega,by rw [row_at encSg (by simpa using hlt)];rfl,fun h=>?_,fun h=>⟨by unfold In64;omega,g+1,⟨hlt,fun k hk=>?_⟩,by omega,rfl⟩⟩
     · have h9:¬ (t.st.getD g default).e.length<=9:=by
        have h:=h
        simp only [List.length_map,decide_eq_true_eq,Int.toNat_natCast] at h
        omega
       have:(t.st.all fun s=>decide (s.e.length<=9))=false:=by
        refine List.all_eq_false.2 ⟨t.st.getD g default,?_,by simpa using h9⟩
        rw [List.getD_eq_getElem?_getD,List.getElem?_eq_getElem hlt]
        exact List.getElem_mem _
       rw [sShort,this]
       rfl
     · by_cases e:k=g
       · subst e
         simp only [List.length_map,decide_eq_false_iff_not,Int.toNat_natCast] at h
         omega
       · exact ha k (by omega)
   · have hge:g=t.st.length:=by simp at hd;omega
     have hall:(t.st.all fun s=>decide (s.e.length<=9))=true:=by
      refine List.all_eq_true.2 fun s hs=>?_
      obtain ⟨k,hk,rfl⟩:=List.getElem_of_mem hs
      have:=ha k (by omega)
      rw [List.getD_eq_getElem?_getD,List.getElem?_eq_getElem hk] at this
      simpa using this
     have hS:sShort t=(decide ((t.name.length:Int)<=40) && (decide (((t.sh.map encI).length:Int)<=9) && (decide (((t.sq.map encI).length:Int)<=9) && decide (((t.st.map encSg).length:Int)<=7)))):=by
      rw [sShort,hall,Bool.true_and,List.length_map,List.length_map,List.length_map]
      congr 1
      · exact decide_eq_decide.2 (by omega)
      congr 1
      · exact decide_eq_decide.2 (by omega)
      congr 1
      · exact decide_eq_decide.2 (by omega)
      · exact decide_eq_decide.2 (by omega)
     rw [hS]
     clear hS hall ha hd hl hg hge
     generalize decide ((t.name.length:Int)<=40)=a
     generalize decide (((t.sh.map encI).length:Int)<=9)=b
     generalize decide (((t.sq.map encI).length:Int)<=9)=c
     generalize decide (((t.st.map encSg).length:Int)<=7)=d
     cases a <;> cases b <;> cases c <;> cases d <;> simp
 exact c_of Tryd.f15 ({ mkB spR 15 [(4,5,rdL 2 encSg t.st 1 false)] (fun i=>if i.beq 0 then some (la25 t) else none) with split:=fun i=>if i.beq 6 then 1 else 0 }) (by kernel_rfl) (by kernel_rfl) (by kernel_rfl) (by kernel_rfl) key (by kernel_rfl)
end Go.Proofs.YtnbhfmaamloodaaDoor
