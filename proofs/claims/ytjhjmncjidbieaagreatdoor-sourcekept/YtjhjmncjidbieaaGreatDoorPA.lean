/-
  The tables of chapter 2's seat, and what its functions' proofs share. No condition. What the small functions of chapter 2 return. No condition but the theorems' own.
-/
import Derived.Test.YtjhjmncjidbieaaGreatDoorChecked
import Derived.Test.YtjhjmncjidbieaaGreatDoorAvD
namespace Go.Proofs.YtjhjmncjidbieaaGreatDoor
open Go Go.Av Go.RowKit
def T0:TT:=[
 (2,⟨(.int .i64),1,8,false,[.int .i64 0],false⟩),
 (3,⟨(.int .i64),1,8,false,[.int .i64 0],false⟩),
 (4,⟨.bool,1,1,false,[.bool false],false⟩),
 (5,⟨(.int .u8),1,1,false,[.int .u8 0],false⟩),
 (9,⟨.str,1,16,false,[.str []],false⟩),
 (21,⟨(.int .i32),1,4,false,[.int .i32 0],false⟩),
 (22,⟨(.slice 85 2 16),1,24,false,[.ex (.slice none 0 0)],false⟩),
 (23,⟨(.slice 81 3 24),1,24,false,[.ex (.slice none 0 0)],false⟩),
 (24,⟨(.arr 2 3 1),2,16,true,[.int .i64 0,.int .i64 0],true⟩),
 (26,⟨(.slice 83 5 40),1,24,false,[.ex (.slice none 0 0)],false⟩),
 (27,⟨(.int .i64),1,8,false,[.int .i64 0],false⟩),
 (30,⟨(.slice 166 3 24),1,24,false,[.ex (.slice none 0 0)],false⟩),
 (35,⟨.other,1,8,false,[.ex .nilFunc],false⟩),
 (36,⟨(.slice 110 5 40),1,24,false,[.ex (.slice none 0 0)],false⟩),
 (43,⟨(.slice 3 1 8),1,24,false,[.ex (.slice none 0 0)],false⟩),
 (44,⟨(.arr 8 3 1),8,64,true,(List.replicate 8 (.int .i64 0)),true⟩),
 (45,⟨(.slice 117 2 32),1,24,false,[.ex (.slice none 0 0)],false⟩),
 (47,⟨(.struct [(0,9,1),(1,43,1),(2,44,8),(10,3,1),(11,43,1),(12,45,1)]),13,160,true,[.str [],.ex (.slice none 0 0),.int .i64 0,.int .i64 0,.int .i64 0,.int .i64 0,.int .i64 0,.int .i64 0,.int .i64 0,.int .i64 0,.int .i64 0,.ex (.slice none 0 0),.ex (.slice none 0 0)],true⟩),
 (49,⟨(.struct [(0,3,1),(1,3,1)]),2,16,true,[.int .i64 0,.int .i64 0],true⟩),
 (51,⟨(.struct [(0,3,1),(1,3,1),(2,3,1)]),3,24,true,[.int .i64 0,.int .i64 0,.int .i64 0],true⟩),
 (53,⟨(.struct [(0,49,2),(2,51,3)]),5,40,true,[.int .i64 0,.int .i64 0,.int .i64 0,.int .i64 0,.int .i64 0],true⟩),
 (58,⟨(.slice 182 2 32),1,24,false,[.ex (.slice none 0 0)],false⟩),
 (60,⟨(.struct [(0,9,1),(1,43,1),(2,44,8),(10,3,1),(11,43,1),(12,58,1)]),13,160,true,[.str [],.ex (.slice none 0 0),.int .i64 0,.int .i64 0,.int .i64 0,.int .i64 0,.int .i64 0,.int .i64 0,.int .i64 0,.int .i64 0,.int .i64 0,.ex (.slice none 0 0),.ex (.slice none 0 0)],true⟩),
 (66,⟨(.struct [(0,3,1),(1,3,1)]),2,16,true,[.int .i64 0,.int .i64 0],true⟩),
 (78,⟨(.int .u32),1,4,false,[.int .u32 0],false⟩),
 (79,⟨(.arr 2 78 1),2,8,true,[.int .u32 0,.int .u32 0],true⟩),
 (81,⟨(.struct [(0,3,1),(1,3,1),(2,3,1)]),3,24,true,[.int .i64 0,.int .i64 0,.int .i64 0],true⟩),
 (83,⟨(.struct [(0,3,1),(1,51,3),(4,3,1)]),5,40,true,[.int .i64 0,.int .i64 0,.int .i64 0,.int .i64 0,.int .i64 0],true⟩),
 (85,⟨(.struct [(0,3,1),(1,3,1)]),2,16,true,[.int .i64 0,.int .i64 0],true⟩),
 (89,⟨(.struct [(0,51,3),(3,85,2),(5,3,1)]),6,48,true,[.int .i64 0,.int .i64 0,.int .i64 0,.int .i64 0,.int .i64 0,.int .i64 0],true⟩),
 (91,⟨(.struct [(0,3,1),(1,3,1),(2,89,6),(8,51,3),(11,85,2),(13,3,1)]),14,112,true,(List.replicate 14 (.int .i64 0)),true⟩),
 (95,⟨(.struct [(0,51,3),(3,85,2),(5,3,1)]),6,48,true,[.int .i64 0,.int .i64 0,.int .i64 0,.int .i64 0,.int .i64 0,.int .i64 0],true⟩),
 (107,⟨(.int .u16),1,2,false,[.int .u16 0],false⟩),
 (109,⟨(.struct [(0,51,3),(3,107,1),(4,107,1)]),5,32,true,[.int .i64 0,.int .i64 0,.int .i64 0,.int .u16 0,.int .u16 0],true⟩),
 (110,⟨(.struct [(0,3,1),(1,51,3),(4,3,1)]),5,40,true,[.int .i64 0,.int .i64 0,.int .i64 0,.int .i64 0,.int .i64 0],true⟩),
 (117,⟨(.struct [(0,3,1),(1,43,1)]),2,32,true,[.int .i64 0,.ex (.slice none 0 0)],true⟩),
 (119,⟨.other,1,8,false,[.ex .nilFunc],false⟩),
 (120,⟨(.slice 47 13 160),1,24,false,[.ex (.slice none 0 0)],false⟩),
 (121,⟨(.slice 157 3 56),1,24,false,[.ex (.slice none 0 0)],false⟩),
 (124,⟨(.slice 60 13 160),1,24,false,[.ex (.slice none 0 0)],false⟩),
 (126,⟨(.slice 168 3 56),1,24,false,[.ex (.slice none 0 0)],false⟩),
 (155,⟨(.struct [(0,51,3),(3,107,1),(4,107,1)]),5,32,true,[.int .i64 0,.int .i64 0,.int .i64 0,.int .u16 0,.int .u16 0],true⟩),
 (157,⟨(.struct [(0,9,1),(1,9,1),(2,36,1)]),3,56,true,[.str [],.str [],.ex (.slice none 0 0)],true⟩),
 (158,⟨(.arr 2 36 1),2,48,true,[.ex (.slice none 0 0),.ex (.slice none 0 0)],true⟩),
 (160,⟨(.slice 9 1 16),1,24,false,[.ex (.slice none 0 0)],false⟩),
 (165,⟨(.arr 8 85 2),16,128,true,(List.replicate 16 (.int .i64 0)),true⟩),
 (166,⟨(.struct [(0,3,1),(1,3,1),(2,3,1)]),3,24,true,[.int .i64 0,.int .i64 0,.int .i64 0],true⟩),
 (168,⟨(.struct [(0,9,1),(1,9,1),(2,26,1)]),3,56,true,[.str [],.str [],.ex (.slice none 0 0)],true⟩),
 (179,⟨.other,1,8,false,[.ex .nilFunc],false⟩),
 (182,⟨(.struct [(0,3,1),(1,43,1)]),2,32,true,[.int .i64 0,.ex (.slice none 0 0)],true⟩),
 (186,⟨.other,1,8,false,[.ex .nilFunc],false⟩),
 (205,⟨(.slice 210 4 64),1,24,false,[.ex (.slice none 0 0)],false⟩),
 (210,⟨(.struct [(0,168,3),(3,3,1)]),4,64,true,[.str [],.str [],.ex (.slice none 0 0),.int .i64 0],true⟩),
 (212,⟨.other,1,8,false,[.ex .nilFunc],false⟩),
 (213,⟨.other,1,8,false,[.ex .nilFunc],false⟩),
 (215,⟨(.map 9 4),1,8,false,[.ex (.map none)],false⟩),
 (219,⟨(.arr 5 9 1),5,80,true,[.str [],.str [],.str [],.str [],.str []],true⟩),
 (221,⟨.other,1,8,false,[.ex .nilFunc],false⟩),
 (225,⟨.other,1,8,false,[.ex (.pointer none)],false⟩),
 (228,⟨(.struct [(0,160,1),(1,4,1)]),2,32,true,[.ex (.slice none 0 0),.bool false],true⟩),
 (230,⟨.other,1,8,false,[.ex .nilFunc],false⟩),
 (232,⟨(.struct [(0,230,1)]),1,8,true,[.ex .nilFunc],true⟩),
 (233,⟨(.arr 5 232 1),5,40,true,[.ex .nilFunc,.ex .nilFunc,.ex .nilFunc,.ex .nilFunc,.ex .nilFunc],true⟩),
 (234,⟨.other,1,8,false,[.ex (.pointer none)],false⟩),
 (238,⟨(.slice 27 1 8),1,24,false,[.ex (.slice none 0 0)],false⟩),
 (242,⟨.other,1,8,false,[.ex .nilFunc],false⟩),
 (246,⟨.other,1,8,false,[.ex .nilFunc],false⟩),
 (248,⟨(.slice 26 1 24),1,24,false,[.ex (.slice none 0 0)],false⟩),
 (252,⟨.other,1,8,false,[.ex .nilFunc],false⟩),
 (256,⟨.other,1,8,false,[.ex .nilFunc],false⟩),
 (258,⟨.other,1,8,false,[.ex (.pointer none)],false⟩),
 (259,⟨(.slice 5 1 1),1,24,false,[.ex (.slice none 0 0)],false⟩),
 (261,⟨(.struct [(0,258,1),(1,259,1)]),2,32,true,[.ex (.pointer none),.ex (.slice none 0 0)],true⟩),
 (264,⟨.other,1,16,false,[.ex .nilIface],false⟩),
 (270,⟨.other,1,8,false,[.ex (.pointer none)],false⟩),
 (274,⟨.other,1,8,false,[.ex (.pointer none)],false⟩),
 (277,⟨(.arr 24 5 1),24,24,true,(List.replicate 24 (.int .u8 0)),true⟩),
 (278,⟨(.int .u64),1,8,false,[.int .u64 0],false⟩),
 (283,⟨(.int .u64),1,8,false,[.int .u64 0],false⟩),
 (285,⟨(.arr 20 278 1),20,160,true,(List.replicate 20 (.int .u64 0)),true⟩),
 (286,⟨(.arr 65 5 1),65,65,true,(List.replicate 65 (.int .u8 0)),true⟩),
 (288,⟨(.arr 256 5 1),256,256,true,(List.replicate 256 (.int .u8 0)),true⟩),
 (290,⟨(.struct [(0,5,1),(1,5,1)]),2,2,true,[.int .u8 0,.int .u8 0],true⟩),
 (291,⟨(.arr 16 290 2),32,32,true,(List.replicate 32 (.int .u8 0)),true⟩),
 (295,⟨(.arr 32 5 1),32,32,true,(List.replicate 32 (.int .u8 0)),true⟩),
 (296,⟨(.arr 64 5 1),64,64,true,(List.replicate 64 (.int .u8 0)),true⟩),
 (302,⟨.other,1,8,false,[.ex .nilFunc],false⟩)]
def yA:Nat->An
 | 0=>{}
 | 1=>{sym:=true}
 | 2=>{fr:=true}
 | 3=>{nw:=true}
 | 4=>{nw:=true,sym:=true}
 | 5=>{fr:=true,sym:=true}
 | _=>{fz:=true}
def yL:Nat->Nat->List An
 | 0,_=>[]
 | n+1,k=>yA (k % 10)::yL n (k / 10)
def yW(r:Nat)(v e:List Nat)(s:List (Nat × Nat × Nat × List Nat)):List (Nat × RA):=e.map (fun i=>(i,⟨[],r,v,[]⟩))++s.map fun x=>(x.1,⟨yL x.2.1 x.2.2.1,r,v,x.2.2.2⟩)
def F0:FT:=[
 (12,yW 516 [516,541,592] [2,3,4,7,10,11,12,15,16,17,18,22,23,24,28,30,31,35,36,37,41,42,44,45,46,47,52,54,55,57,58,59,61,62,63,64,65,66,67,70,72,75] [(0,1,2,[]),(1,35,11110011110011100111001110011100000,[]),(5,0,0,[8]),(6,15,300000000300000,[]),(8,1,3,[]),(9,5,30000,[]),(13,3,600,[]),(14,30,111111100111110011100111111000,[]),(19,0,0,[17]),(20,11,11111100000,[]),(21,2,30,[]),(25,3,300,[18]),(26,7,3300000,[]),(27,50,30033300000030000003330000003000000330000003000000,[]),(29,1,3,[]),(32,8,20003000,[]),(33,18,300003000030003000,[]),(34,5,30000,[]),(38,7,3000000,[]),(39,8,11111100,[]),(40,1,3,[]),(43,11,14111111000,[]),(48,21,303000000030000000000,[]),(49,3,600,[29]),(50,0,0,[31]),(51,10,1110011000,[]),(53,1,3,[]),(56,11,60000000000,[]),(60,44,11110011114110011111001110011001100110011000,[]),(68,3,300,[]),(69,18,111111111110000000,[]),(71,1,3,[]),(73,0,0,[50]),(74,35,14111111110011111110011001100110000,[]),(76,4,3000,[53]),(77,14,10014111111000,[])]),
 (13,yW 185 [185,186,201] [0,2,3,4,6,7,8,10,11,12,14,15,16,18,20,27] [(1,0,0,[1]),(5,0,0,[8]),(9,0,0,[17]),(13,74,11100115100111001100110011001100111110011001100110011003030303030303030300,[]),(17,0,0,[26]),(19,6,111000,[]),(21,1,3,[]),(22,3,200,[]),(23,4,2000,[]),(24,5,20000,[]),(25,2,20,[]),(26,2,20,[]),(28,0,0,[39]),(29,51,110011001100111111001111110011111001110011003030300,[])]),
 (14,yW 34 [34,39,105] [0,2,3,4,5,6,7,9,16,17,18] [(1,9,200000000,[]),(8,0,0,[14]),(10,18,300030000300030000,[15]),(11,15,330300000300000,[]),(12,0,0,[16]),(13,18,200000000003003000,[]),(14,1,3,[]),(15,6,200000,[])]),
 (20,yW 1 [2] [0,1] []),
 (22,yW 23 [23,24,54] [0,2,3,4,5,6,9,10,11,13] [(1,9,200000000,[]),(7,0,0,[6]),(8,24,200111111100000000000000,[]),(12,1,3,[])]),
 (23,yW 6 [10,14,25] [0,1,2,3,4,6,7,8] [(5,2,30,[])]),
 (24,yW 7 [7,8,9] [0,1,2,3,7] [(4,0,0,[5]),(5,3,200,[]),(6,1,3,[])]),
 (25,yW 3 [3,8,18] [1,2,4,5] [(0,1,2,[]),(3,2,30,[]),(6,21,111100111100111100000,[])]),
 (26,yW 1 [2] [0,1] []),
 (27,yW 9 [9,10,17] [1,2,3,4] [(0,3,222,[])]),
 (28,yW 21 [21,22,23] [0,1,2,3,4,8] [(5,0,0,[5]),(6,5,62000,[]),(7,1,3,[])]),
 (29,yW 7 [7,8,9] [0,1,2,3,7] [(4,0,0,[5]),(5,3,200,[]),(6,1,3,[])]),
 (30,yW 39 [39,40,43] [1,2,3,5,6,7,8,9,10,11,12,13] [(0,3,222,[]),(4,0,0,[12])]),
 (31,yW 22 [26,27,28] [2,3,4,6,7,11] [(0,2,22,[]),(1,7,2000000,[]),(5,3,300,[]),(8,8,30000000,[11]),(9,10,3000030000,[]),(10,1,3,[])]),
 (32,yW 11 [47,53,60] [1,2,3,7,8,9,10,12,13,14,15] [(0,1,2,[]),(5,6,200000,[]),(4,2,30,[]),(6,25,2000000000000000000000000,[]),(11,2,30,[])]),
 (33,yW 6 [17,22,64] [0,2,3,4,5,8,9] [(1,9,200000000,[]),(7,37,2001111141111111000000000000000000000,[]),(6,2,30,[]),(10,12,300000003000,[])]),
 (35,yW 1 [1,2] [] [(0,1,2,[]),(1,10,2000000000,[])]),
 (39,yW 32 [32,62,70] [0,2,3,4,5,6,7,14,15,16] [(1,5,20000,[]),(8,0,0,[9]),(9,4,3000,[10]),(10,13,3300000000000,[11]),(11,8,30030000,[]),(12,3,200,[]),(13,1,3,[])]),
 (40,yW 7 [7,8,18] [2,3,4] [(0,1,2,[]),(1,7,2000000,[])]),
 (41,yW 5 [5,6,14] [2,3,4] [(0,2,22,[]),(1,5,20000,[])]),
 (43,yW 7 [7,8,16] [2,3,7] [(0,2,22,[]),(1,5,20000,[]),(4,4,2000,[]),(5,4,3000,[]),(6,5,30000,[])]),
 (44,yW 1 [2] [0,1] []),
 (53,yW 50 [50,51,74] [2,3,5,6,7,8,9,11,13] [(0,1,2,[]),(1,18,200000000000000000,[]),(4,14,20000000000000,[]),(10,19,1111411111110011000,[]),(12,1,3,[])]),
 (54,yW 6 [10,14,25] [0,1,2,3,4,6,7,8] [(5,2,30,[])]),
 (55,yW 1 [] [0,1] []),
 (56,yW 7 [7,11,25] [0,1,2,3,6,7] [(4,0,0,[7]),(5,9,111100000,[])]),
 (57,yW 1 [2] [0] [(1,3,600,[])]),
 (58,yW 3 [3,4,21] [1,3,4,7] [(0,1,2,[]),(2,8,60006000,[]),(6,19,6206000000000000000,[]),(5,2,30,[])]),
 (60,yW 11 [18,22,49] [0,1,2,4,5,6,7,10] [(3,2,30,[]),(9,24,111111100111111100000000,[]),(8,2,30,[]),(11,17,11111111001110000,[])]),
 (61,yW 8 [8,9,18] [1,2,3,4] [(0,1,2,[])]),
 (62,yW 7 [7,8,9] [0,1,2,3,7] [(4,0,0,[5]),(5,4,2000,[]),(6,1,3,[])]),
 (63,yW 7 [7,8,9] [0,1,2,3,7] [(4,0,0,[5]),(5,10,2000000000,[]),(6,1,3,[])]),
 (64,yW 8 [8,9,18] [1,2,3,4] [(0,1,2,[])]),
 (65,yW 8 [8,9,29] [1,3,4,5] [(0,1,2,[]),(2,10,2001110000,[])]),
 (66,yW 38 [41,45,83] [0,1,2,3,4,7,8,9,10,11,12,15,16,17] [(6,17,20000000000000000,[]),(5,2,30,[]),(14,33,200000000000000000000000000000000,[]),(13,2,30,[])]),
 (70,yW 45 [45,46,71] [0,1,2,3,4,5,8,9,10,12,13,14,15,18,19,20,22] [(6,0,0,[8]),(7,8,20000000,[]),(11,1,3,[]),(16,0,0,[11]),(17,20,20000000000000000000,[]),(21,1,3,[])]),
 (71,yW 7 [7,15,44] [0,2,3,5,6] [(1,5,20000,[]),(4,25,2003000000003000000000000,[]),(7,3,200,[])]),
 (76,yW 22 [22,23,47] [0,2,3,4,5,8,9] [(1,9,200000000,[]),(6,0,0,[5]),(7,18,200111114111100000,[]),(10,1,3,[]),(11,12,300000003000,[])]),
 (77,yW 43 [43,44,45] [1,2,3,5,6,10] [(0,1,2,[]),(4,28,3000003000003000000200300300,[]),(7,0,0,[7]),(8,11,30600000000,[]),(9,1,3,[])]),
 (78,yW 20 [20,62,75] [0,1,2,3,4,5,6,7,8,9,10,11,13,16,17,18] [(12,22,1111110011110011111000,[]),(14,2,30,[]),(15,6,200000,[])]),
 (81,yW 6 [49,54,85] [2,3,4,7,8] [(0,2,22,[]),(1,43,1111111001111110011111001111100111111000000,[]),(6,28,1111111111111100000000000000,[]),(5,2,30,[])]),
 (82,yW 19 [19,20,21] [1,2,3,7] [(0,1,2,[]),(4,0,0,[5]),(5,5,62000,[]),(6,1,3,[])]),
 (83,yW 5 [5,9,18] [0,1,2,4,5,6] [(3,2,30,[])]),
 (84,yW 7 [7,11,18] [0,1,2,3,4,6] [(7,6,200000,[]),(8,2,30,[]),(5,2,30,[]),(9,6,620000,[])]),
 (85,yW 1 [] [0] [(1,8,20202202,[])]),
 (86,yW 1 [] [0] [(1,4,2000,[])]),
 (87,yW 7 [7,8,12] [0,1,2,3,4,5,7] [(6,1,3,[])]),
 (88,yW 22 [22,23,49] [0,2,3,4,5,8,9,11] [(1,9,200000000,[]),(6,0,0,[5]),(7,20,20011114111000000000,[]),(10,1,3,[])]),
 (89,yW 1 [1,2,6] [0] [(1,7,1110000,[])]),
 (90,yW 20 [20,21,35] [0,3,4,6,8,10] [(1,4,3000,[]),(2,3,300,[]),(5,7,3000000,[7,8]),(7,9,300003000,[]),(9,1,3,[])]),
 (91,yW 2 [4,5,13] [0,4] [(1,3,300,[]),(2,3,300,[]),(3,2,30,[])]),
 (92,yW 1 [1,4,5] [0,1,2,3] []),
 (93,yW 3 [3,7,14] [0,1,2,4,5,6] [(3,2,30,[])]),
 (94,yW 1 [1,4,5] [0,1,2,3] []),
 (95,yW 1 [1,2,6] [0] [(1,7,1110000,[])]),
 (98,yW 1 [2] [0,1] []),
 (99,yW 5 [6,7,8] [] [(0,3,222,[]),(1,23,20000111001111100000000,[])]),
 (100,yW 12 [19,20,21] [1,2,3,5] [(0,3,222,[]),(4,3,300,[])]),
 (101,yW 2 [2,3,4] [1] [(0,2,22,[])]),
 (102,yW 1 [2] [0] [(1,8,30000000,[])]),
 (103,yW 6 [6,7,8] [1] [(0,4,2222,[])]),
 (104,yW 1 [1,2] [] [(0,1,2,[]),(1,10,2000000000,[])]),
 (105,yW 14 [14,15,16] [] [(0,4,2222,[]),(1,0,0,[9,10,11]),(2,5,30000,[]),(3,34,3300003300003000033000033000030000,[]),(4,16,3300300000000000,[]),(5,14,30003000000000,[]),(6,7,3030300,[])]),
 (106,yW 1 [2] [0,1] []),
 (107,yW 5 [5,19,24] [0,2,3,4,5,6,9] [(1,11,20000000000,[]),(8,6,300000,[]),(7,2,30,[])]),
 (108,yW 8 [8,12,23] [0,1,2,4,5,6,7] [(3,2,30,[])]),
 (109,yW 5 [18,23,51] [0,2,3,4,5,8,9] [(1,11,20000000000,[]),(7,25,1111141111111110011111000,[]),(6,2,30,[])]),
 (110,yW 9 [48,54,90] [3,4,5,6,9,10] [(0,1,2,[]),(1,9,300000000,[5,6]),(2,25,2000000000000011111000000,[]),(8,33,111111111111111001111411111111000,[]),(7,2,30,[])]),
 (112,yW 1 [1,2] [] [(0,1,2,[]),(1,16,3000033000030000,[])]),
 (113,yW 2 [2,3,4] [] [(0,2,22,[]),(1,15,300003000030000,[])]),
 (114,yW 18 [23,30,45] [1,2,3,4,5,6,8,9,12] [(0,2,22,[]),(7,1,3,[]),(10,6,300000,[]),(11,11,11111111000,[]),(13,4,3000,[11,12]),(14,19,3000030000000000000,[])]),
 (115,yW 1 [1,2] [] [(0,1,2,[]),(1,7,2000000,[])]),
 (116,yW 8 [31,34,51] [2,3,6,10] [(0,2,22,[]),(1,22,3300003000033000030000,[]),(5,14,11111100110000,[]),(7,6,110000,[]),(8,2,30,[]),(9,3,300,[]),(4,2,30,[])]),
 (117,yW 10 [10,19,47] [3,4,5] [(0,3,222,[]),(1,0,0,[7]),(2,0,0,[8]),(6,14,30000030000000,[]),(7,3,300,[]),(8,5,33000,[]),(9,2,30,[])]),
 (118,yW 1 [2] [0,1] []),
 (119,yW 9 [9,10,11] [0,1,2,3,4,7] [(5,5,20000,[]),(6,1,3,[])]),
 (120,yW 1 [1,3] [0] [(1,10,3330003030,[])]),
 (121,yW 7 [7,8,9] [0,1,2,3,4,7] [(5,3,300,[]),(6,1,3,[])]),
 (122,yW 8 [8,9,43] [0,1,2,3,6] [(4,13,1111110011000,[]),(5,17,11111111111111000,[]),(7,6,111000,[])]),
 (123,yW 1 [1,4] [0] [(1,8,20000000,[])]),
 (124,yW 1 [1,3,4] [1] [(0,1,2,[])]),
 (125,yW 57 [57,58,82] [1,2,3,5,6,9,10,11,12,13,15,17,19] [(0,1,2,[]),(4,4,2000,[]),(7,0,0,[6]),(8,21,200000000000000000000,[]),(14,20,11111110011141111000,[]),(16,1,3,[]),(18,1,3,[])]),
 (126,yW 19 [19,20,27] [0,1,3,5,6] [(2,4,3000,[]),(4,0,0,[7]),(7,1,3,[]),(8,7,3000000,[8,9]),(9,9,300003000,[]),(10,0,0,[12]),(11,15,300000030000000,[])]),
 (127,yW 7 [7,8,17] [2,3,4] [(0,2,22,[]),(1,6,200000,[])]),
 (128,yW 1 [2] [0,1] []),
 (129,yW 7 [9,17,27] [0,1,2,3,4,5,7,8,9] [(6,2,30,[])]),
 (130,yW 2 [2,3,4] [1] [(0,2,22,[])]),
 (131,yW 5 [5,9,18] [0,1,2,4,5,6] [(3,2,30,[])]),
 (132,yW 26 [26,27,28] [0,1,2,3,4,6,7,10,11,12,13,15] [(5,4,3000,[]),(8,1,3,[]),(9,2,20,[]),(14,1,3,[])]),
 (134,yW 1 [1,2] [] [(0,1,2,[]),(1,10,2000000000,[])]),
 (135,yW 1 [1,4] [0] [(1,7,3060000,[])]),
 (136,yW 1 [1,2] [0,1] []),
 (137,yW 1 [1,4,5] [0,1] []),
 (138,yW 1 [1,4] [0,1] []),
 (139,yW 1 [2,3,18] [0,2,3,4,5,6] [(1,14,11111110000000,[])]),
 (142,yW 2 [2,3,8] [0] [(1,9,300303000,[])]),
 (144,yW 5 [6,12,24] [0,1,3] [(2,2,30,[])]),
 (145,yW 3 [6,7,8] [0,1] [(2,13,3003000300300,[])]),
 (146,yW 4 [4,7,15] [0,1,2,3,4,5,7,8] [(6,2,30,[])]),
 (147,yW 4 [4,7,15] [0,1,2,3,4,5,7,8] [(6,2,30,[])]),
 (148,yW 6 [13,17,67] [0,2,3,4,9,10] [(1,7,1110000,[]),(6,21,111111111100111100000,[]),(7,15,111100111100000,[]),(8,9,111111000,[]),(5,2,30,[])]),
 (149,yW 8 [8,9,16] [0,1,2,3,4,5,7] [(6,1,3,[])]),
 (150,yW 1 [1,2,3] [1] [(0,1,2,[])]),
 (151,yW 1 [1,2,6] [0] [(1,7,1110000,[])]),
 (152,yW 9 [9,10,11] [0,1,2,3,4,7] [(5,5,20000,[]),(6,1,3,[])]),
 (153,yW 1 [1,3] [0,1] []),
 (154,yW 9 [9,10,11] [0,1,2,3,7] [(4,0,0,[7]),(5,5,20000,[]),(6,1,3,[])]),
 (155,yW 2 [2,3,4] [1] [(0,1,2,[])]),
 (156,yW 1 [1,3,4] [1] [(0,1,2,[])]),
 (157,yW 9 [9,10,11] [0,1,2,3,7] [(4,0,0,[7]),(5,5,20000,[]),(6,1,3,[])]),
 (158,yW 1 [1,2] [1] [(0,1,2,[])]),
 (159,yW 13 [13,16,19] [0,1,2,3,4,5,6,7,8,9,10,11,12,13] []),
 (160,yW 2 [4,6,16] [0,1,2,4,6] [(3,7,3300000,[]),(5,6,600000,[])]),
 (161,yW 64 [64,65,66] [0,1,2,3,4,5,6,7,9,11,12,13,15,18,19,20,21,22,23,24,25,27] [(8,6,330000,[]),(10,8,33300000,[]),(14,4,3000,[]),(16,4,3000,[]),(17,1,3,[]),(26,1,3,[])]),
 (162,yW 9 [9,10,11] [0,1,2,3,4,7] [(5,5,20000,[]),(6,1,3,[])]),
 (163,yW 1 [2] [0,1] []),
 (164,yW 5 [7,11,24] [0,1,2,3,5,6] [(4,7,3000300,[])]),
 (165,yW 1 [1,4] [0,1] []),
 (166,yW 2 [4,5,9] [0,1,2] [(3,6,300000,[])]),
 (167,yW 16 [20,36,41] [0,1,2,3,4,5,8,10,11,12,13,17] [(6,4,3000,[]),(7,4,3000,[]),(9,2,30,[]),(14,6,300000,[]),(15,5,30000,[]),(16,2,30,[]),(18,3,300,[])]),
 (169,yW 1 [1,4,5] [0,1,2,3] []),
 (170,yW 8 [8,9,16] [0,1,2,3,4,5,7] [(6,1,3,[])]),
 (171,yW 1 [1,2,3] [1] [(0,1,2,[])]),
 (172,yW 1 [2] [0,1] []),
 (173,yW 1 [1,7,21] [0,1,2,4] [(3,11,30000000000,[])]),
 (174,yW 1 [1,4,5] [0,1,3] [(2,7,6000000,[])]),
 (175,yW 1 [2] [0,1] []),
 (176,yW 1 [2] [0,1] []),
 (177,yW 1 [1,4] [0,1] []),
 (178,yW 1 [1,4] [0] [(1,15,111411111000000,[])]),
 (179,yW 10 [18,25,43] [0,1,3,4,5,8,9,10,11,13] [(2,6,111000,[]),(6,3,300,[]),(7,2,30,[]),(12,3,300,[])]),
 (180,yW 7 [9,15,24] [0,1,3,4,5,6,7,8] [(2,3,300,[]),(9,2,30,[]),(10,5,30000,[])]),
 (181,yW 1 [1,4] [0,1] []),
 (182,yW 1 [6,19] [0,1,2] []),
 (183,yW 1 [1,4] [1,2] [(0,8,30300000,[])]),
 (184,yW 12 [17,23,34] [0,1,3,4,5,6,8,10,11,14,15] [(2,5,11000,[]),(7,2,30,[]),(9,2,30,[]),(12,2,30,[]),(13,2,30,[])]),
 (186,yW 1 [2,4,6] [0,1,2,4] [(3,2,30,[])]),
 (187,yW 1 [2,3,10] [0,2,3] [(1,6,111000,[])]),
 (189,yW 108 [114,132,139] [0,1,3,4,5,6,7,9,10,11,12,14,15,16,18,19,22,26,27,29,31,32,33,35] [(2,6,111000,[]),(8,7,1110000,[]),(13,5,33000,[]),(17,3,300,[]),(20,4,3300,[]),(21,15,111411110000300,[]),(23,2,30,[]),(24,2,30,[]),(25,8,11110000,[]),(28,3,300,[]),(30,14,11100141110000,[]),(34,3,300,[])]),
 (192,yW 1 [2,4] [0,1] [(2,3,300,[]),(3,5,33030,[])]),
 (193,yW 1 [2,3] [0,1] [(2,8,30000000,[])]),
 (194,yW 21 [99,139,161] [0,1,2,12,13,14,20,25] [(3,2,30,[]),(4,2,30,[]),(5,6,300330,[]),(6,6,300330,[]),(7,8,30300300,[]),(8,8,30300300,[]),(9,8,30300300,[]),(10,8,30300300,[]),(11,2,30,[]),(15,2,30,[]),(16,6,300330,[]),(17,8,30300300,[]),(18,8,30300300,[]),(19,2,30,[]),(21,3,300,[]),(22,2,30,[]),(23,8,30300300,[]),(24,2,30,[]),(26,3,300,[])]),
 (195,yW 47 [68,89,94] [0,2,3,4,5,7,8,9,11,13,14,16,17,18,22,24,25,27,28,30] [(1,9,110011000,[]),(6,2,30,[]),(10,3,300,[]),(12,2,30,[]),(15,2,30,[]),(19,2,30,[]),(20,3,300,[]),(21,6,330000,[]),(23,2,30,[]),(26,2,30,[]),(29,4,6000,[])]),
 (196,yW 60 [75,77,98] [0,1,2,3,4,5,6,7,8,9,11,12,13,15,16,17,18,20,21,22,23,25,26] [(10,0,0,[9]),(14,9,111100000,[]),(19,5,11000,[]),(24,5,11000,[])]),
 (198,yW 1 [2] [0] [(1,3,330,[])]),
 (199,yW 21 [39,44,77] [0,1,2,3,4,5,9,10,11,18] [(7,7,3000030,[]),(6,2,30,[]),(8,9,111110000,[]),(12,2,30,[]),(13,6,300000,[]),(14,10,3300300000,[]),(15,2,30,[]),(16,12,111141110000,[]),(17,3,300,[])]),
 (200,yW 1 [2] [0] [(1,2,30,[])]),
 (201,yW 3 [4,8,14] [0,1,2,3,4,5,7,8] [(6,2,30,[]),(9,2,30,[]),(10,6,300000,[])]),
 (202,yW 1 [2,3] [0,1,2,3] []),
 (203,yW 1 [2] [0] [(1,3,300,[])]),
 (204,yW 1 [2] [0,1,2] []),
 (205,yW 9 [12,25,30] [0,1,2,3,6,7,8,10,9,13] [(5,7,3000030,[]),(4,2,30,[]),(11,3,300,[]),(12,3,300,[])]),
 (206,yW 1 [2,4] [0,1,2] [(3,5,30300,[])]),
 (207,yW 1 [2,4] [0,1,2] [(3,5,30300,[])]),
 (223,yW 33 [33,34,47] [0,1,3,4,5,6,8,10] [(2,19,1111111100111000000,[]),(7,11,11001100000,[]),(9,6,303030,[])]),
 (226,yW 1 [1] [0,1] []),
 (227,yW 1 [1] [0] []),
 (228,yW 5 [11,12,13] [0,1,2,3,4,7] [(5,4,2000,[]),(6,1,3,[])]),
 (229,yW 2 [4,5,6] [0,1,2,3] [(4,1,3,[])]),
 (230,yW 1 [1] [0] []),
 (231,yW 1 [1,4] [0,1] [(2,8,62000000,[])])]
def G0:List (Nat × List AV):=[(0,[.i 3,.i 1,.i 2,.i 2,.i 0,.i 5,.i (-2),.i 2,.i (-3),.i 0,.i (-1),.i (-1),.i 0,.i (-4),.i 2,.i (-2)]),
 (1,[.str [116,121,112,101],.str [115,104,97,114,101,115],.str [100,105,114,101,99,116],.str [115,113,117,97,114,101,115],.str [112,111,119,101,114]]),
 (4,[.int .u64 1,.int .u64 10,.int .u64 100,.int .u64 1000,.int .u64 10000,.int .u64 100000,.int .u64 1000000,.int .u64 10000000,.int .u64 100000000,.int .u64 1000000000,.int .u64 10000000000,.int .u64 100000000000,.int .u64 1000000000000,.int .u64 10000000000000,.int .u64 100000000000000,.int .u64 1000000000000000,.int .u64 10000000000000000,.int .u64 100000000000000000,.int .u64 1000000000000000000,.int .u64 10000000000000000000]),
 (2,[.fn (.func 226) [] [],.fn (.func 227) [] [],.fn (.func 229) [] [],.fn (.func 230) [] [],.fn (.func 231) [] []])]
abbrev P0:=PCall Tryz.prog G0
theorem tok:TOK Tryz.prog T0:=TOK.of_map (by kernel_rfl)
theorem mix:Tryz.prog.follows .mixedOrders=true:=by kernel_rfl
def Xx(fn:Func):Code:=fn.body.getD .skip
theorem Ji4{p q:Prop}(hq:q)(h:p=q):p:=h ▸ hq
theorem JU {f : Nat} {args : List AV} {r : AV} (fn : Func) (B : BA) {q : Prop} (hq : q) (h : VC (Qh Tryz.prog T0 G0 fn.ntmps []) B 10000 0 (Xx fn) (Jae args) (Jo6 T0 fn fun v => v = r) = q) (hf : Tryz.prog.funcs[f]? = some fn := by kernel_rfl) (hb : fn.body = some (Xx fn) := by kernel_rfl) (hn : (fn.name == "runtime.NumGoroutine") = false := by kernel_rfl) (hlen : Nat.ble args.length fn.ntmps = true := by kernel_rfl) : P0 f args r :=
 Jic tok mix hf hb hn (Kl hlen) B (Ji4 hq h)
def Jq1:Nat->(List AV->Option AV)->List An->List An
 | 0,f,[]=>[{ rd:=f }]
 | 0,f,a::l=>{ a with rd:=f }::l
 | n+1,f,[]=>{}::Jq1 n f []
 | n+1,f,a::l=>a::Jq1 n f l
def addRd:List (Nat × Nat × (List AV->Option AV))->Nat->RA->RA
 | [],_,ra=>ra
 | (i,k,f)::l,j,ra=>addRd l j (if i.beq j then { ra with ans:=Jq1 k f ra.ans }else ra)
def mkB(sp:Nat->List AV->Option AV)(f:Nat)(rds:List (Nat × Nat × (List AV->Option AV)))(la:Nat->Option LA):BA :=
 { ra:=fun i=>addRd rds i ((lk i ((lk f F0).getD [])).getD {}),gs:=fun _=>[],la:=la,fa:=none,spec:=sp }
def QJ:Nat->Option LA:=fun _=>none
def Jk(b:Bool)(e:Int):Int:=if b then e else 0
def Jb:List Int->Int
 | []=>0
 | x::l=>if x ≠ 0 then x else Jb l
def Jc(x lo hi:Int):Int:=Jk (if decide (x < lo)then true else decide (x > hi)) 3
def Qz(n d:Int):Int:=if n.tdiv d * d > n then n.tdiv d-1 else n.tdiv d
def hdI(l:List AV):Int:=match l with
 | [.int _ n]=>n
 | _=>0
def Jdc(l:List Int):List (List AV):=l.map fun x=>[.i x]
def Qd(p:Int):Int:=Jc p 1 100
def JT(x y z:Int):Int:=Jb [Jc x (-100000) 100000,Jc y (-100000) 100000,Jc z 0 20000]
def Jrf(t x y z p:Int):Int:=Jb [Jc t 0 100000000,JT x y z,Qd p]
def spA:Nat->List AV->Option AV
 | 92,[.bool b,.int _ e]=>some (.i (Jk b e))
 | 94,[.bool b,.int _ e]=>some (.i (Jk b e))
 | 87,[.sl _ rows]=>some (.i (Jb (rows.map hdI)))
 | 93,[.sl _ rows]=>some (.i (Jb (rows.map hdI)))
 | 89,[.int _ x,.int _ lo,.int _ hi]=>some (.i (Jc x lo hi))
 | 95,[.int _ x,.int _ lo,.int _ hi]=>some (.i (Jc x lo hi))
 | 98,[.int _ p]=>some (.i (Qd p))
 | 44,[.int _ p]=>some (.i (Qd p))
 | 19,[.int _ p]=>some (.i (Jc p 1 1000))
 | 20,[.int _ p]=>some (.i (Jc p 0 100000000))
 | 16,[.sl _ rows]=>some (.i (Jb (rows.map hdI)))
 | 104,[.agg [.int _ x,.int _ y,.int _ z]]=>some (.i (JT x y z))
 | 35,[.agg [.int _ x,.int _ y,.int _ z]]=>some (.i (JT x y z))
 | 134,[.agg [.int _ t,.int _ x,.int _ y,.int _ z,.int _ p]]=>some (.i (Jrf t x y z p))
 | 91,[.int _ n,.int _ d]=>some (.i (Qz n d))
 | 143,[.int _ n,.int _ d]=>some (.i (Qz n d))
 | _,_=>none
theorem VQ(es:List Int):(Jdc es).length=es.length:=by simp[Jdc]
theorem JeV{es:List Int}{i:Nat}(h:i < es.length):Jn (Jdc es) i=[.i (es.getD i 0)]:=by
 simp[Jn,Jdc,List.getD_eq_getElem?_getD,h]
theorem Wg(es:List Int):∀ (i:Nat),(∀ k,k < i->es.getD k 0=0)->i<=es.length->Jb es=Jb (es.drop i):=by
 intro i
 induction i with
 | zero=>intros;rfl
 | succ i ih =>
  intro h hl
  rw[ih (fun k hk=>h k (by omega)) (by omega)]
  have:=h i (by omega)
  rw[List.drop_eq_getElem_cons (show i < es.length by omega)]
  rw[Ka,Kj (show i < es.length by omega)]at this
  simp at this
  simp[Jb,this]
theorem JaN{es:List Int}{i:Nat}(h:i < es.length)(h0:∀ k,k < i->es.getD k 0=0)(hne:es.getD i 0 ≠ 0):Jb es=es.getD i 0:=by
 rw[Wg es i h0 (by omega),List.drop_eq_getElem_cons h]
 simp[List.getD_eq_getElem?_getD,h]at hne
 simp[Jb,hne,List.getD_eq_getElem?_getD,h]
theorem JdV{es:List Int}(h0:∀ k,k < es.length->es.getD k 0=0):Jb es=0:=by
 rw[Wg es es.length h0 (Kr _)]
 simp[Jb]
theorem c92(b:Bool)(e:Int) :P0 92 [.bool b,.i e] (.i (Jk b e)):=by
 have key :
  (b=true->AV.i e=AV.i (Jk b e))/\(b=false->AV.i (0:Int)=AV.i (Jk b e)):=by
   exact⟨fun h=>by simp[Jk,h],fun h=>by simp[Jk,h]⟩
 exact JU Tryz.f92 (mkB spA 92 [] QJ) key (by kernel_rfl)
theorem c94(b:Bool)(e:Int) :P0 94 [.bool b,.i e] (.i (Jk b e)):=by
 have key :
  (b=true->AV.i e=AV.i (Jk b e))/\(b=false->AV.i (0:Int)=AV.i (Jk b e)):=by
   exact⟨fun h=>by simp[Jk,h],fun h=>by simp[Jk,h]⟩
 exact JU Tryz.f94 (mkB spA 94 [] QJ) key (by kernel_rfl)
theorem c89(x lo hi:Int) :P0 89 [.i x,.i lo,.i hi] (.i (Jc x lo hi)):=by
 have key :
  ((!decide (x < lo))=true->(!decide (x < lo))=true)/\((!decide (x < lo))=true->(!decide (x < lo))=true)/\(decide (x < lo)=false->(!decide (x < lo))=true)/\P0 (92:Nat) [AV.bool (if decide (x < lo)
  = true then true else decide (x > hi)),AV.i (3:Int)] (AV.i (Jk (if decide (x < lo)=true then true else decide (x > hi)) (3:Int)))/\AV.i (Jk (if decide (x < lo)=true then
  true else decide (x > hi)) (3:Int))=AV.i (Jc x lo hi):=by
   exact⟨fun h=>h,fun h=>h,fun h=>by simp[h],c92 _ _,rfl⟩
 exact JU Tryz.f89 (mkB spA 89 [] QJ) key (by kernel_rfl)
theorem c95(x lo hi:Int) :P0 95 [.i x,.i lo,.i hi] (.i (Jc x lo hi)):=by
 have key :
  ((!decide (x < lo))=true->(!decide (x < lo))=true)/\((!decide (x < lo))=true->(!decide (x < lo))=true)/\(decide (x < lo)=false->(!decide (x < lo))=true)/\P0 (94:Nat) [AV.bool (if decide (x < lo)
  = true then true else decide (x > hi)),AV.i (3:Int)] (AV.i (Jk (if decide (x < lo)=true then true else decide (x > hi)) (3:Int)))/\AV.i (Jk (if decide (x < lo)=true then
  true else decide (x > hi)) (3:Int))=AV.i (Jc x lo hi):=by
   exact⟨fun h=>h,fun h=>h,fun h=>by simp[h],c94 _ _,rfl⟩
 exact JU Tryz.f95 (mkB spA 95 [] QJ) key (by kernel_rfl)
def la87(es:List Int):LA:={
 pre:=[.keep [0,5,6,7] [],.bound 1],post:=[.keep [0,5,6,7] [],.bound 1]
 Gh:=Nat
 st:=fun i=>⟨[(0,.sl 1 (Jdc es)),(5,.sl 1 (Jdc es)),(6,.i es.length),(7,.i i)],[],1⟩
 ok:=fun i=>i<=es.length/\∀ k,k < i->es.getD k 0=0
 ms:=fun i=>es.length-i }
def la93(es:List Int):LA:={
 pre:=[.keep [0,3] [],.bound 1],post:=[.keep [0,3] [],.bound 1]
 Gh:=Nat
 st:=fun i=>⟨[(0,.sl 1 (Jdc es)),(3,.i i)],[],1⟩
 ok:=fun i=>i<=es.length/\∀ k,k < i->es.getD k 0=0
 ms:=fun i=>es.length-i }
def rdI(es:List Int):List AV->Option AV
 | [.elt _ _ i _]=>some (.i (es.getD i 0))
 | _=>none
abbrev Z0a(es:List Int):=((0:Nat),AV.sl (1:Nat) (Jdc es))
abbrev Z0b(es:List Int):=((5:Nat),AV.sl (1:Nat) (Jdc es))
abbrev Z0c(es:List Int):=((6:Nat),AV.i (es.length:Int))
abbrev Z0d(g:Nat)(es:List Int):=(g<=es.length/\∀ (k:Nat),k < g->es.getD k (0:Int)=(0:Int))
theorem c87(es:List Int)(hl:es.length<=1000000):P0 87 [.sl 1 (Jdc es)] (.i (Jb es)):=by
 have key :
  (∃ (g:Nat),(Z0d g es)/\AS.mk [(Z0a es),(Z0b es),((6:Nat),AV.i ((Jdc es).length:Int)),((7:Nat),AV.i (0:Int))] [] (1:Nat)=AS.mk [(Z0a es),(Z0b es),(Z0c es),((7:Nat),AV.i (g:Int))] [] (1:Nat))/\∀ (g
  : Nat),(Z0d g es)->(decide ((g:Int) < (es.length:Int))=true->(0:Int)<=(g:Int)/\(g:Int) < ((Jdc es).length:Int)/\nth (Jn (Jdc es) (g:Int).toNat) (0:Nat)=AV.i (es.getD (g:Int).toNat (0:Int)) /\
  ((es.getD (g:Int).toNat (0:Int) != 0)=true->AV.i (es.getD (g:Int).toNat (0:Int))=AV.i (Jb es))/\((es.getD (g:Int).toNat (0:Int) != 0)=false->Jg ((g:Int)+1)/\∃ (g':Nat),(g'<=es.length/\∀ (k :
  Nat),k < g'->es.getD k (0:Int)=(0:Int))/\es.length-g' < es.length-g/\AS.mk [(Z0a es),(Z0b es),(Z0c es),((7:Nat),AV.i ((g:Int)+1))] [] (1:Nat)=AS.mk [(Z0a es),(Z0b es),(Z0c es),((7:Nat),AV.i (↑g' :
  Int))] [] (1:Nat)))/\(decide ((g:Int) < (es.length:Int))=false->AV.i (0:Int)=AV.i (Jb es)):=by
   delta Z0a Z0b Z0c Z0d
   refine⟨⟨0,⟨by omega,by intros;omega⟩,by simp[VQ]⟩,fun g ⟨h1,h2⟩=>⟨fun hd=>?_,fun hd=>?_⟩⟩
   . have hlt:g < es.length:=by simpa using hd
     refine⟨by omega,by rw[VQ];omega,by simp[JeV hlt,nth],fun hne=>?_,fun hz=>⟨?_,g+1,⟨hlt,fun k hk=>?_⟩,by omega,rfl⟩⟩
     . rw[JaN hlt h2 (by simpa using hne)];rfl
     . unfold Jg;omega
     by_cases e:k=g
     . subst e;simpa using hz
     exact h2 k (by omega)
   have hge:g=es.length:=by simp at hd;omega
   rw[JdV (hge ▸ h2)]
 exact JU Tryz.f87 (mkB spA 87 [(3,1,rdI es)] (fun i=>if i.beq 0 then some (la87 es)else none)) key (by kernel_rfl)
abbrev Z1a(es:List Int):=((0:Nat),AV.sl (1:Nat) (Jdc es))
abbrev Z1b(g:Nat)(es:List Int):=(g<=es.length/\∀ (k:Nat),k < g->es.getD k (0:Int)=(0:Int))
abbrev Z1c(es:List Int):=((Jdc es).length:Int)
theorem c93(es:List Int)(hl:es.length<=1000000):P0 93 [.sl 1 (Jdc es)] (.i (Jb es)):=by
 have key :
  (∃ (g:Nat),(Z1b g es)/\AS.mk [(Z1a es),((3:Nat),AV.i (0:Int))] [] (1:Nat)=AS.mk [(Z1a es),((3:Nat),AV.i (g:Int))] [] (1:Nat))/\∀ (g:Nat),(Z1b g es)->(decide ((g:Int) < (Z1c es))=true->(0:Int) ≤
  (g:Int)/\(g:Int) < (Z1c es)/\nth (Jn (Jdc es) (g:Int).toNat) (0:Nat)=AV.i (es.getD (g:Int).toNat (0:Int))/\((es.getD (g:Int).toNat (0:Int) != 0)=true->(0:Int)<=(g:Int)/\(g:Int) < (Z1c es) /\
  nth (Jn (Jdc es) (g:Int).toNat) (0:Nat)=AV.i (es.getD (g:Int).toNat (0:Int))/\AV.i (es.getD (g:Int).toNat (0:Int))=AV.i (Jb es))/\((es.getD (g:Int).toNat (0:Int) != 0)=false->Jg ((g:Int) +
  1)/\∃ (g':Nat),(g'<=es.length/\∀ (k:Nat),k < g'->es.getD k (0:Int)=(0:Int))/\es.length-g' < es.length-g/\AS.mk [(Z1a es),((3:Nat),AV.i ((g:Int)+1))] [] (1:Nat)=AS.mk [(Z1a es),((3:Nat),AV.i
  (g':Int))] [] (1:Nat)))/\(decide ((g:Int) < (Z1c es))=false->AV.i (0:Int)=AV.i (Jb es)):=by
   delta Z1a Z1b Z1c
   refine⟨⟨0,⟨by omega,by intros;omega⟩,by simp⟩,fun g ⟨h1,h2⟩=>⟨fun hd=>?_,fun hd=>?_⟩⟩
   . have hlt:g < es.length:=by simpa[VQ]using hd
     refine⟨by omega,by rw[VQ];omega,by simp[JeV hlt,nth],fun hne=>?_,fun hz=>⟨?_,g+1,⟨hlt,fun k hk=>?_⟩,by omega,rfl⟩⟩
     . refine⟨by omega,by rw[VQ];omega,by simp[JeV hlt,nth],?_⟩
       rw[JaN hlt h2 (by simpa using hne)];rfl
     . unfold Jg;omega
     by_cases e:k=g
     . subst e;simpa using hz
     exact h2 k (by omega)
   have hge:g=es.length:=by simp[VQ]at hd;omega
   rw[JdV (hge ▸ h2)]
 exact JU Tryz.f93 (mkB spA 93 [(4,3,rdI es),(5,3,rdI es)] (fun i=>if i.beq 0 then some (la93 es)else none)) key (by kernel_rfl)
theorem c98(p:Int) :P0 98 [.i p] (.i (Qd p)):=by
 have key :
  P0 (89:Nat) [AV.i p,AV.i (1:Int),AV.i (100:Int)] (AV.i (Jc p (1:Int) (100:Int)))/\AV.i (Jc p (1:Int) (100:Int)) =
  AV.i (Qd p):=by
   exact⟨c89 _ _ _,rfl⟩
 exact JU Tryz.f98 (mkB spA 98 [] QJ) key (by kernel_rfl)
theorem c44(p:Int) :P0 44 [.i p] (.i (Qd p)):=by
 have key :
  P0 (95:Nat) [AV.i p,AV.i (1:Int),AV.i (100:Int)] (AV.i (Jc p (1:Int) (100:Int)))/\AV.i (Jc p (1:Int) (100:Int)) =
  AV.i (Qd p):=by
   exact⟨c95 _ _ _,rfl⟩
 exact JU Tryz.f44 (mkB spA 44 [] QJ) key (by kernel_rfl)
theorem c20(p:Int) :P0 20 [.i p] (.i (Jc p 0 100000000)):=by
 have key :
  P0 (95:Nat) [AV.i p,AV.i (0:Int),AV.i (100000000:Int)] (AV.i (Jc p (0:Int) (100000000:Int)))/\AV.i (Jc p (0:Int)
  (100000000:Int))=AV.i (Jc p (0:Int) (100000000:Int)):=by
   exact⟨c95 _ _ _,rfl⟩
 exact JU Tryz.f20 (mkB spA 20 [] QJ) key (by kernel_rfl)
abbrev Z2b:=(-100000:Int)
abbrev Z2d(x:Int):=Jc x Z2b (100000:Int)
abbrev Z2e(y:Int):=Jc y Z2b (100000:Int)
abbrev Z2c(z:Int):=Jc z (0:Int) (20000:Int)
abbrev Z2a(x:Int)(y:Int)(z:Int):=Jb [hdI [AV.i (Z2d x)],hdI [AV.i (Z2e y)],hdI [AV.i (Z2c z)]]
theorem c104(x y z:Int) :P0 104 [.agg [.i x,.i y,.i z]] (.i (JT x y z)):=by
 have key :
  P0 (89:Nat) [AV.i x,AV.i Z2b,AV.i (100000:Int)] (AV.i (Z2d x))/\P0 (89:Nat) [AV.i y,AV.i Z2b,AV.i (100000:Int)] (AV.i (Z2e y))/\P0 (89:Nat) [AV.i z,AV.i (0:Int),AV.i (20000:Int)] (AV.i (Z2c z))/\P0 (87:Nat)
  [AV.sl (1:Nat) [[AV.i (Z2d x)],[AV.i (Z2e y)],[AV.i (Z2c z)]]] (AV.i (Z2a x y z))/\AV.i (Z2a x y z)=AV.i (JT x y z):=by
   delta Z2a Z2b Z2c Z2d Z2e
   exact⟨c89 _ _ _,c89 _ _ _,c89 _ _ _,c87 [_,_,_] (by simp),rfl⟩
 exact JU Tryz.f104 (mkB spA 104 [] QJ) key (by kernel_rfl)
abbrev Z3b:=(-100000:Int)
abbrev Z3d(x:Int):=Jc x Z3b (100000:Int)
abbrev Z3e(y:Int):=Jc y Z3b (100000:Int)
abbrev Z3c(z:Int):=Jc z (0:Int) (20000:Int)
abbrev Z3a(x:Int)(y:Int)(z:Int):=Jb [hdI [AV.i (Z3d x)],hdI [AV.i (Z3e y)],hdI [AV.i (Z3c z)]]
theorem c35(x y z:Int) :P0 35 [.agg [.i x,.i y,.i z]] (.i (JT x y z)):=by
 have key :
  P0 (95:Nat) [AV.i x,AV.i Z3b,AV.i (100000:Int)] (AV.i (Z3d x))/\P0 (95:Nat) [AV.i y,AV.i Z3b,AV.i (100000:Int)] (AV.i (Z3e y))/\P0 (95:Nat) [AV.i z,AV.i (0:Int),AV.i (20000:Int)] (AV.i (Z3c z))/\P0 (93:Nat)
  [AV.sl (1:Nat) [[AV.i (Z3d x)],[AV.i (Z3e y)],[AV.i (Z3c z)]]] (AV.i (Z3a x y z))/\AV.i (Z3a x y z)=AV.i (JT x y z):=by
   delta Z3a Z3b Z3c Z3d Z3e
   exact⟨c95 _ _ _,c95 _ _ _,c95 _ _ _,c93 [_,_,_] (by simp),rfl⟩
 exact JU Tryz.f35 (mkB spA 35 [] QJ) key (by kernel_rfl)
theorem c134(t x y z p:Int) :P0 134 [.agg [.i t,.i x,.i y,.i z,.i p]] (.i (Jrf t x y z p)):=by
 have key :
  P0 (89:Nat) [AV.i t,AV.i (0:Int),AV.i (100000000:Int)] (AV.i (Jc t (0:Int) (100000000:Int)))/\P0 (104:Nat) [AV.agg [AV.i x,AV.i y,AV.i z]] (AV.i (JT x y z))/\P0 (98:Nat) [AV.i p] (AV.i (Qd p))/\P0 (87:Nat) [AV.sl (1:Nat)
  [[AV.i (Jc t (0:Int) (100000000:Int))],[AV.i (JT x y z)],[AV.i (Qd p)]]] (AV.i (Jb [hdI [AV.i (Jc t (0:Int) (100000000:Int))],
  hdI [AV.i (JT x y z)],hdI [AV.i (Qd p)]]))/\AV.i (Jb [hdI [AV.i (Jc t (0:Int) (100000000:Int))],hdI [AV.i (JT x y z)],hdI [AV.i (Qd p)]])=AV.i (Jrf t x y z p):=by
   exact⟨c89 _ _ _,c104 _ _ _,c98 _,c87 [_,_,_] (by simp),rfl⟩
 exact JU Tryz.f134 (mkB spA 134 [] QJ) key (by kernel_rfl)
end Go.Proofs.YtjhjmncjidbieaaGreatDoor
