/-
  The tables of a seat, and what its functions' proofs share. What the small functions of chapter 2 return. What chapter 2's functions on paths, procedures and tracks return. What chapter 2's functions on names return. No condition but the theorems' own.
-/
import Derived.Test.YthkngjifljcocaaGreatDoorChecked
import Derived.Test.YthkngjifljcocaaGreatDoorAvD
namespace Go.Proofs.YthkngjifljcocaaGreatDoor
open Go Go.Av Go.RowKit
def T0:TT:=[
 (3,⟨(.int .i64),1,8,false,[.int .i64 0],false⟩),
 (4,⟨.bool,1,1,false,[.bool false],false⟩),
 (5,⟨(.int .u8),1,1,false,[.int .u8 0],false⟩),
 (9,⟨.str,1,16,false,[.str []],false⟩),
 (21,⟨(.int .i32),1,4,false,[.int .i32 0],false⟩),
 (22,⟨(.slice 92 13 160),1,24,false,[.ex (.slice none 0 0)],false⟩),
 (23,⟨(.slice 63 3 56),1,24,false,[.ex (.slice none 0 0)],false⟩),
 (25,⟨(.struct [(0,3,1),(1,3,1),(2,3,1)]),3,24,true,[.int .i64 0,.int .i64 0,.int .i64 0],true⟩),
 (27,⟨(.struct [(0,22,1),(1,23,1),(2,25,3)]),5,72,true,[.ex (.slice none 0 0),.ex (.slice none 0 0),.int .i64 0,.int .i64 0,.int .i64 0],true⟩),
 (28,⟨(.int .u16),1,2,false,[.int .u16 0],false⟩),
 (29,⟨(.arr 4 28 1),4,8,true,[.int .u16 0,.int .u16 0,.int .u16 0,.int .u16 0],true⟩),
 (33,⟨(.struct [(0,3,1),(1,3,1)]),2,16,true,[.int .i64 0,.int .i64 0],true⟩),
 (34,⟨(.slice 77 3 32),1,24,false,[.ex (.slice none 0 0)],false⟩),
 (35,⟨(.slice 9 1 16),1,24,false,[.ex (.slice none 0 0)],false⟩),
 (37,⟨(.arr 8 5 1),8,8,true,(List.replicate 8 (.int .u8 0)),true⟩),
 (39,⟨(.struct [(0,33,2),(2,33,2),(4,34,1),(5,3,1),(6,35,1),(7,3,1),(8,3,1),(9,3,1),(10,37,8)]),18,120,true,[.int .i64 0,.int .i64 0,.int .i64 0,.int .i64 0,.ex (.slice none 0 0),.int .i64 0,.ex (.slice none 0 0),.int .i64 0,.int .i64 0,.int .i64 0,.int .u8 0,.int .u8 0,.int .u8 0,.int .u8 0,.int .u8 0,.int .u8 0,.int .u8 0,.int .u8 0],true⟩),
 (42,⟨.other,1,8,false,[.ex .nilFunc],false⟩),
 (43,⟨(.slice 3 1 8),1,24,false,[.ex (.slice none 0 0)],false⟩),
 (44,⟨(.int .i64),1,8,false,[.int .i64 0],false⟩),
 (47,⟨(.slice 79 5 64),1,24,false,[.ex (.slice none 0 0)],false⟩),
 (52,⟨(.slice 69 3 40),1,24,false,[.ex (.slice none 0 0)],false⟩),
 (56,⟨(.slice 85 13 160),1,24,false,[.ex (.slice none 0 0)],false⟩),
 (58,⟨(.slice 114 3 56),1,24,false,[.ex (.slice none 0 0)],false⟩),
 (61,⟨(.slice 67 5 40),1,24,false,[.ex (.slice none 0 0)],false⟩),
 (63,⟨(.struct [(0,9,1),(1,9,1),(2,61,1)]),3,56,true,[.str [],.str [],.ex (.slice none 0 0)],true⟩),
 (67,⟨(.struct [(0,3,1),(1,25,3),(4,3,1)]),5,40,true,[.int .i64 0,.int .i64 0,.int .i64 0,.int .i64 0,.int .i64 0],true⟩),
 (69,⟨(.struct [(0,9,1),(1,9,1),(2,3,1)]),3,40,true,[.str [],.str [],.int .i64 0],true⟩),
 (73,⟨(.struct [(0,9,1),(1,9,1),(2,3,1),(3,37,8)]),11,48,true,[.str [],.str [],.int .i64 0,.int .u8 0,.int .u8 0,.int .u8 0,.int .u8 0,.int .u8 0,.int .u8 0,.int .u8 0,.int .u8 0],true⟩),
 (74,⟨(.slice 73 11 48),1,24,false,[.ex (.slice none 0 0)],false⟩),
 (77,⟨(.struct [(0,9,1),(1,3,1),(2,3,1)]),3,32,true,[.str [],.int .i64 0,.int .i64 0],true⟩),
 (79,⟨(.struct [(0,9,1),(1,9,1),(2,9,1),(3,3,1),(4,3,1)]),5,64,true,[.str [],.str [],.str [],.int .i64 0,.int .i64 0],true⟩),
 (80,⟨(.arr 8 3 1),8,64,true,(List.replicate 8 (.int .i64 0)),true⟩),
 (82,⟨(.struct [(0,3,1),(1,43,1)]),2,32,true,[.int .i64 0,.ex (.slice none 0 0)],true⟩),
 (83,⟨(.slice 82 2 32),1,24,false,[.ex (.slice none 0 0)],false⟩),
 (85,⟨(.struct [(0,9,1),(1,43,1),(2,80,8),(10,3,1),(11,43,1),(12,83,1)]),13,160,true,[.str [],.ex (.slice none 0 0),.int .i64 0,.int .i64 0,.int .i64 0,.int .i64 0,.int .i64 0,.int .i64 0,.int .i64 0,.int .i64 0,.int .i64 0,.ex (.slice none 0 0),.ex (.slice none 0 0)],true⟩),
 (90,⟨(.slice 110 2 32),1,24,false,[.ex (.slice none 0 0)],false⟩),
 (92,⟨(.struct [(0,9,1),(1,43,1),(2,80,8),(10,3,1),(11,43,1),(12,90,1)]),13,160,true,[.str [],.ex (.slice none 0 0),.int .i64 0,.int .i64 0,.int .i64 0,.int .i64 0,.int .i64 0,.int .i64 0,.int .i64 0,.int .i64 0,.int .i64 0,.ex (.slice none 0 0),.ex (.slice none 0 0)],true⟩),
 (98,⟨(.slice 101 10 112),1,24,false,[.ex (.slice none 0 0)],false⟩),
 (101,⟨(.struct [(0,79,5),(5,77,3),(8,4,1),(9,3,1)]),10,112,true,[.str [],.str [],.str [],.int .i64 0,.int .i64 0,.str [],.int .i64 0,.int .i64 0,.bool false,.int .i64 0],true⟩),
 (102,⟨.other,1,8,false,[.ex .nilFunc],false⟩),
 (106,⟨(.slice 152 4 64),1,24,false,[.ex (.slice none 0 0)],false⟩),
 (110,⟨(.struct [(0,3,1),(1,43,1)]),2,32,true,[.int .i64 0,.ex (.slice none 0 0)],true⟩),
 (111,⟨(.slice 159 5 40),1,24,false,[.ex (.slice none 0 0)],false⟩),
 (114,⟨(.struct [(0,9,1),(1,9,1),(2,111,1)]),3,56,true,[.str [],.str [],.ex (.slice none 0 0)],true⟩),
 (116,⟨.other,1,8,false,[.ex .nilFunc],false⟩),
 (135,⟨.other,1,8,false,[.ex .nilFunc],false⟩),
 (137,⟨.other,1,8,false,[.ex .nilFunc],false⟩),
 (138,⟨(.slice 44 1 8),1,24,false,[.ex (.slice none 0 0)],false⟩),
 (141,⟨(.map 9 79),1,8,false,[.ex (.map none)],false⟩),
 (143,⟨(.map 9 4),1,8,false,[.ex (.map none)],false⟩),
 (146,⟨.other,1,8,false,[.ex .nilFunc],false⟩),
 (152,⟨(.struct [(0,114,3),(3,3,1)]),4,64,true,[.str [],.str [],.ex (.slice none 0 0),.int .i64 0],true⟩),
 (156,⟨.other,1,8,false,[.ex .nilFunc],false⟩),
 (158,⟨.other,1,8,false,[.ex .nilFunc],false⟩),
 (159,⟨(.struct [(0,3,1),(1,25,3),(4,3,1)]),5,40,true,[.int .i64 0,.int .i64 0,.int .i64 0,.int .i64 0,.int .i64 0],true⟩),
 (164,⟨.other,1,8,false,[.ex .nilFunc],false⟩),
 (167,⟨(.slice 5 1 1),1,24,false,[.ex (.slice none 0 0)],false⟩),
 (172,⟨.other,1,8,false,[.ex .nilFunc],false⟩),
 (178,⟨.other,1,8,false,[.ex .nilFunc],false⟩),
 (179,⟨.other,1,8,false,[.ex .nilFunc],false⟩),
 (181,⟨(.struct [(0,9,1),(1,179,1)]),2,24,true,[.str [],.ex .nilFunc],true⟩),
 (182,⟨(.arr 4 181 2),8,96,true,[.str [],.ex .nilFunc,.str [],.ex .nilFunc,.str [],.ex .nilFunc,.str [],.ex .nilFunc],true⟩),
 (186,⟨.other,1,8,false,[.ex .nilFunc],false⟩),
 (188,⟨.other,1,8,false,[.ex .nilFunc],false⟩),
 (192,⟨.other,1,8,false,[.ex .nilFunc],false⟩),
 (196,⟨(.arr 4 9 1),4,64,true,[.str [],.str [],.str [],.str []],true⟩),
 (201,⟨(.struct [(0,3,1),(1,3,1)]),2,16,true,[.int .i64 0,.int .i64 0],true⟩),
 (203,⟨(.struct [(0,25,3),(3,201,2),(5,3,1)]),6,48,true,[.int .i64 0,.int .i64 0,.int .i64 0,.int .i64 0,.int .i64 0,.int .i64 0],true⟩),
 (208,⟨(.arr 2 3 1),2,16,true,[.int .i64 0,.int .i64 0],true⟩)]
def yA:Nat->An
 | 0=>{}
 | 1=>{sym:=true}
 | 2=>{fr:=true}
 | 3=>{nw:=true}
 | 4=>{nw:=true,sym:=true}
 | 5=>{fr:=true,sym:=true}
 | _=>{fz:=true}
def yL:Nat->Nat->List An
 | 0,_=>[]
 | n+1,k=>yA (k % 10)::yL n (k / 10)
def yW(r:Nat)(v e:List Nat)(s:List (Nat × Nat × Nat × List Nat)):List (Nat × RA):=e.map (fun i=>(i,⟨[],r,v,[]⟩))++s.map fun x=>(x.1,⟨yL x.2.1 x.2.2.1,r,v,x.2.2.2⟩)
def F0:FT:=[
 (3,yW 259 [276,333,348] [2,3,4,5,6,7,8,9,11,12,13,14,15,16,17,21,22,24,25,26,27,28,31,37,40,41,42,43] [(0,2,22,[]),(1,6,111000,[]),(10,51,111111001411001111110011111100110011001100110011000,[]),(18,0,0,[25]),(19,12,300000300000,[]),(20,12,603000000000,[]),(23,25,1111141100111114110011000,[]),(29,3,200,[]),(30,13,1111111100000,[]),(32,2,30,[]),(33,12,300000300000,[]),(34,0,0,[33]),(35,17,20033000000000000,[]),(36,13,1411110011000,[]),(38,1,3,[]),(39,13,1110011100000,[]),(44,28,1411100141110011100110011000,[])]),
 (4,yW 4 [4,5,6] [0,4] [(1,4,2000,[1]),(2,3,200,[]),(3,6,202202,[4]),(5,13,1100110011000,[])]),
 (5,yW 46 [46,47,71] [2,3,4,7,9] [(0,1,2,[]),(1,37,1111001111110011111100111100111100000,[]),(5,0,0,[4]),(6,21,141111111141111100000,[]),(8,1,3,[])]),
 (6,yW 1 [1,2] [0,1] []),
 (7,yW 57 [57,58,59] [1,3,6,7,8,11] [(0,1,2,[]),(2,5,30000,[]),(4,8,30300000,[]),(5,19,2000303000300003000,[]),(9,9,620330000,[]),(10,1,3,[])]),
 (8,yW 7 [7,8,9] [0,1,2,3,7] [(4,0,0,[5]),(5,4,2000,[]),(6,1,3,[])]),
 (9,yW 5 [5,6,11] [1,2,3,4] [(0,1,2,[])]),
 (10,yW 8 [8,9,10] [0,1,2,3,5,8] [(4,0,0,[5]),(6,12,200033000000,[]),(7,1,3,[])]),
 (11,yW 5 [5,6,11] [1,2,3] [(0,1,2,[]),(4,7,3000000,[])]),
 (12,yW 36 [36,37,51] [2,3,4,5,6,11] [(0,2,22,[]),(1,15,200111110000000,[]),(7,0,0,[11]),(8,11,11111000000,[]),(9,4,3000,[]),(10,1,3,[])]),
 (13,yW 7 [7,8,14] [1,2,3,4] [(0,1,2,[])]),
 (14,yW 8 [8,9,18] [1,2,3,4] [(0,1,2,[])]),
 (15,yW 32 [32,33,34] [0,1,2,3,6,7,13] [(4,0,0,[5]),(5,14,60000000600000,[]),(8,0,0,[8]),(9,11,62060000000,[]),(10,1,3,[]),(11,3,200,[]),(12,1,3,[])]),
 (16,yW 7 [7,8,9] [0,1,2,3,7] [(4,0,0,[5]),(5,10,2000000000,[]),(6,1,3,[])]),
 (17,yW 8 [8,9,18] [1,2,3,4] [(0,1,2,[])]),
 (18,yW 5 [5,6,14] [2,3,4] [(0,1,2,[]),(1,5,20000,[])]),
 (19,yW 7 [7,8,18] [2,3,4] [(0,1,2,[]),(1,7,2000000,[])]),
 (20,yW 7 [7,8,18] [2,3,4] [(0,1,2,[]),(1,7,2000000,[])]),
 (21,yW 11 [18,22,49] [0,1,2,4,5,6,7,10] [(3,2,30,[]),(9,24,111111100111111100000000,[]),(8,2,30,[]),(11,17,11111111001110000,[])]),
 (22,yW 38 [41,45,83] [0,1,2,3,4,7,8,9,10,11,12,15,16,17] [(6,17,20000000000000000,[]),(5,2,30,[]),(14,33,200000000000000000000000000000000,[]),(13,2,30,[])]),
 (23,yW 1 [1,2] [] [(0,1,2,[]),(1,10,2000000000,[])]),
 (24,yW 4 [4,5,15] [2,3,4] [(0,2,22,[]),(1,7,2000000,[])]),
 (25,yW 1 [1,2,4] [1] [(0,1,2,[])]),
 (26,yW 7 [7,8,9] [0,1,2,3,4,7] [(5,3,300,[]),(6,1,3,[])]),
 (27,yW 7 [7,8,12] [0,1,2,3,4,5,7] [(6,1,3,[])]),
 (28,yW 1 [1,4,5] [0,1,2,3] []),
 (29,yW 9 [9,10,11] [0,1,2,3,7] [(4,0,0,[7]),(5,5,20000,[]),(6,1,3,[])]),
 (30,yW 3 [3,4,5] [2] [(0,2,22,[]),(1,0,0,[5])]),
 (31,yW 1 [1,2,5] [1,2,3] [(0,1,2,[])]),
 (32,yW 32 [32,33,60] [2,3,4,5,6,10,11,12,14] [(0,1,2,[]),(1,8,20000000,[]),(7,0,0,[11]),(8,0,0,[12]),(9,15,200000000000000,[]),(13,1,3,[])]),
 (33,yW 16 [23,33,44] [1,2,3,5,6,7,8,9,10,13] [(0,1,2,[]),(4,0,0,[9]),(11,3,200,[]),(12,1,3,[])]),
 (34,yW 7 [7,8,17] [2,3,4] [(0,2,22,[]),(1,6,200000,[])]),
 (35,yW 1 [2] [0,1] []),
 (36,yW 7 [7,8,9] [0,1,2,3,7] [(4,0,0,[5]),(5,3,200,[]),(6,1,3,[])]),
 (37,yW 7 [7,8,9] [0,1,2,3,4,7] [(5,3,300,[]),(6,1,3,[])]),
 (38,yW 1 [1,2] [] [(0,1,2,[]),(1,24,111110011100111001110000,[])]),
 (39,yW 1 [2] [0,1] []),
 (40,yW 1 [1,2,4] [1] [(0,1,2,[])]),
 (41,yW 18 [34,43,56] [2,3,5,6,7,8,9,10,12,13] [(0,1,2,[]),(1,7,2000000,[]),(4,13,2000000000000,[]),(11,9,200000000,[]),(14,13,2000000000000,[])]),
 (42,yW 1 [2] [0,1] []),
 (43,yW 3 [3,6,7] [2] [(0,1,2,[]),(1,6,303000,[7])]),
 (44,yW 7 [7,8,12] [0,1,2,3,4,5,7] [(6,1,3,[])]),
 (45,yW 50 [50,51,74] [2,3,5,6,7,8,9,11,13] [(0,1,2,[]),(1,18,200000000000000000,[]),(4,14,20000000000000,[]),(10,19,1111411111110011000,[]),(12,1,3,[])]),
 (46,yW 1 [2] [0,1] []),
 (47,yW 1 [1,2,6] [0] [(1,7,1110000,[])]),
 (48,yW 18 [23,30,45] [1,2,3,4,5,6,8,9,12] [(0,2,22,[]),(7,1,3,[]),(10,6,300000,[]),(11,11,11111111000,[]),(13,4,3000,[11,12]),(14,19,3000030000000000000,[])]),
 (49,yW 3 [3,8,18] [1,2,4,5] [(0,1,2,[]),(3,2,30,[]),(6,21,111100111100111100000,[])]),
 (50,yW 1 [2] [0,1] []),
 (51,yW 3 [3,7,14] [0,1,2,4,5,6] [(3,2,30,[])]),
 (52,yW 11 [47,53,60] [1,2,3,7,8,9,10,12,13,14,15] [(0,1,2,[]),(5,6,200000,[]),(4,2,30,[]),(6,25,2000000000000000000000000,[]),(11,2,30,[])]),
 (53,yW 1 [1,4,5] [0,1,2,3] []),
 (54,yW 5 [5,9,18] [0,1,2,4,5,6] [(3,2,30,[])]),
 (55,yW 1 [2] [0,1] []),
 (56,yW 5 [5,9,18] [0,1,2,4,5,6] [(3,2,30,[])]),
 (57,yW 6 [17,22,64] [0,2,3,4,5,8,9] [(1,9,200000000,[]),(7,37,2001111141111111000000000000000000000,[]),(6,2,30,[]),(10,12,300000003000,[])]),
 (58,yW 1 [1,2,6] [0] [(1,7,1110000,[])]),
 (59,yW 12 [12,13,29] [0,1,2,3,4,6,7,8,10] [(5,10,2000000000,[]),(9,1,3,[])]),
 (60,yW 9 [9,10,11] [0,1,2,3,7] [(4,0,0,[7]),(5,5,20000,[]),(6,1,3,[])]),
 (61,yW 1 [1,2] [1] [(0,1,2,[])]),
 (62,yW 2 [2,4,5] [0] [(1,0,0,[5]),(2,14,20000000000000,[])]),
 (63,yW 2 [2,4,6] [2] [(0,1,2,[]),(1,0,0,[5])]),
 (64,yW 1 [1,2,6] [0] [(1,7,1110000,[])]),
 (65,yW 9 [9,10,11] [0,1,2,3,7] [(4,0,0,[7]),(5,5,20000,[]),(6,1,3,[])]),
 (66,yW 5 [5,6,12] [1,2,3,4] [(0,2,22,[])]),
 (67,yW 3 [3,6,20] [3] [(0,1,2,[]),(1,13,1111100000000,[]),(2,2,30,[])]),
 (68,yW 8 [8,9,10] [0,1,2,3,5,7] [(4,0,0,[5]),(6,1,3,[])]),
 (69,yW 8 [8,9,16] [0,1,2,3,4,5,7] [(6,1,3,[])]),
 (70,yW 1 [1,2,3] [1] [(0,1,2,[])]),
 (71,yW 11 [11,12,19] [1,2,3,4,5,6,8] [(0,3,222,[]),(7,1,3,[])]),
 (72,yW 45 [45,46,71] [0,1,2,3,4,5,8,9,10,12,13,14,15,18,19,20,22] [(6,0,0,[8]),(7,8,20000000,[]),(11,1,3,[]),(16,0,0,[11]),(17,20,20000000000000000000,[]),(21,1,3,[])]),
 (73,yW 1 [1,2] [] [(0,1,2,[]),(1,10,2000000000,[])]),
 (74,yW 9 [9,10,11] [0,1,2,3,7] [(4,0,0,[7]),(5,5,20000,[]),(6,1,3,[])]),
 (75,yW 2 [2,3,4] [1] [(0,1,2,[])]),
 (76,yW 1 [1,3,4] [1] [(0,1,2,[])]),
 (77,yW 12 [19,20,21] [1,2,3,5] [(0,3,222,[]),(4,3,300,[])]),
 (78,yW 1 [2] [0] [(1,8,30000000,[])]),
 (79,yW 9 [9,10,11] [0,1,2,3,7] [(4,0,0,[7]),(5,5,20000,[]),(6,1,3,[])]),
 (80,yW 1 [1,2] [1] [(0,1,2,[])]),
 (81,yW 1 [1,2,4] [] [(0,1,2,[]),(1,5,33000,[])]),
 (82,yW 1 [1,2] [1] [(0,1,2,[])]),
 (83,yW 9 [10,11,15] [1,2,3,4,5,6,7] [(0,2,22,[])]),
 (84,yW 9 [9,10,11] [0,1,2,3,7] [(4,0,0,[7]),(5,5,20000,[]),(6,1,3,[])]),
 (85,yW 1 [1,2] [1] [(0,1,2,[])]),
 (86,yW 1 [1,3] [0] [(1,15,200000000000000,[])]),
 (87,yW 1 [2] [0,1] []),
 (88,yW 8 [8,9,43] [0,1,2,3,6] [(4,13,1111110011000,[]),(5,17,11111111111111000,[]),(7,6,111000,[])]),
 (89,yW 3 [4,5,8] [1,2,3] [(0,1,2,[])]),
 (90,yW 1 [1,4,5] [0,1,2,3] []),
 (91,yW 1 [1,4] [0] [(1,8,20000000,[])]),
 (92,yW 1 [1,3,4] [1] [(0,1,2,[])]),
 (93,yW 57 [57,58,82] [1,2,3,5,6,9,10,11,12,13,15,17,19] [(0,1,2,[]),(4,4,2000,[]),(7,0,0,[6]),(8,21,200000000000000000000,[]),(14,20,11111110011141111000,[]),(16,1,3,[]),(18,1,3,[])]),
 (94,yW 8 [8,9,16] [0,1,2,3,4,5,7] [(6,1,3,[])]),
 (95,yW 1 [1,2,3] [1] [(0,1,2,[])]),
 (96,yW 2 [2,3,8] [0] [(1,9,300303000,[])]),
 (97,yW 5 [5,19,24] [0,2,3,4,5,6,9] [(1,11,20000000000,[]),(8,6,300000,[]),(7,2,30,[])]),
 (98,yW 8 [8,12,23] [0,1,2,4,5,6,7] [(3,2,30,[])]),
 (99,yW 5 [18,23,51] [0,2,3,4,5,8,9] [(1,11,20000000000,[]),(7,25,1111141111111110011111000,[]),(6,2,30,[])]),
 (100,yW 9 [48,54,90] [3,4,5,6,9,10] [(0,1,2,[]),(1,9,300000000,[5,6]),(2,25,2000000000000011111000000,[]),(8,33,111111111111111001111411111111000,[]),(7,2,30,[])]),
 (101,yW 6 [13,17,67] [0,2,3,4,9,10] [(1,7,1110000,[]),(6,21,111111111100111100000,[]),(7,15,111100111100000,[]),(8,9,111111000,[]),(5,2,30,[])]),
 (102,yW 1 [2] [0,1] []),
 (103,yW 1 [2] [0,1] []),
 (104,yW 8 [8,9,16] [0,1,2,3,4,5,7] [(6,1,3,[])]),
 (105,yW 1 [1,2,3] [1] [(0,1,2,[])]),
 (106,yW 1 [] [0,1] []),
 (107,yW 22 [22,23,47] [0,2,3,4,5,8,9] [(1,9,200000000,[]),(6,0,0,[5]),(7,18,200111114111100000,[]),(10,1,3,[]),(11,12,300000003000,[])]),
 (108,yW 8 [8,9,16] [0,1,2,3,4,5,7] [(6,1,3,[])]),
 (109,yW 1 [1,2,3] [1] [(0,1,2,[])]),
 (110,yW 6 [6,7,8] [1] [(0,4,2222,[])]),
 (111,yW 2 [2,3,4] [1] [(0,2,22,[])]),
 (112,yW 1 [1,2] [1] [(0,1,2,[])]),
 (113,yW 17 [17,18,19] [0,1,2,3,4,5,6,7,10,12] [(8,12,333030030330,[]),(9,1,3,[]),(11,1,3,[])]),
 (114,yW 9 [9,10,11] [0,1,2,3,4,7] [(5,5,20000,[]),(6,1,3,[])]),
 (115,yW 1 [1,3] [0,1] []),
 (116,yW 2 [4,5,13] [0,4] [(1,3,300,[]),(2,3,300,[]),(3,2,30,[])]),
 (117,yW 3 [3,5,6] [1] [(0,3,222,[])]),
 (118,yW 1 [1,4] [0,1] []),
 (119,yW 3 [4,5,6] [1] [(0,3,222,[])]),
 (120,yW 4 [4,5,6] [] [(0,3,222,[]),(1,7,3000000,[])]),
 (121,yW 3 [3,5,6] [1] [(0,3,222,[])]),
 (122,yW 1 [1,2] [] [(0,1,2,[]),(1,10,2000000000,[])]),
 (123,yW 5 [6,12,24] [0,1,3] [(2,2,30,[])]),
 (124,yW 10 [10,19,47] [3,4,5] [(0,3,222,[]),(1,0,0,[7]),(2,0,0,[8]),(6,14,30000030000000,[]),(7,3,300,[]),(8,5,33000,[]),(9,2,30,[])]),
 (125,yW 19 [19,20,27] [0,1,3,5,6] [(2,4,3000,[]),(4,0,0,[7]),(7,1,3,[]),(8,7,3000000,[8,9]),(9,9,300003000,[]),(10,0,0,[12]),(11,15,300000030000000,[])]),
 (126,yW 6 [6,7,16] [0,1,2] [(3,5,30000,[]),(4,1,3,[])]),
 (127,yW 8 [8,9,16] [0,1,2,3,4,5,7] [(6,1,3,[])]),
 (128,yW 2 [2,3,4] [] [(0,2,22,[]),(1,15,300003000030000,[])]),
 (129,yW 1 [1,2] [] [(0,1,2,[]),(1,16,3000033000030000,[])]),
 (130,yW 8 [31,34,51] [2,3,6,10] [(0,2,22,[]),(1,22,3300003000033000030000,[]),(5,14,11111100110000,[]),(7,6,110000,[]),(8,2,30,[]),(9,3,300,[]),(4,2,30,[])])]
def G0:List (Nat × List AV):=[(0,[.str [114,101,97,115,111,110],.str [101,97,114,108,121],.str [108,97,116,101],.str [101,118,105,100,101,110,99,101]])]
abbrev P0:=PCall Tryz.prog G0
theorem tok:TOK Tryz.prog T0:=TOK.of_map (by kernel_rfl)
theorem mix:Tryz.prog.follows .mixedOrders=true:=by kernel_rfl
def VO(fn:Func):Code:=fn.body.getD .skip
theorem Jg3{p q:Prop}(hq:q)(h:p=q):p:=h ▸ hq
theorem Jw {f : Nat} {args : List AV} {r : AV} (fn : Func) (B : BA) {q : Prop} (hq : q) (h : VC (QD Tryz.prog T0 G0 fn.ntmps []) B 10000 0 (VO fn) (JaP args) (JlN T0 fn fun v => v = r) = q) (hf : Tryz.prog.funcs[f]? = some fn := by kernel_rfl) (hb : fn.body = some (VO fn) := by kernel_rfl) (hn : (fn.name == "runtime.NumGoroutine") = false := by kernel_rfl) (hlen : Nat.ble args.length fn.ntmps = true := by kernel_rfl) : P0 f args r :=
 Jgi tok mix hf hb hn (Kl hlen) B (Jg3 hq h)
def Jna:Nat->(List AV->Option AV)->List An->List An
 | 0,f,[]=>[{ rd:=f }]
 | 0,f,a::l=>{ a with rd:=f }::l
 | n+1,f,[]=>{}::Jna n f []
 | n+1,f,a::l=>a::Jna n f l
def addRd:List (Nat × Nat × (List AV->Option AV))->Nat->RA->RA
 | [],_,ra=>ra
 | (i,k,f)::l,j,ra=>addRd l j (if i.beq j then { ra with ans:=Jna k f ra.ans }else ra)
def mkB(sp:Nat->List AV->Option AV)(f:Nat)(rds:List (Nat × Nat × (List AV->Option AV)))(la:Nat->Option LA):BA :=
 { ra:=fun i=>addRd rds i ((lk i ((lk f F0).getD [])).getD {}),gs:=fun _=>[],la:=la,fa:=none,spec:=sp }
def J1:Nat->Option LA:=fun _=>none
def sWhen(b:Bool)(e:Int):Int:=if b then e else 0
def sFirst:List Int->Int
 | []=>0
 | x::l=>if x ≠ 0 then x else sFirst l
def Ja(x lo hi:Int):Int:=sWhen (if decide (x < lo)then true else decide (x > hi)) 3
def Qb(n d:Int):Int:=if n.tdiv d * d > n then n.tdiv d-1 else n.tdiv d
def hdI(l:List AV):Int:=match l with
 | [.int _ n]=>n
 | _=>0
def QX(l:List Int):List (List AV):=l.map fun x=>[.i x]
def JN(p:Int):Int:=Ja p 1 100
def JO(x y z:Int):Int:=sFirst [Ja x (-100000) 100000,Ja y (-100000) 100000,Ja z 0 20000]
def Jno(t x y z p:Int):Int:=sFirst [Ja t 0 100000000,JO x y z,JN p]
def spA:Nat->List AV->Option AV
 | 90,[.bool b,.int _ e]=>some (.i (sWhen b e))
 | 53,[.bool b,.int _ e]=>some (.i (sWhen b e))
 | 44,[.sl _ rows]=>some (.i (sFirst (rows.map hdI)))
 | 51,[.sl _ rows]=>some (.i (sFirst (rows.map hdI)))
 | 47,[.int _ x,.int _ lo,.int _ hi]=>some (.i (Ja x lo hi))
 | 58,[.int _ x,.int _ lo,.int _ hi]=>some (.i (Ja x lo hi))
 | 46,[.int _ p]=>some (.i (JN p))
 | 103,[.int _ p]=>some (.i (JN p))
 | 1019,[.int _ p]=>some (.i (Ja p 1 1000))
 | 102,[.int _ p]=>some (.i (Ja p 0 100000000))
 | 1016,[.sl _ rows]=>some (.i (sFirst (rows.map hdI)))
 | 73,[.agg [.int _ x,.int _ y,.int _ z]]=>some (.i (JO x y z))
 | 23,[.agg [.int _ x,.int _ y,.int _ z]]=>some (.i (JO x y z))
 | 122,[.agg [.int _ t,.int _ x,.int _ y,.int _ z,.int _ p]]=>some (.i (Jno t x y z p))
 | 116,[.int _ n,.int _ d]=>some (.i (Qb n d))
 | 1143,[.int _ n,.int _ d]=>some (.i (Qb n d))
 | _,_=>none
theorem Qa(es:List Int):(QX es).length=es.length:=by simp[QX]
theorem VT{es:List Int}{i:Nat}(h:i < es.length):Ji (QX es) i=[.i (es.getD i 0)]:=by
 simp[Ji,QX,List.getD_eq_getElem?_getD,h]
theorem QC(es:List Int):∀ (i:Nat),(∀ k,k < i->es.getD k 0=0)->i<=es.length->sFirst es=sFirst (es.drop i):=by
 intro i
 induction i with
 | zero=>intros;rfl
 | succ i ih =>
  intro h hl
  rw[ih (fun k hk=>h k (by omega)) (by omega)]
  have:=h i (by omega)
  rw[List.drop_eq_getElem_cons (show i < es.length by omega)]
  rw[Ka,Kj (show i < es.length by omega)]at this
  simp at this
  simp[sFirst,this]
theorem Q9{es:List Int}{i:Nat}(h:i < es.length)(h0:∀ k,k < i->es.getD k 0=0)(hne:es.getD i 0 ≠ 0):sFirst es=es.getD i 0:=by
 rw[QC es i h0 (by omega),List.drop_eq_getElem_cons h]
 simp[List.getD_eq_getElem?_getD,h]at hne
 simp[sFirst,hne,List.getD_eq_getElem?_getD,h]
theorem Vh{es:List Int}(h0:∀ k,k < es.length->es.getD k 0=0):sFirst es=0:=by
 rw[QC es es.length h0 (Kr _)]
 simp[sFirst]
theorem c90(b:Bool)(e:Int) :P0 90 [.bool b,.i e] (.i (sWhen b e)):=by
 have key :
  (b=true->AV.i e=AV.i (sWhen b e))/\(b=false->AV.i (0:Int)=AV.i (sWhen b e)):=by
   exact⟨fun h=>by simp[sWhen,h],fun h=>by simp[sWhen,h]⟩
 exact Jw Tryz.f90 (mkB spA 90 [] J1) key (by kernel_rfl)
theorem c53(b:Bool)(e:Int) :P0 53 [.bool b,.i e] (.i (sWhen b e)):=by
 have key :
  (b=true->AV.i e=AV.i (sWhen b e))/\(b=false->AV.i (0:Int)=AV.i (sWhen b e)):=by
   exact⟨fun h=>by simp[sWhen,h],fun h=>by simp[sWhen,h]⟩
 exact Jw Tryz.f53 (mkB spA 53 [] J1) key (by kernel_rfl)
theorem c47(x lo hi:Int) :P0 47 [.i x,.i lo,.i hi] (.i (Ja x lo hi)):=by
 have key :
  ((!decide (x < lo))=true->(!decide (x < lo))=true)/\((!decide (x < lo))=true->(!decide (x < lo))=true)/\(decide (x < lo)=false->(!decide (x < lo))=true)/\P0 (90:Nat) [AV.bool (if decide (x < lo)
  = true then true else decide (x > hi)),AV.i (3:Int)] (AV.i (sWhen (if decide (x < lo)=true then true else decide (x > hi)) (3:Int)))/\AV.i (sWhen (if decide (x < lo)=true then
  true else decide (x > hi)) (3:Int))=AV.i (Ja x lo hi):=by
   exact⟨fun h=>h,fun h=>h,fun h=>by simp[h],c90 _ _,rfl⟩
 exact Jw Tryz.f47 (mkB spA 47 [] J1) key (by kernel_rfl)
theorem c58(x lo hi:Int) :P0 58 [.i x,.i lo,.i hi] (.i (Ja x lo hi)):=by
 have key :
  ((!decide (x < lo))=true->(!decide (x < lo))=true)/\((!decide (x < lo))=true->(!decide (x < lo))=true)/\(decide (x < lo)=false->(!decide (x < lo))=true)/\P0 (53:Nat) [AV.bool (if decide (x < lo)
  = true then true else decide (x > hi)),AV.i (3:Int)] (AV.i (sWhen (if decide (x < lo)=true then true else decide (x > hi)) (3:Int)))/\AV.i (sWhen (if decide (x < lo)=true then
  true else decide (x > hi)) (3:Int))=AV.i (Ja x lo hi):=by
   exact⟨fun h=>h,fun h=>h,fun h=>by simp[h],c53 _ _,rfl⟩
 exact Jw Tryz.f58 (mkB spA 58 [] J1) key (by kernel_rfl)
def la87(es:List Int):LA:={
 pre:=[.keep [0,5,6,7] [],.bound 1],post:=[.keep [0,5,6,7] [],.bound 1]
 Gh:=Nat
 st:=fun i=>⟨[(0,.sl 1 (QX es)),(5,.sl 1 (QX es)),(6,.i es.length),(7,.i i)],[],1⟩
 ok:=fun i=>i<=es.length/\∀ k,k < i->es.getD k 0=0
 ms:=fun i=>es.length-i }
def la93(es:List Int):LA:={
 pre:=[.keep [0,3] [],.bound 1],post:=[.keep [0,3] [],.bound 1]
 Gh:=Nat
 st:=fun i=>⟨[(0,.sl 1 (QX es)),(3,.i i)],[],1⟩
 ok:=fun i=>i<=es.length/\∀ k,k < i->es.getD k 0=0
 ms:=fun i=>es.length-i }
def rdI(es:List Int):List AV->Option AV
 | [.elt _ _ i _]=>some (.i (es.getD i 0))
 | _=>none
abbrev Z0a(es:List Int):=((0:Nat),AV.sl (1:Nat) (QX es))
abbrev Z0b(es:List Int):=((5:Nat),AV.sl (1:Nat) (QX es))
abbrev Z0c(es:List Int):=((6:Nat),AV.i (es.length:Int))
abbrev Z0d(g:Nat)(es:List Int):=(g<=es.length/\∀ (k:Nat),k < g->es.getD k (0:Int)=(0:Int))
theorem c44(es:List Int)(hl:es.length<=1000000):P0 44 [.sl 1 (QX es)] (.i (sFirst es)):=by
 have key :
  (∃ (g:Nat),(Z0d g es)/\AS.mk [(Z0a es),(Z0b es),((6:Nat),AV.i ((QX es).length:Int)),((7:Nat),AV.i (0:Int))] [] (1:Nat)=AS.mk [(Z0a es),(Z0b es),(Z0c es),((7:Nat),AV.i (g:Int))] [] (1:Nat))/\∀ (g
  : Nat),(Z0d g es)->(decide ((g:Int) < (es.length:Int))=true->(0:Int)<=(g:Int)/\(g:Int) < ((QX es).length:Int)/\nth (Ji (QX es) (g:Int).toNat) (0:Nat)=AV.i (es.getD (g:Int).toNat (0:Int)) /\
  ((es.getD (g:Int).toNat (0:Int) != 0)=true->AV.i (es.getD (g:Int).toNat (0:Int))=AV.i (sFirst es))/\((es.getD (g:Int).toNat (0:Int) != 0)=false->Jc ((g:Int)+1)/\∃ (g':Nat),(g'<=es.length/\∀ (k :
  Nat),k < g'->es.getD k (0:Int)=(0:Int))/\es.length-g' < es.length-g/\AS.mk [(Z0a es),(Z0b es),(Z0c es),((7:Nat),AV.i ((g:Int)+1))] [] (1:Nat)=AS.mk [(Z0a es),(Z0b es),(Z0c es),((7:Nat),AV.i (↑g' :
  Int))] [] (1:Nat)))/\(decide ((g:Int) < (es.length:Int))=false->AV.i (0:Int)=AV.i (sFirst es)):=by
   delta Z0a Z0b Z0c Z0d
   refine⟨⟨0,⟨by omega,by intros;omega⟩,by simp[Qa]⟩,fun g ⟨h1,h2⟩=>⟨fun hd=>?_,fun hd=>?_⟩⟩
   . have hlt:g < es.length:=by simpa using hd
     refine⟨by omega,by rw[Qa];omega,by simp[VT hlt,nth],fun hne=>?_,fun hz=>⟨?_,g+1,⟨hlt,fun k hk=>?_⟩,by omega,rfl⟩⟩
     . rw[Q9 hlt h2 (by simpa using hne)];rfl
     . unfold Jc;omega
     by_cases e:k=g
     . subst e;simpa using hz
     exact h2 k (by omega)
   have hge:g=es.length:=by simp at hd;omega
   rw[Vh (hge ▸ h2)]
 exact Jw Tryz.f44 (mkB spA 44 [(3,1,rdI es)] (fun i=>if i.beq 0 then some (la87 es)else none)) key (by kernel_rfl)
abbrev Z1a(es:List Int):=((0:Nat),AV.sl (1:Nat) (QX es))
abbrev Z1b(g:Nat)(es:List Int):=(g<=es.length/\∀ (k:Nat),k < g->es.getD k (0:Int)=(0:Int))
abbrev Z1c(es:List Int):=((QX es).length:Int)
theorem c51(es:List Int)(hl:es.length<=1000000):P0 51 [.sl 1 (QX es)] (.i (sFirst es)):=by
 have key :
  (∃ (g:Nat),(Z1b g es)/\AS.mk [(Z1a es),((3:Nat),AV.i (0:Int))] [] (1:Nat)=AS.mk [(Z1a es),((3:Nat),AV.i (g:Int))] [] (1:Nat))/\∀ (g:Nat),(Z1b g es)->(decide ((g:Int) < (Z1c es))=true->(0:Int) ≤
  (g:Int)/\(g:Int) < (Z1c es)/\nth (Ji (QX es) (g:Int).toNat) (0:Nat)=AV.i (es.getD (g:Int).toNat (0:Int))/\((es.getD (g:Int).toNat (0:Int) != 0)=true->(0:Int)<=(g:Int)/\(g:Int) < (Z1c es) /\
  nth (Ji (QX es) (g:Int).toNat) (0:Nat)=AV.i (es.getD (g:Int).toNat (0:Int))/\AV.i (es.getD (g:Int).toNat (0:Int))=AV.i (sFirst es))/\((es.getD (g:Int).toNat (0:Int) != 0)=false->Jc ((g:Int) +
  1)/\∃ (g':Nat),(g'<=es.length/\∀ (k:Nat),k < g'->es.getD k (0:Int)=(0:Int))/\es.length-g' < es.length-g/\AS.mk [(Z1a es),((3:Nat),AV.i ((g:Int)+1))] [] (1:Nat)=AS.mk [(Z1a es),((3:Nat),AV.i
  (g':Int))] [] (1:Nat)))/\(decide ((g:Int) < (Z1c es))=false->AV.i (0:Int)=AV.i (sFirst es)):=by
   delta Z1a Z1b Z1c
   refine⟨⟨0,⟨by omega,by intros;omega⟩,by simp⟩,fun g ⟨h1,h2⟩=>⟨fun hd=>?_,fun hd=>?_⟩⟩
   . have hlt:g < es.length:=by simpa[Qa]using hd
     refine⟨by omega,by rw[Qa];omega,by simp[VT hlt,nth],fun hne=>?_,fun hz=>⟨?_,g+1,⟨hlt,fun k hk=>?_⟩,by omega,rfl⟩⟩
     . refine⟨by omega,by rw[Qa];omega,by simp[VT hlt,nth],?_⟩
       rw[Q9 hlt h2 (by simpa using hne)];rfl
     . unfold Jc;omega
     by_cases e:k=g
     . subst e;simpa using hz
     exact h2 k (by omega)
   have hge:g=es.length:=by simp[Qa]at hd;omega
   rw[Vh (hge ▸ h2)]
 exact Jw Tryz.f51 (mkB spA 51 [(4,3,rdI es),(5,3,rdI es)] (fun i=>if i.beq 0 then some (la93 es)else none)) key (by kernel_rfl)
theorem c46(p:Int) :P0 46 [.i p] (.i (JN p)):=by
 have key :
  P0 (47:Nat) [AV.i p,AV.i (1:Int),AV.i (100:Int)] (AV.i (Ja p (1:Int) (100:Int)))/\AV.i (Ja p (1:Int) (100:Int)) =
  AV.i (JN p):=by
   exact⟨c47 _ _ _,rfl⟩
 exact Jw Tryz.f46 (mkB spA 46 [] J1) key (by kernel_rfl)
theorem c103(p:Int) :P0 103 [.i p] (.i (JN p)):=by
 have key :
  P0 (58:Nat) [AV.i p,AV.i (1:Int),AV.i (100:Int)] (AV.i (Ja p (1:Int) (100:Int)))/\AV.i (Ja p (1:Int) (100:Int)) =
  AV.i (JN p):=by
   exact⟨c58 _ _ _,rfl⟩
 exact Jw Tryz.f103 (mkB spA 103 [] J1) key (by kernel_rfl)
theorem c102(p:Int) :P0 102 [.i p] (.i (Ja p 0 100000000)):=by
 have key :
  P0 (58:Nat) [AV.i p,AV.i (0:Int),AV.i (100000000:Int)] (AV.i (Ja p (0:Int) (100000000:Int)))/\AV.i (Ja p (0:Int)
  (100000000:Int))=AV.i (Ja p (0:Int) (100000000:Int)):=by
   exact⟨c58 _ _ _,rfl⟩
 exact Jw Tryz.f102 (mkB spA 102 [] J1) key (by kernel_rfl)
abbrev Z2b:=(-100000:Int)
abbrev Z2d(x:Int):=Ja x Z2b (100000:Int)
abbrev Z2e(y:Int):=Ja y Z2b (100000:Int)
abbrev Z2c(z:Int):=Ja z (0:Int) (20000:Int)
abbrev Z2a(x:Int)(y:Int)(z:Int):=sFirst [hdI [AV.i (Z2d x)],hdI [AV.i (Z2e y)],hdI [AV.i (Z2c z)]]
theorem c73(x y z:Int) :P0 73 [.agg [.i x,.i y,.i z]] (.i (JO x y z)):=by
 have key :
  P0 (47:Nat) [AV.i x,AV.i Z2b,AV.i (100000:Int)] (AV.i (Z2d x))/\P0 (47:Nat) [AV.i y,AV.i Z2b,AV.i (100000:Int)] (AV.i (Z2e y))/\P0 (47:Nat) [AV.i z,AV.i (0:Int),AV.i (20000:Int)] (AV.i (Z2c z))/\P0 (44:Nat)
  [AV.sl (1:Nat) [[AV.i (Z2d x)],[AV.i (Z2e y)],[AV.i (Z2c z)]]] (AV.i (Z2a x y z))/\AV.i (Z2a x y z)=AV.i (JO x y z):=by
   delta Z2a Z2b Z2c Z2d Z2e
   exact⟨c47 _ _ _,c47 _ _ _,c47 _ _ _,c44 [_,_,_] (by simp),rfl⟩
 exact Jw Tryz.f73 (mkB spA 73 [] J1) key (by kernel_rfl)
abbrev Z3b:=(-100000:Int)
abbrev Z3d(x:Int):=Ja x Z3b (100000:Int)
abbrev Z3e(y:Int):=Ja y Z3b (100000:Int)
abbrev Z3c(z:Int):=Ja z (0:Int) (20000:Int)
abbrev Z3a(x:Int)(y:Int)(z:Int):=sFirst [hdI [AV.i (Z3d x)],hdI [AV.i (Z3e y)],hdI [AV.i (Z3c z)]]
theorem c23(x y z:Int) :P0 23 [.agg [.i x,.i y,.i z]] (.i (JO x y z)):=by
 have key :
  P0 (58:Nat) [AV.i x,AV.i Z3b,AV.i (100000:Int)] (AV.i (Z3d x))/\P0 (58:Nat) [AV.i y,AV.i Z3b,AV.i (100000:Int)] (AV.i (Z3e y))/\P0 (58:Nat) [AV.i z,AV.i (0:Int),AV.i (20000:Int)] (AV.i (Z3c z))/\P0 (51:Nat)
  [AV.sl (1:Nat) [[AV.i (Z3d x)],[AV.i (Z3e y)],[AV.i (Z3c z)]]] (AV.i (Z3a x y z))/\AV.i (Z3a x y z)=AV.i (JO x y z):=by
   delta Z3a Z3b Z3c Z3d Z3e
   exact⟨c58 _ _ _,c58 _ _ _,c58 _ _ _,c51 [_,_,_] (by simp),rfl⟩
 exact Jw Tryz.f23 (mkB spA 23 [] J1) key (by kernel_rfl)
theorem c122(t x y z p:Int) :P0 122 [.agg [.i t,.i x,.i y,.i z,.i p]] (.i (Jno t x y z p)):=by
 have key :
  P0 (47:Nat) [AV.i t,AV.i (0:Int),AV.i (100000000:Int)] (AV.i (Ja t (0:Int) (100000000:Int)))/\P0 (73:Nat) [AV.agg [AV.i x,AV.i y,AV.i z]] (AV.i (JO x y z))/\P0 (46:Nat) [AV.i p] (AV.i (JN p))/\P0 (44:Nat) [AV.sl (1:Nat)
  [[AV.i (Ja t (0:Int) (100000000:Int))],[AV.i (JO x y z)],[AV.i (JN p)]]] (AV.i (sFirst [hdI [AV.i (Ja t (0:Int) (100000000:Int))],
  hdI [AV.i (JO x y z)],hdI [AV.i (JN p)]]))/\AV.i (sFirst [hdI [AV.i (Ja t (0:Int) (100000000:Int))],hdI [AV.i (JO x y z)],hdI [AV.i (JN p)]])=AV.i (Jno t x y z p):=by
   exact⟨c47 _ _ _,c73 _ _ _,c46 _,c44 [_,_,_] (by simp),rfl⟩
 exact Jw Tryz.f122 (mkB spA 122 [] J1) key (by kernel_rfl)
structure Pt where
 x:Int
 y:Int
 deriving Inhabited
structure Fx where
 t:Int
 x:Int
 y:Int
 z:Int
 p:Int
 deriving Inhabited
structure St where
 a:Int
 h:Int
 p:Int
 deriving Inhabited
def encPt(r:Pt):List AV:=[.i r.x,.i r.y]
def Jg(r:Fx):List AV:=[.i r.t,.i r.x,.i r.y,.i r.z,.i r.p]
def Jiw(r:St):List AV:=[.i r.a,.i r.h,.i r.p]
def rdL{α:Type}[Inhabited α](k:Nat)(enc:α->List AV)(l:List α)(size:Nat)(agg:Bool):List AV->Option AV
 | [.elt k' _ i j]=>if k'.beq k then some (if agg then .agg (((enc (l.getD i default)).drop j).take size)else nth (enc (l.getD i default)) j)else none
 | _=>none
def WT:List (List AV->Option AV)->List AV->Option AV
 | [],_=>none
 | f::fs,x=>match f x with
  | some v=>some v
  | none=>WT fs x
theorem Jl{α:Type}[Inhabited α](enc:α->List AV){l:List α}{i:Nat}(h:i < l.length):Ji (l.map enc) i=enc (l.getD i default):=by
 simp[Ji,List.getD_eq_getElem?_getD,h]
def JC(f:Nat->Int)(n:Nat)(fin:Int):Int:=sFirst ((List.range n).map f++[fin])
theorem J4{f:Nat->Int}{n i:Nat}{fin:Int}(h:i < n)(h0:∀ k,k < i->f k=0)(hne:f i ≠ 0):JC f n fin=f i:=by
 have e:∀ k,k < n->((List.range n).map f++[fin]).getD k 0=f k:=fun k hk=>by
  simp[List.getD_eq_getElem?_getD,List.getElem?_append,hk]
 rw[JC,Q9 (i:=i) (by simp;omega) (fun k hk=>by rw[e k (by omega)];exact h0 k hk) (by rw[e i h];exact hne),e i h]
theorem scan_end{f:Nat->Int}{n:Nat}{fin:Int}(h0:∀ k,k < n->f k=0):JC f n fin=fin:=by
 have e:∀ k,k < n->((List.range n).map f++[fin]).getD k 0=f k:=fun k hk=>by
  simp[List.getD_eq_getElem?_getD,List.getElem?_append,hk]
 rw[JC,QC _ n (fun k hk=>by rw[e k hk];exact h0 k hk) (by simp),List.drop_left' (by simp)]
 simp[sFirst]
 intro h;exact h.symm
def spB:Nat->List AV->Option AV
 | 1096,[.int _ n,.int _ d]=>some (.i (0-Qb (0-n) d))
 | n,l=>spA n l
theorem c116(n d:Int)(hd:d ≠ 0)(h1:Jc (n.tdiv d))(h2:Jc (n.tdiv d * d))(h3:Jc (n.tdiv d-1)):P0 116 [.i n,.i d] (.i (Qb n d)):=by
 have key :
  ¬d=(0:Int)/\Jc (n.tdiv d)/\Jc (n.tdiv d * d)/\(decide (n.tdiv d * d > n)=true->Jc (n.tdiv d-1)/\AV.i (n.tdiv d-1)=AV.i (Qb n d))/\(decide (n.tdiv d * d > n)=false->AV.i (n.tdiv d)=AV.i (Qb n d)):=by
   refine⟨hd,h1,h2,fun h=>⟨h3,?_⟩,fun h=>?_⟩
   . simp only[Ko]at h
     rw[Qb,if_pos h]
   simp only[decide_eq_false_iff_not]at h
   rw[Qb,if_neg h]
 exact Jw Tryz.f116 (mkB spA 116 [] J1) key (by kernel_rfl)
theorem Uv{a:Int}(h:(a != 0)=true):a ≠ 0:=by simpa using h
theorem QE{a:Int}(h:(a != 0)=false):a=0:=by simpa using h
def sLS(c:Int)(f:Nat->Int)(n:Nat)(fin:Int):Int:=if c != 0 then c else JC f n fin
theorem QY{c:Int}{f:Nat->Int}{n:Nat}{fin:Int}(h:(c != 0)=true):sLS c f n fin=c:=by rw[sLS,if_pos h]
theorem VL{c:Int}{f:Nat->Int}{n i:Nat}{fin:Int}(h:(c != 0)=false)(hi:decide ((i:Int) < (n:Int))=true)(h0:∀ k,k < i->f k=0)(hne:(f i != 0)=true):sLS c f n fin=f i:=by
 rw[sLS,if_neg (by rw[h];decide),J4 (by simpa using hi) h0 (Uv hne)]
theorem Ul{c:Int}{f:Nat->Int}{n i:Nat}{fin:Int}(h:(c != 0)=false)(hi:decide ((i:Int) < (n:Int))=false)(hle:i<=n)(h0:∀ k,k < i->f k=0):sLS c f n fin=fin:=by
 have:i=n:=by simp at hi;omega
 subst this
 rw[sLS,if_neg (by rw[h];decide),scan_end h0]
theorem Xn{f:Nat->Int}{g:Nat}(h:∀ k,k < g->f k=0)(h2:(f g != 0)=false):∀ k,k < g+1->f k=0:=fun k hk=>by
 by_cases e:k=g
 . rw[e];exact QE h2
 exact h k (by omega)
theorem Jt{i n:Nat}(hi:decide ((i:Int) < (n:Int))=false)(hle:i<=n):i=n:=by simp at hi;omega
theorem Jm{i n:Nat}(hi:decide ((i:Int) < (n:Int))=true):i < n:=by simpa using hi
theorem Xd{a b:Int}(h:a=b):AV.int .i64 b=.int .i64 a:=by rw[h]
theorem within_zero{x lo hi:Int}:Ja x lo hi=0 ↔ lo<=x/\x<=hi:=by
 unfold Ja sWhen
 by_cases h1:x < lo
 . simp[h1];omega
 by_cases h2:x > hi
 . simp[h1,h2] <;> omega
 simp[h1,h2] <;> omega
theorem first_zero{x:Int}{l:List Int}:sFirst (x::l)=0 ↔ x=0/\sFirst l=0:=by
 by_cases h:x=0
 . simp[sFirst,h]
 simp[sFirst,h]
def sLen(n:Nat):Int:=sFirst [sWhen (decide ((n:Int) < 2)) 16,sWhen (decide ((n:Int) > 16)) 5]
def sLen8(n:Nat):Int:=sFirst [sWhen (decide ((n:Int) < 2)) 16,sWhen (decide ((n:Int) > 8)) 5]
def prv(i:Nat):Nat:=(QN 0 ((i:Int)-1)).toNat
def fPath(l:List Pt)(i:Nat):Int:=sFirst [Ja (l.getD i default).x (-100000) 100000,Ja (l.getD i default).y (-100000) 100000,
 sWhen (if decide ((i:Int) > 0)=true then(l.getD i default).x == (l.getD (prv i) default).x && true && ((l.getD i default).y == (l.getD (prv i) default).y && true && true)else false) 9]
def sPath(l:List Pt):Int:=sLS (sLen (l.map encPt).length) (fPath l) (l.map encPt).length 0
def lastA(l:List St)(i:Nat):Int:=if i.beq 0 then -1 else(l.getD (i-1) default).a
def fProcS(l:List St)(i:Nat):Int:=sFirst [Ja (l.getD i default).a 0 400000,Ja (l.getD i default).h 0 20000,JN (l.getD i default).p,
 sWhen (if decide ((l.getD i default).a<=lastA l i)=true then true else if((i:Int) == 0)=true then(l.getD i default).a != 0 else false) 11]
def sProcS(l:List St):Int:=sLS (sLen8 (l.map Jiw).length) (fProcS l) (l.map Jiw).length 0
def XS(l:List Fx)(i:Nat):Int:=sFirst [Jno (l.getD i default).t (l.getD i default).x (l.getD i default).y (l.getD i default).z (l.getD i default).p,
 sWhen (if decide ((i:Int) > 0)=true then decide ((l.getD i default).t<=(l.getD (prv i) default).t)else false) 11]
def Xu(l:List Fx)(i:Nat):Int:=sFirst [Ja (l.getD i default).t 0 100000000,JO (l.getD i default).x (l.getD i default).y (l.getD i default).z,JN (l.getD i default).p,
 sWhen (if decide ((i:Int) > 0)=true then decide ((l.getD i default).t<=(l.getD (prv i) default).t)else false) 11]
def VM(n:Nat):Nat:=((n:Int)-1).toNat
def sSpan(l:List Fx):Int:=sWhen (decide ((l.getD (VM (l.map Jg).length) default).t-(l.getD 0 default).t > 1000)) 14
def Qd(l:List Fx):Int:=sLS (sLen (l.map Jg).length) (XS l) (l.map Jg).length (sSpan l)
def QO(l:List Fx):Int:=sLS (sLen (l.map Jg).length) (Xu l) (l.map Jg).length (sSpan l)
theorem Jh4{n:Nat}(h:(sLen n != 0)=false):2<=n/\n<=16:=by
 have h:=QE h
 unfold sLen at h
 simp only[first_zero,sWhen]at h
 by_cases h1:(n:Int) < 2
 . simp[h1]at h
 by_cases h2:(n:Int) > 16
 . simp[h2]at h
 omega
theorem Jis{l:List Fx}{i:Nat}(h:XS l i=0):0<=(l.getD i default).t/\(l.getD i default).t<=100000000:=by
 simp only[XS,Jno,first_zero,within_zero]at h
 exact h.1.1
theorem Jit{l:List Fx}{i:Nat}(h:Xu l i=0):0<=(l.getD i default).t/\(l.getD i default).t<=100000000:=by
 simp only[Xu,first_zero,within_zero]at h
 exact h.1
def la76(l:List Fx):LA:={
 pre:=[.keep [0,20,21,22] [],.bound 1],post:=[.keep [0,20,21,22] [],.bound 1]
 Gh:=Nat
 st:=fun i=>⟨[(0,.sl 5 (l.map Jg)),(20,.sl 5 (l.map Jg)),(21,.i (l.map Jg).length),(22,.i i)],[],1⟩
 ok:=fun i=>i<=(l.map Jg).length/\∀ k,k < i->XS l k=0
 ms:=fun i=>(l.map Jg).length-i }
abbrev Z4c(l:List Fx)(g:Nat):=l.getD (g:Int).toNat default
abbrev Z4i(l:List Fx)(g:Nat):=Jno (Z4c l g).t (Z4c l g).x (Z4c l g).y (Z4c l g).z (Z4c l g).p
abbrev Z4o(g:Nat):=(g:Int) > 0
abbrev Z4q(g:Nat):=QN (0:Int) ((g:Int)-1)
abbrev Z4e(g:Nat)(l:List Fx):=if decide (Z4o g)=true then decide ((Z4c l g).t<=(l.getD (Z4q g).toNat default).t)else false
abbrev Z4a(l:List Fx)(g:Nat):=[hdI [AV.i (Z4i l g)],hdI [AV.i (sWhen (Z4e g l) (11:Int))]]
abbrev Z4h(l:List Fx):=List.map Jg l
abbrev Z4b(l:List Fx):=((Z4h l).length:Int)
abbrev Z4d(g:Nat):=decide (Z4o g)=true->decide (Z4o g)=true
abbrev Z4m(l:List Fx):=sWhen (decide ((Z4b l) < 2)) (16:Int)
abbrev Z4n(l:List Fx):=sWhen (decide ((Z4b l) > 16)) (5:Int)
abbrev Z4f(l:List Fx):=[hdI [AV.i (Z4m l)],hdI [AV.i (Z4n l)]]
abbrev Z4r(l:List Fx):=l.getD ((Z4b l)-1).toNat default
abbrev Z4p(l:List Fx):=l.getD (Int.toNat (0:Int)) default
abbrev Z4g(l:List Fx):=decide ((Z4r l).t-(Z4p l).t > 1000)
abbrev Z4j(l:List Fx):=((20:Nat),AV.sl (5:Nat) (Z4h l))
abbrev Z4k(l:List Fx):=((0:Nat),AV.sl (5:Nat) (Z4h l))
abbrev Z4l(l:List Fx)(g:Nat):=[AV.i (Z4c l g).t,AV.i (Z4c l g).x,AV.i (Z4c l g).y,AV.i (Z4c l g).z,AV.i (Z4c l g).p]
abbrev Z4s(g:Nat)(l:List Fx):=(g<=(Z4h l).length/\∀ (k:Nat),k < g->XS l k=(0:Int))
abbrev Z4t(l:List Fx):=((21:Nat),AV.i (Z4b l))
theorem c107(l:List Fx)(hl:(l.map Jg).length<=1000000):P0 107 [.sl 5 (l.map Jg)] (.i (Qd l)):=by
 have key :
  P0 (90:Nat) [AV.bool (decide ((Z4b l) < 2)),AV.i (16:Int)] (AV.i (Z4m l))/\P0 (90:Nat) [AV.bool (decide ((Z4b l) > 16)),AV.i (5:Int)] (AV.i (Z4n l))/\P0 (44:Nat) [AV.sl (1:Nat) [[AV.i (Z4m l)],[AV.i (Z4n l)]]]
  (AV.i (sFirst (Z4f l)))/\((sFirst (Z4f l) != 0)=true->AV.i (sFirst (Z4f l))=AV.i (Qd l))/\((sFirst (Z4f l) != 0)=false->(∃ (g:Nat),(Z4s g l)/\AS.mk [(Z4k l),(Z4j l),(Z4t l),((22:Nat),AV.i (0:Int))] [] (1
  : Nat)=AS.mk [(Z4k l),(Z4j l),(Z4t l),((22:Nat),AV.i (g:Int))] [] (1:Nat))/\∀ (g:Nat),(Z4s g l)->(decide ((g:Int) < (Z4b l))=true->(0:Int)<=(g:Int)/\(g:Int) < (Z4b l)/\AV.agg (Ji (Z4h l) (↑g :
  Int).toNat)=AV.agg (Z4l l g)/\(Z4d g)/\(Z4d g)/\(decide (Z4o g)=true->Jc ((g:Int)-1))/\(Z4d g)/\(Z4d g)/\(Z4d g)/\(decide (Z4o g)=true->(0:Int)<=QN (0:Int) ((g:Int)-1))/\(decide (Z4o g)=true →
  QN (0:Int) ((g:Int)-1) < (Z4b l))/\(Z4d g)/\(Z4d g)/\(Z4d g)/\(Z4d g)/\(Z4d g)/\P0 (122:Nat) [AV.agg (Z4l l g)] (AV.i (Z4i l g))/\Jd6 (decide (Z4o g)) (nth (Ji (Z4h l) (Z4q g).toNat) (0:Nat)=AV.i (l.getD
  (Z4q g).toNat default).t)/\P0 (90:Nat) [AV.bool (Z4e g l),AV.i (11:Int)] (AV.i (sWhen (Z4e g l) (11:Int)))/\P0 (44:Nat) [AV.sl (1:Nat) [[AV.i (Z4i l g)],[AV.i (sWhen (Z4e g l) (11:Int))]]] (AV.i (sFirst (Z4a l g)))
  /\ ((sFirst (Z4a l g) != 0)=true->AV.i (sFirst (Z4a l g))=AV.i (Qd l))/\((sFirst (Z4a l g) != 0)=false->Jc ((g:Int)+1)/\∃ (g':Nat),(g'<=(Z4h l).length/\∀ (k:Nat),k < g'->XS l k=(0:Int))/\(Z4h
  l).length-g' < (Z4h l).length-g/\AS.mk [(Z4k l),(Z4j l),(Z4t l),((22:Nat),AV.i ((g:Int)+1))] [] (1:Nat)=AS.mk [(Z4k l),(Z4j l),(Z4t l),((22:Nat),AV.i (g':Int))] [] (1:Nat)))/\(decide ((g:Int) <
  (Z4b l))=false->Jc ((Z4b l)-1)/\(0:Int)<=(Z4b l)-1/\(Z4b l)-1 < (Z4b l)/\(0:Int)<=0/\(0:Int) < (Z4b l)/\Jc ((Z4r l).t-(Z4p l).t)/\nth (Ji (Z4h l) ((Z4b l)-1).toNat) (0:Nat)=AV.i (Z4r l).t/\nth
  (Ji (Z4h l) (0:Nat)) (0:Nat)=AV.i (Z4p l).t/\P0 (90:Nat) [AV.bool (Z4g l),AV.i (14:Int)] (AV.i (sWhen (Z4g l) (14:Int)))/\AV.i (sWhen (Z4g l) (14:Int))=AV.i (Qd l))):=by
   delta Z4a Z4b Z4c Z4d Z4e Z4f Z4g Z4h Z4i Z4j Z4k Z4l Z4m Z4n Z4o Z4p Z4q Z4r Z4s Z4t
   repeat' (first | apply And.intro | intro _ | refine impB_iff.2 fun _=>?_)
   all_goals try first
    | exact c90 _ _
    | exact c122 _ _ _ _ _
    | exact c44 [_,_] (by simp)
    | assumption
    | (simp only[Ko,decide_eq_false_iff_not,Kb,QN,Jdj,Jc,Km,bne_iff_ne,ne_eq,beq_iff_eq,Ks,Int.natCast_add,Int.cast_ofNat_Int]at *;omega)
    | (show(_:Bool)=true;simp_all;done)
    | (rw[Jl _ (by simp only[Ko,decide_eq_false_iff_not,Kb,QN,Jdj,Jc,Km,bne_iff_ne,ne_eq,beq_iff_eq,Ks,Int.natCast_add,Int.cast_ofNat_Int]at *;omega)];rfl)
   . rename_i h;exact Xd (QY h)
   . exact⟨0,⟨by omega,by intros;omega⟩,rfl⟩
   . rename_i h g hg hd hne;exact Xd (VL (f:=XS l) h hd hg.2 hne)
   . rename_i h g hg hd hne;have:=Jm hd;exact⟨g+1,⟨this,Xn (f:=XS l) hg.2 hne⟩,by omega,rfl⟩
   all_goals (rename_i h g hg hd)
   all_goals have hn:=Jh4 (n:=(l.map Jg).length) h
   all_goals have hgn:=Jt hd hg.1
   all_goals have ht:=fun k (hk:k < g)=>Jis (hg.2 k hk)
   all_goals have h1:=ht (VM (l.map Jg).length) (by unfold VM;omega)
   all_goals have h2:=ht 0 (by omega)
   all_goals unfold VM at h1
   all_goals first
    | omega
    | (simp only[Int.toNat_zero];omega)
    | (rw[Jl _ (by rw[Kb]at hn;simp only[Kb];omega)];rfl)
    | exact congrArg (fun r=>nth r 0) (Jl Jg (i:=0) (by rw[Kb]at hn;omega))
    | exact Xd (Ul h hd hg.1 hg.2)
 exact Jw Tryz.f107 (mkB spA 107 [(6,2,WT [rdL 5 Jg l 5 true]),(7,0,WT [rdL 5 Jg l 5 true]),(7,6,WT [rdL 5 Jg l 1 false]),(7,13,WT [rdL 5 Jg l 1 false]),(11,6,WT [rdL 5 Jg l 1 false]),(11,10,WT [rdL 5 Jg l 1 false])] (fun i=>if i.beq 0 then some (la76 l)else none)) key (by kernel_rfl)
def la33(l:List Fx):LA:={
 pre:=[.keep [0,4] [],.bound 1],post:=[.keep [0,4] [],.bound 1]
 Gh:=Nat
 st:=fun i=>⟨[(0,.sl 5 (l.map Jg)),(4,.i i)],[],1⟩
 ok:=fun i=>i<=(l.map Jg).length/\∀ k,k < i->Xu l k=0
 ms:=fun i=>(l.map Jg).length-i }
abbrev Z5d(l:List Fx)(g:Nat):=l.getD (g:Int).toNat default
abbrev Z5k(l:List Fx)(g:Nat):=Ja (Z5d l g).t (0:Int) (100000000:Int)
abbrev Z5q(l:List Fx)(g:Nat):=JO (Z5d l g).x (Z5d l g).y (Z5d l g).z
abbrev Z5i(g:Nat):=(g:Int) > 0
abbrev Z5p(g:Nat):=QN (0:Int) ((g:Int)-1)
abbrev Z5e(g:Nat)(l:List Fx):=if decide (Z5i g)=true then decide ((Z5d l g).t<=(l.getD (Z5p g).toNat default).t)else false
abbrev Z5a(l:List Fx)(g:Nat):=[hdI [AV.i (Z5k l g)],hdI [AV.i (Z5q l g)],hdI [AV.i (JN (Z5d l g).p)],hdI [AV.i (sWhen (Z5e g l) (11:Int))]]
abbrev Z5h(l:List Fx):=List.map Jg l
abbrev Z5b(l:List Fx):=((Z5h l).length:Int)
abbrev Z5c(g:Nat):=decide (Z5i g)=true->decide (Z5i g)=true
abbrev Z5l(l:List Fx):=sWhen (decide ((Z5b l) < 2)) (16:Int)
abbrev Z5m(l:List Fx):=sWhen (decide ((Z5b l) > 16)) (5:Int)
abbrev Z5f(l:List Fx):=[hdI [AV.i (Z5l l)],hdI [AV.i (Z5m l)]]
abbrev Z5r(l:List Fx):=l.getD ((Z5b l)-1).toNat default
abbrev Z5n(l:List Fx):=l.getD (Int.toNat (0:Int)) default
abbrev Z5g(l:List Fx):=decide ((Z5r l).t-(Z5n l).t > 1000)
abbrev Z5j(l:List Fx):=((0:Nat),AV.sl (5:Nat) (Z5h l))
abbrev Z5o(l:List Fx)(g:Nat):=Ji (Z5h l) (g:Int).toNat
abbrev Z5s(g:Nat)(l:List Fx):=(g<=(Z5h l).length/\∀ (k:Nat),k < g->Xu l k=(0:Int))
theorem c57(l:List Fx)(hl:(l.map Jg).length<=1000000):P0 57 [.sl 5 (l.map Jg)] (.i (QO l)):=by
 have key :
  P0 (53:Nat) [AV.bool (decide ((Z5b l) < 2)),AV.i (16:Int)] (AV.i (Z5l l))/\P0 (53:Nat) [AV.bool (decide ((Z5b l) > 16)),AV.i (5:Int)] (AV.i (Z5m l))/\P0 (51:Nat) [AV.sl (1:Nat) [[AV.i (Z5l l)],[AV.i (Z5m l)]]]
  (AV.i (sFirst (Z5f l)))/\((sFirst (Z5f l) != 0)=true->AV.i (sFirst (Z5f l))=AV.i (QO l))/\((sFirst (Z5f l) != 0)=false->(∃ (g:Nat),(Z5s g l)/\AS.mk [(Z5j l),((4:Nat),AV.i (0:Int))] [] (1:Nat)=AS.mk
  [(Z5j l),((4:Nat),AV.i (g:Int))] [] (1:Nat))/\∀ (g:Nat),(Z5s g l)->(decide ((g:Int) < (Z5b l))=true->(0:Int)<=(g:Int)/\(g:Int) < (Z5b l)/\(0:Int)<=(g:Int)/\(g:Int) < (Z5b l)/\(0:Int) ≤
  (g:Int)/\(g:Int) < (Z5b l)/\(Z5c g)/\(Z5c g)/\(decide (Z5i g)=true->(0:Int)<=(g:Int))/\(decide (Z5i g)=true->(g:Int) < (Z5b l))/\(Z5c g)/\(Z5c g)/\(Z5c g)/\(decide (Z5i g)=true->Jc ((g:Int) -
  1))/\(Z5c g)/\(Z5c g)/\(Z5c g)/\(decide (Z5i g)=true->(0:Int)<=QN (0:Int) ((g:Int)-1))/\(decide (Z5i g)=true->QN (0:Int) ((g:Int)-1) < (Z5b l))/\(Z5c g)/\(Z5c g)/\(Z5c g)/\(Z5c g)/\(Z5c g)/\nth
  (Z5o l g) (0:Nat)=AV.i (Z5d l g).t/\P0 (102:Nat) [AV.i (Z5d l g).t] (AV.i (Z5k l g))/\AV.agg (List.take (3:Nat) (List.drop (1:Nat) (Z5o l g)))=AV.agg [AV.i (Z5d l g).x,AV.i (Z5d l g).y,AV.i (Z5d l g).z]/\P0 (23 :
  Nat) [AV.agg [AV.i (Z5d l g).x,AV.i (Z5d l g).y,AV.i (Z5d l g).z]] (AV.i (Z5q l g))/\nth (Z5o l g) (4:Nat)=AV.i (Z5d l g).p/\P0 (103:Nat) [AV.i (Z5d l g).p] (AV.i (JN (Z5d l g).p))/\Jd6 (decide (Z5i g)) (nth (Z5o l
  g) (0:Nat)=AV.i (Z5d l g).t)/\Jd6 (decide (Z5i g)) (nth (Ji (Z5h l) (Z5p g).toNat) (0:Nat)=AV.i (l.getD (Z5p g).toNat default).t)/\P0 (53:Nat) [AV.bool (Z5e g l),AV.i (11:Int)] (AV.i (sWhen (Z5e g l) (11:Int)))
  /\ P0 (51:Nat) [AV.sl (1:Nat) [[AV.i (Z5k l g)],[AV.i (Z5q l g)],[AV.i (JN (Z5d l g).p)],[AV.i (sWhen (Z5e g l) (11:Int))]]] (AV.i (sFirst (Z5a l g)))/\((sFirst (Z5a l g) != 0)=true->AV.i (sFirst (Z5a l g))=AV.i
  (QO l))/\((sFirst (Z5a l g) != 0)=false->Jc ((g:Int)+1)/\∃ (g':Nat),(g'<=(Z5h l).length/\∀ (k:Nat),k < g'->Xu l k=(0:Int))/\(Z5h l).length-g' < (Z5h l).length-g/\AS.mk [(Z5j l),((4:Nat),
  AV.i ((g:Int)+1))] [] (1:Nat)=AS.mk [(Z5j l),((4:Nat),AV.i (g':Int))] [] (1:Nat)))/\(decide ((g:Int) < (Z5b l))=false->Jc ((Z5b l)-1)/\(0:Int)<=(Z5b l)-1/\(Z5b l)-1 < (Z5b l)/\(0:Int)<=0 /\
  (0:Int) < (Z5b l)/\Jc ((Z5r l).t-(Z5n l).t)/\nth (Ji (Z5h l) ((Z5b l)-1).toNat) (0:Nat)=AV.i (Z5r l).t/\nth (Ji (Z5h l) (0:Nat)) (0:Nat)=AV.i (Z5n l).t/\P0 (53:Nat) [AV.bool (Z5g l),AV.i (14:Int)]
  (AV.i (sWhen (Z5g l) (14:Int)))/\AV.i (sWhen (Z5g l) (14:Int))=AV.i (QO l))):=by
   delta Z5a Z5b Z5c Z5d Z5e Z5f Z5g Z5h Z5i Z5j Z5k Z5l Z5m Z5n Z5o Z5p Z5q Z5r Z5s
   repeat' (first | apply And.intro | intro _ | refine impB_iff.2 fun _=>?_)
   all_goals try first
    | exact c53 _ _
    | exact c102 _
    | exact c23 _ _ _
    | exact c103 _
    | exact c51 [_,_] (by simp)
    | exact c51 [_,_,_,_] (by simp)
    | assumption
    | (simp only[Ko,decide_eq_false_iff_not,Kb,QN,Jdj,Jc,Km,bne_iff_ne,ne_eq,beq_iff_eq,Ks,Int.natCast_add,Int.cast_ofNat_Int]at *;omega)
    | (show(_:Bool)=true;simp_all;done)
    | (rw[Jl _ (by simp only[Ko,decide_eq_false_iff_not,Kb,QN,Jdj,Jc,Km,bne_iff_ne,ne_eq,beq_iff_eq,Ks,Int.natCast_add,Int.cast_ofNat_Int]at *;omega)];rfl)
   . rename_i h;exact Xd (QY h)
   . exact⟨0,⟨by omega,by intros;omega⟩,rfl⟩
   . rename_i h g hg hd hne;exact Xd (VL (f:=Xu l) h hd hg.2 hne)
   . rename_i h g hg hd hne;have:=Jm hd;exact⟨g+1,⟨this,Xn (f:=Xu l) hg.2 hne⟩,by omega,rfl⟩
   all_goals (rename_i h g hg hd)
   all_goals have hn:=Jh4 (n:=(l.map Jg).length) h
   all_goals have hgn:=Jt hd hg.1
   all_goals have ht:=fun k (hk:k < g)=>Jit (hg.2 k hk)
   all_goals have h1:=ht (VM (l.map Jg).length) (by unfold VM;omega)
   all_goals have h2:=ht 0 (by omega)
   all_goals unfold VM at h1
   all_goals first
    | omega
    | (simp only[Int.toNat_zero];omega)
    | (rw[Jl _ (by rw[Kb]at hn;simp only[Kb];omega)];rfl)
    | exact congrArg (fun r=>nth r 0) (Jl Jg (i:=0) (by rw[Kb]at hn;omega))
    | exact Xd (Ul h hd hg.1 hg.2)
 exact Jw Tryz.f57 (mkB spA 57 [(7,4,WT [rdL 5 Jg l 1 false]),(7,10,WT [rdL 5 Jg l 3 true]),(7,16,WT [rdL 5 Jg l 1 false]),(7,25,WT [rdL 5 Jg l 1 false]),(7,32,WT [rdL 5 Jg l 1 false]),(10,6,WT [rdL 5 Jg l 1 false]),(10,10,WT [rdL 5 Jg l 1 false])] (fun i=>if i.beq 0 then some (la33 l)else none)) key (by kernel_rfl)
def Jo(a b p w:Int):Int:=a+Qb ((b-a) * p) w
theorem JW{x y A B:Int}(h1 : -A<=x)(h2:x<=A)(h3 : -B<=y)(h4:y<=B) : -(A * B)<=x * y/\x * y<=A * B:=by
 have hx:x.natAbs<=A.natAbs:=by omega
 have hy:y.natAbs<=B.natAbs:=by omega
 have:=Nat.mul_le_mul hx hy
 rw[<- Int.natAbs_mul,<- Int.natAbs_mul]at this
 have hA:0<=A * B:=Int.mul_nonneg (by omega) (by omega)
 omega
theorem JkJ{n d:Int}(hd:0 < d)(h1 : -2000000000000000000<=n)(h2:n<=2000000000000000000) :
 Jc (n.tdiv d)/\Jc (n.tdiv d * d)/\Jc (n.tdiv d-1) /\ -2000000000000000001<=Qb n d/\Qb n d<=2000000000000000000:=by
 have e:=Int.mul_tdiv_add_tmod n d
 have e2:n.tdiv d * d=d * n.tdiv d:=Int.mul_comm _ _
 have h3:n.tmod d < d:=Int.tmod_lt_of_pos n hd
 have h4 : -d < n.tmod d:=by
  have:=Int.tmod_lt_of_pos (-n) hd
  rw[Int.neg_tmod]at this
  omega
 have h5:(n.tdiv d).natAbs<=n.natAbs:=by rw[Int.natAbs_tdiv];exact Nat.div_le_self _ _
 have h6:(n.tmod d).natAbs<=n.natAbs:=by rw[Int.natAbs_tmod];exact Nat.mod_le _ _
 unfold Jc Qb
 refine⟨by omega,by omega,by omega,?_⟩
 split <;> omega
def spC:Nat->List AV->Option AV
 | 96,[.int _ a,.int _ b,.int _ p,.int _ w]=>some (.i (Jo a b p w))
 | 1097,[.int _ a,.int _ b,.int _ p,.int _ w]=>some (.i (Jo a b p w))
 | n,l=>spB n l
structure BetOK(a b p w:Int):Prop where
 a1 : -1000000000<=a
 a2:a<=1000000000
 b1 : -1000000000<=b-a
 b2:b-a<=1000000000
 p1 : -1000000000<=p
 p2:p<=1000000000
 w:0 < w
theorem c96(a b p w:Int)(h:BetOK a b p w):P0 96 [.i a,.i b,.i p,.i w] (.i (Jo a b p w)):=by
 have key :
  Jc (b-a)/\Jc ((b-a) * p)/\Jc (a+Qb ((b-a) * p) w)/\P0 (116:Nat) [AV.i ((b-a) * p),AV.i w] (AV.i (Qb ((b-a) * p) w))/\AV.i (a +
  Qb ((b-a) * p) w)=AV.i (Jo a b p w):=by
   have hm:=JW h.b1 h.b2 h.p1 h.p2
   have hf:=JkJ (n:=(b-a) * p) h.w (by omega) (by omega)
   have ha1:=h.a1
   have ha2:=h.a2
   have hb1:=h.b1
   have hb2:=h.b2
   exact⟨by unfold Jc;omega,by unfold Jc;omega,by unfold Jc;omega,c116 _ _ (by have:=h.w;omega) hf.1 hf.2.1 hf.2.2.1,rfl⟩
 exact Jw Tryz.f96 (mkB spC 96 [] J1) key (by kernel_rfl)
def JlL(p:List St)(along:Int):Nat->Nat->St
 | 0,_=>p.getD (VM (p.map Jiw).length) default
 | n+1,i=>if decide (along < (p.getD (i+1) default).a)=true then
  ⟨along,Jo (p.getD i default).h (p.getD (i+1) default).h (along-(p.getD i default).a) ((p.getD (i+1) default).a-(p.getD i default).a),
   Jo (p.getD i default).p (p.getD (i+1) default).p (along-(p.getD i default).a) ((p.getD (i+1) default).a-(p.getD i default).a)⟩else JlL p along n (i+1)
def sStep(p:List St)(along:Int):St:=JlL p along ((p.map Jiw).length-1) 0
structure ProcOK(l:List St):Prop where
 n1:2<=l.length
 n2:l.length<=8
 b:∀ i,i < l.length->0<=(l.getD i default).a/\(l.getD i default).a<=400000/\0<=(l.getD i default).h/\(l.getD i default).h<=20000/\1<=(l.getD i default).p/\(l.getD i default).p<=100
 s:∀ i,i+1 < l.length->(l.getD i default).a < (l.getD (i+1) default).a
 z:(l.getD 0 default).a=0
theorem QG{α:Type}[Inhabited α](enc:α->List AV){l:List α}{g:Nat}(h:g < l.length):(l.take g).map enc++[enc (l.getD g default)]=(l.take (g+1)).map enc:=by
 rw[List.take_add_one,K8]
 simp[List.getD_eq_getElem?_getD,h]
def la24(l:List Fx):LA:={
 pre:=[.own 3 67 5,.keep [0,3,6,7,8] [6],.bound 7],post:=[.ren 6 15,.keep [0,3,6,7,8] [6],.bound 7]
 Gh:=Nat
 st:=fun i=>⟨[(0,.sl 5 (l.map Jg)),(3,.own 6 ((l.take i).map Jg).length),(6,.sl 5 (l.map Jg)),(7,.i (l.map Jg).length),(8,.i i)],[(6,.buf 67 5 ((l.take i).map Jg))],7⟩
 ok:=fun i=>i<=(l.map Jg).length
 ms:=fun i=>(l.map Jg).length-i }
def Jh(x:Int):List AV:=[.i x]
def JjT(f:An->An):Nat->List An->List An
 | 0,[]=>[f {}]
 | 0,a::l=>f a::l
 | n+1,[]=>{}::JjT f n []
 | n+1,a::l=>a::JjT f n l
def Jcl(r k:Nat)(B:BA):BA:={ B with ra:=fun i=>if i.beq r then { B.ra i with ans:=JjT (fun a=>{ a with nw:=false }) k (B.ra i).ans }else B.ra i }
def Ql(l:List Int)(m:Int):Int:=sFirst (l.map fun x=>Ja x 0 m)
def JA(n m:Int):Int:=sFirst [sWhen (n == 0) 12,sWhen (decide (n > m)) 5]
def sumW(l:List Int):Nat->Int
 | 0=>0
 | i+1=>IntKind.i64.wrap (sumW l i+l.getD i default)
def sDir(x y:Int):Int:=sFirst [Ja x (-200000) 200000,Ja y (-200000) 200000]
theorem Jx{α β:Type}[Inhabited α](enc:β->List AV)(f:α->β){l:List α}{g:Nat}(h:g < l.length):((l.take g).map f).map enc++[enc (f (l.getD g default))]=((l.take (g+1)).map f).map enc:=by
 rw[List.take_add_one,K8,K8]
 simp[List.getD_eq_getElem?_getD,h]
theorem Q4:∀ (l:List Int),sFirst (l++[0])=sFirst l
 | []=>by simp[sFirst]
 | x::l=>by
  rw[List.cons_append]
  simp only[sFirst]
  rw[Q4 l]
theorem WP(f:Int->Int)(l:List Int):JC (fun i=>f (l.getD i default)) l.length 0=sFirst (l.map f):=by
 unfold JC
 rw[Q4]
 congr 1
 refine List.ext_getElem (by simp) fun i h1 h2=>?_
 simp only[List.getElem_map,List.getElem_range]
 rw[Ka,Kj (by simpa using h1)]
 rfl
def spP:Nat->List AV->Option AV
 | 1169,[.bool b,.int _ e]=>some (.i (sWhen b e))
 | 1151,[.int _ x,.int _ lo,.int _ hi]=>some (.i (Ja x lo hi))
 | 115,[.int _ x,.elt _ [[.int _ m]] _ _]=>some (.i (Ja x 0 m))
 | 1115,[.agg [.int _ x,.int _ y]]=>some (.i (sDir x y))
 | 1046,[.agg [.int _ x,.int _ y]]=>some (.i (sDir x y))
 | 1045,[.int _ x]=>some (.i (Ja x 0 100000000000))
 | 91,[.int _ n,.int _ m]=>some (.i (JA n m))
 | n,x=>spC n x
theorem c91(n m:Int) :P0 91 [.i n,.i m] (.i (JA n m)):=by
 have key :
  P0 90 [AV.bool (n == 0),AV.i 12] (AV.i (sWhen (n == 0) (12:Int)))/\P0 90 [AV.bool (decide (n > m)),AV.i 5] (AV.i (sWhen (decide (n > m)) (5:Int)))/\P0 44 [AV.sl 1 [[AV.i
  (sWhen (n == 0) (12:Int))],[AV.i (sWhen (decide (n > m)) (5:Int))]]] (AV.i (sFirst [hdI [AV.i (sWhen (n == 0) (12:Int))],hdI [AV.i (sWhen (decide (n > m)) (5:Int))]]))/\AV.i (sFirst [hdI [AV.i (sWhen (n == 0) (12 :
  Int))],hdI [AV.i (sWhen (decide (n > m)) (5:Int))]])=AV.i (JA n m):=by
   exact⟨c90 _ _,c90 _ _,c44 [_,_] (by simp),rfl⟩
 exact Jw Tryz.f91 (mkB spP 91 [] J1) key (by kernel_rfl)
theorem c115(x m:Int) :P0 115 [.i x,.elt 1 [[.i m]] 0 0] (.i (Ja x 0 m)):=by
 have key :
  P0 47 [AV.i x,AV.i 0,AV.i m] (AV.i (Ja x (0:Int) m))/\AV.i (Ja x (0:Int) m)=AV.i (Ja x (0:Int) m):=by
   exact⟨c47 _ _ _,rfl⟩
 exact Jw Tryz.f115 (mkB spP 115 [] J1) key (by kernel_rfl)
def la152(l:List Int)(m:Int):LA:={
 pre:=[.own 5 44 1,.reno 5 1,.keep [1,5,8,9,10] [1],.bound 2],post:=[.reno 5 1,.keep [1,5,8,9,10] [1],.bound 2]
 Gh:=Nat
 st:=fun i=>⟨[(1,.fn (.func 115) [] [.elt 1 [[.i m]] 0 0]),(5,.own 1 (((l.take i).map fun x=>Ja x 0 m).map Jh).length),(8,.sl 1 (l.map Jh)),(9,.i (l.map Jh).length),(10,.i i)],[(1,.buf 44 1 (((l.take i).map fun x=>Ja x 0 m).map Jh))],2⟩
 ok:=fun i=>i<=(l.map Jh).length
 ms:=fun i=>(l.map Jh).length-i }
abbrev Z6a(m:Int)(g:Nat)(l:List Int):=List.map Jh (List.map (fun(x:Int)=>Ja x (0:Int) m) (List.take g l))
abbrev Z6c(l:List Int):=List.map Jh l
abbrev Z6b(l:List Int):=((Z6c l).length:Int)
abbrev Z6d(l:List Int)(g:Nat):=l.getD (g:Int).toNat default
abbrev Z6e(m:Int):=[AV.elt 1 [[AV.i m]] 0 0]
theorem c114(l:List Int)(m:Int)(hl:l.length<=1000):P0 114 [.sl 1 (l.map Jh),.fn (.func 115) [] [.elt 1 [[.i m]] 0 0]] (.fresh 44 1 ((l.map fun x=>Ja x 0 m).map Jh)):=by
 have key :
  (∃ (g:Nat),g<=(Z6c l).length/\AS.mk [(1,AV.fn (Fn.func 115) [] (Z6e m)),(5,AV.own 1 0),(8,AV.sl 1 (Z6c l)),(9,AV.i (Z6b l)),(10,AV.i 0)] [(1,ABlk.buf 44 1 [])] 2=AS.mk [(1,AV.fn (Fn.func 115) [] (Z6e m)),(5,
  AV.own 1 (Z6a m g l).length),(8,AV.sl 1 (Z6c l)),(9,AV.i (Z6b l)),(10,AV.i (g:Int))] [(1,ABlk.buf 44 1 (Z6a m g l))] 2)/\∀ (g:Nat),g<=(Z6c l).length->(decide ((g:Int) < (Z6b l))=true->(0:Int)<=(g:Int) /\
  (g:Int) < (Z6b l)/\nth (Ji (Z6c l) (g:Int).toNat) 0=AV.i (Z6d l g)/\(Z6a m g l).length+1<=9223372036854775807/\((Z6a m g l).length+1) * 8<=140737488355328/\P0 115 [AV.i (Z6d l g),AV.elt 1 [[AV.i m]] 0 0] (AV.i
  (Ja (Z6d l g) (0:Int) m))/\Jc ((g:Int)+1)/\∃ (g':Nat),g'<=(Z6c l).length/\(Z6c l).length-g' < (Z6c l).length-g/\AS.mk [(1,AV.fn (Fn.func 115) [] (Z6e m)),(5,AV.own 1 ((Z6a m g l).length+1)),(8,AV.sl
  1 (Z6c l)),(9,AV.i (Z6b l)),(10,AV.i ((g:Int)+1))] [(1,ABlk.buf 44 1 (List.map Jh (List.map (fun(x:Int)=>Ja x (0:Int) m) (List.take g l))++[[AV.i (Ja (Z6d l g) (0:Int) m)]]))] 2=AS.mk [(1,AV.fn
  (Fn.func 115) [] (Z6e m)),(5,AV.own 1 (List.map Jh (List.map (fun(x:Int)=>Ja x (0:Int) m) (List.take g' l))).length),(8,AV.sl 1 (Z6c l)),(9,AV.i (Z6b l)),(10,AV.i (g':Int))] [(1,ABlk.buf 44 1 (List.map
  Jh (List.map (fun(x:Int)=>Ja x (0:Int) m) (List.take g' l))))] 2)/\(decide ((g:Int) < (Z6b l))=false->AV.fresh 44 1 (Z6a m g l)=AV.fresh 44 1 (List.map Jh (List.map (fun(x:Int)=>Ja x (0:Int) m)
  l))):=by
   delta Z6a Z6b Z6c Z6d Z6e
   simp only[Kb]
   refine⟨⟨0,by omega,rfl⟩,fun g hg=>⟨fun hd=>?_,fun hd=>?_⟩⟩
   . have hlt:=Jm hd
     simp only[Km]
     refine⟨by omega,by omega,by rw[Jl _ hlt];rfl,by rw[Kg];omega,by rw[Kg];omega,c115 _ _,by unfold Jc;omega,g+1,hlt,by omega,?_⟩
     have h2:=Jx Jh (fun x=>Ja x 0 m) hlt
     simp only[Jh]at h2
     rw[show(l.take g).length+1=(l.take (g+1)).length by simp only[Kg];omega,h2]
     rfl
   rw[Jt hd hg,Kw]
 exact Jw Tryz.f114 (mkB spP 114 [(4,1,WT [rdL 1 Jh l 1 false])] (fun i=>if i.beq 0 then some (la152 l m)else none)) key (by kernel_rfl)
def la121(l:List Int):LA:={
 pre:=[.keep [3,6,7,8] [],.bound 1],post:=[.keep [3,6,7,8] [],.bound 1]
 Gh:=Nat
 st:=fun i=>⟨[(3,.i (sumW l i)),(6,.sl 1 (l.map Jh)),(7,.i (l.map Jh).length),(8,.i i)],[],1⟩
 ok:=fun i=>i<=(l.map Jh).length
 ms:=fun i=>(l.map Jh).length-i }
abbrev Z7b(l:List Int):=List.map Jh l
abbrev Z7a(l:List Int):=((Z7b l).length:Int)
theorem c37(l:List Int)(hl:l.length<=1000000):P0 37 [.sl 1 (l.map Jh)] (.i (sumW l l.length)):=by
 have key :
  (∃ (g:Nat),g<=(Z7b l).length/\AS.mk [(3,AV.i 0),(6,AV.sl 1 (Z7b l)),(7,AV.i (Z7a l)),(8,AV.i 0)] [] 1=AS.mk [(3,AV.i (sumW l g)),(6,AV.sl 1 (Z7b l)),(7,AV.i (Z7a l)),(8,AV.i (g:Int))] [] 1)/\∀ (g:Nat),g
  ≤ (Z7b l).length->(decide ((g:Int) < (Z7a l))=true->(0:Int)<=(g:Int)/\(g:Int) < (Z7a l)/\nth (Ji (Z7b l) (g:Int).toNat) 0=AV.i (l.getD (g:Int).toNat default)/\Jc ((g:Int)+1)/\∃ (g':Nat),g' ≤
  (Z7b l).length/\(Z7b l).length-g' < (Z7b l).length-g/\AS.mk [(3,AV.i (IntKind.i64.wrap (sumW l g+l.getD (g:Int).toNat default))),(6,AV.sl 1 (Z7b l)),(7,AV.i (Z7a l)),(8,AV.i ((g:Int)+1))] [] 1=AS.mk [(3,
  AV.i (sumW l g')),(6,AV.sl 1 (Z7b l)),(7,AV.i (Z7a l)),(8,AV.i (g':Int))] [] 1)/\(decide ((g:Int) < (Z7a l))=false->AV.i (sumW l g)=AV.i (sumW l l.length)):=by
   delta Z7a Z7b
   simp only[Kb]
   refine⟨⟨0,by omega,rfl⟩,fun g hg=>⟨fun hd=>?_,fun hd=>?_⟩⟩
   . have hlt:=Jm hd
     simp only[Km]
     exact⟨by omega,by omega,by rw[Jl _ hlt];rfl,by unfold Jc;omega,g+1,hlt,by omega,rfl⟩
   rw[Jt hd hg]
 exact Jw Tryz.f37 (Jcl 5 2 (mkB spP 37 [(4,1,WT [rdL 1 Jh l 1 false])] (fun i=>if i.beq 0 then some (la121 l)else none))) key (by kernel_rfl)
def JnS(l:List Int)(lo hi:Int):LA:={
 pre:=[.keep [0,1,2,7] [],.bound 1],post:=[.keep [0,1,2,7] [],.bound 1]
 Gh:=Nat
 st:=fun i=>⟨[(0,.sl 1 (l.map Jh)),(1,.i lo),(2,.i hi),(7,.i i)],[],1⟩
 ok:=fun i=>i<=(l.map Jh).length/\∀ k,k < i->Ja (l.getD k default) lo hi=0
 ms:=fun i=>(l.map Jh).length-i }
abbrev Z8a(l:List Int)(g:Nat):=l.getD (g:Int).toNat default
abbrev Z8b(l:List Int):=List.map Jh l
theorem c98(l:List Int)(lo hi:Int)(hl:l.length<=1000000):P0 98 [.sl 1 (l.map Jh),.i lo,.i hi] (.i (sFirst (l.map fun x=>Ja x lo hi))):=by
 have key :
  (∃ (g:Nat),(g<=(Z8b l).length/\∀ (k:Nat),k < g->Ja (l.getD k default) lo hi=(0:Int))/\AS.mk [(0,AV.sl 1 (Z8b l)),(1,AV.i lo),(2,AV.i hi),(7,AV.i 0)] [] 1=AS.mk [(0,AV.sl 1 (Z8b l)),(1,AV.i lo),(2,
  AV.i hi),(7,AV.i (g:Int))] [] 1)/\∀ (g:Nat),(g<=(Z8b l).length/\∀ (k:Nat),k < g->Ja (l.getD k default) lo hi=(0:Int))->(decide ((g:Int) < ((Z8b l).length:Int))=true->(0:Int)<=(g:Int)/\(↑g :
  Int) < ((Z8b l).length:Int)/\nth (Ji (Z8b l) (g:Int).toNat) 0=AV.i (Z8a l g)/\P0 58 [AV.i (Z8a l g),AV.i lo,AV.i hi] (AV.i (Ja (Z8a l g) lo hi))/\((Ja (Z8a l g) lo hi != 0)=true->AV.i (Ja (Z8a l g)
  lo hi)=AV.i (sFirst (List.map (fun(x:Int)=>Ja x lo hi) l)))/\((Ja (Z8a l g) lo hi != 0)=false->Jc ((g:Int)+1)/\∃ (g':Nat),(g'<=(Z8b l).length/\∀ (k:Nat),k < g'->Ja (l.getD k default) lo hi
  = (0:Int))/\(Z8b l).length-g' < (Z8b l).length-g/\AS.mk [(0,AV.sl 1 (Z8b l)),(1,AV.i lo),(2,AV.i hi),(7,AV.i ((g:Int)+1))] [] 1=AS.mk [(0,AV.sl 1 (Z8b l)),(1,AV.i lo),(2,AV.i hi),(7,AV.i (g':Int))]
  [] 1))/\(decide ((g:Int) < ((Z8b l).length:Int))=false->AV.i 0=AV.i (sFirst (List.map (fun(x:Int)=>Ja x lo hi) l))):=by
   delta Z8a Z8b
   simp only[Kb]
   refine⟨⟨0,⟨by omega,by intros;omega⟩,rfl⟩,fun g hg=>⟨fun hd=>?_,fun hd=>?_⟩⟩
   . have hlt:=Jm hd
     simp only[Km]
     refine⟨by omega,by omega,by rw[Jl _ hlt];rfl,c58 _ _ _,fun hne=>?_,fun hz=>⟨by unfold Jc;omega,g+1,⟨hlt,Xn (f:=fun k=>Ja (l.getD k default) lo hi) hg.2 hz⟩,by omega,rfl⟩⟩
     rw[<- WP,J4 hlt hg.2 (Uv hne)]
   rw[<- WP,scan_end]
   exact fun k hk=>hg.2 k (by rw[Jt hd hg.1];exact hk)
 exact Jw Tryz.f98 (mkB spP 98 [(4,3,WT [rdL 1 Jh l 1 false])] (fun i=>if i.beq 0 then some (JnS l lo hi)else none)) key (by kernel_rfl)
def Jm6(l:List Int)(m:Int):Nat->List AV->Option AV
 | 114,_=>some (.sl 1 ((l.map fun x=>Ja x 0 m).map Jh))
 | 44,_=>some (.i (Ql l m))
 | _,_=>none
theorem c92(l:List Int)(m:Int)(hl:l.length<=1000):P0 92 [.sl 1 (l.map Jh),.i m] (.i (Ql l m)):=by
 have key :
  P0 114 [AV.sl 1 (List.map Jh l),AV.fn (Fn.func 115) [] [AV.elt 1 [[AV.i m]] 0 0]] (AV.sl 1 (List.map Jh (List.map (fun(x:Int)=>Ja x (0:Int) m) l)))/\P0 44 [AV.sl 1 (List.map Jh
  (List.map (fun(x:Int)=>Ja x (0:Int) m) l))] (AV.i (Ql l m))/\AV.i (Ql l m)=AV.i (Ql l m):=by
   exact⟨(c114 l m hl).un,c44 (l.map fun x=>Ja x 0 m) (by simp;omega),rfl⟩
 exact Jw Tryz.f92 (mkB (Jm6 l m) 92 [] J1) key (by kernel_rfl)
theorem c129(x y z:Int)(h1:Jc (x * x))(h2:Jc (y * y))(h3:Jc (x * x+y * y))(h4:Jc (z * z)):P0 129 [.agg [.i x,.i y,.i z]] (.agg [.i (x * x+y * y),.i (z * z)]):=by
 have key :
  Jc (x * x)/\Jc (y * y)/\Jc (x * x+y * y)/\Jc (z * z)/\AV.agg [AV.i (x * x+y * y),AV.i (z * z)]=AV.agg [AV.i (x * x+y * y),AV.i (z * z)]:=by
   exact⟨h1,h2,h3,h4,rfl⟩
 exact Jw Tryz.f129 (mkB spP 129 [] J1) key (by kernel_rfl)
theorem c128(x y z p q r:Int)(h1:Jc (x-p))(h2:Jc (y-q))(h3:Jc (z-r)):P0 128 [.agg [.i x,.i y,.i z],.agg [.i p,.i q,.i r]] (.agg [.i (x-p),.i (y-q),.i (z-r)]):=by
 have key :
  Jc (x-p)/\Jc (y-q)/\Jc (z-r)/\AV.agg [AV.i (x-p),AV.i (y-q),AV.i (z-r)]=AV.agg [AV.i (x-p),AV.i (y-q),AV.i (z-r)]:=by
   exact⟨h1,h2,h3,rfl⟩
 exact Jw Tryz.f128 (mkB spP 128 [] J1) key (by kernel_rfl)
theorem Jag{c:UInt8}(r:List UInt8)(h:c.toNat < 128):dec (c::r)=(c.toNat,1):=by
 unfold dec Utf8.decode
 have:(({ data:=(c::r).toArray }:ByteArray).get! (0+0)).toNat=c.toNat:=rfl
 simp only[this]
 rw[if_pos (by simpa using h)]
theorem Jef{c:UInt8}(r:List UInt8)(h:¬ c.toNat < 128):128<=(dec (c::r)).1:=by
 unfold dec Utf8.decode
 have:(({ data:=(c::r).toArray }:ByteArray).get! (0+0)).toNat=c.toNat:=rfl
 simp only[this]
 rw[if_neg (by simpa using h)]
 repeat' split
 all_goals first
  | (simp only[Kd,Ko]at *;omega)
  | omega
  | (show 128<=Utf8.runeError;decide)
def Jd3(c:Nat):Bool:=decide (97<=c/\c<=122) || decide (65<=c/\c<=90)
def okB(first:Bool)(c:Nat):Bool:=Jd3 c || (!first && (decide (c=95) || decide (48<=c/\c<=57)))
def XT(s:List UInt8)(n:Nat):Bool:=(List.range n).all fun i=>okB (i == 0) (s.getD i 0).toNat
def sName(s:List UInt8):Bool:=XT s s.length && (!(s == []) && decide (s.length<=24))
def JgD(ts ids:List Nat)(n t:Nat)(f:AS->AV):AS->AS:=fun S=>⟨VE ((t,f S)::Vu t S.s) ts,VE S.b ids,n⟩
def onI(x:Option AV)(f:Int->AV):AV:=match x with
 | some (.int _ n)=>f n
 | _=>.any
def Jq(n:Int):Bool:=decide (97<=n/\n<=122) || decide (65<=n/\n<=90)
def Jz(n:Int):Bool:=decide (48<=n/\n<=57) || decide (n=95)
theorem Ux{s:List UInt8}{g:Nat}(h:g < s.length)(hf:okB (g == 0) (s.getD g 0).toNat=false):sName s=false:=by
 have:XT s s.length=false:=List.all_eq_false.2 ⟨g,by simpa using h,by rw[hf];decide⟩
 rw[sName,this]
 rfl
theorem Uw{s:List UInt8}{g:Nat}(ha:XT s g=true)(hf:okB (g == 0) (s.getD g 0).toNat=true):XT s (g+1)=true:=by
 unfold XT at ha ⊢
 rw[List.range_succ,List.all_append,ha]
 simp only[List.all_cons,List.all_nil,hf,Bool.and_self]
theorem JdR(b:Bool)(c:Nat):okB b c=(Jq (c:Int) || (!b && Jz (c:Int))):=by
 have e1:Jd3 c=Jq (c:Int):=by
  unfold Jd3 Jq
  congr 1 <;> (apply decide_eq_decide.2;omega)
 have e2:(decide (c=95) || decide (48<=c/\c<=57))=Jz (c:Int):=by
  unfold Jz
  rw[Bool.or_comm]
  congr 1 <;> (apply decide_eq_decide.2;omega)
 rw[okB,e1,e2]
theorem WX(b:Bool){c:Nat}(h:128<=c):okB b c=false:=by
 rw[JdR]
 have e1:Jq (c:Int)=false:=by
  simp only[Jq,Bool.or_eq_false_iff,decide_eq_false_iff_not]
  omega
 have e2:Jz (c:Int)=false:=by
  simp only[Jz,Bool.or_eq_false_iff,decide_eq_false_iff_not]
  omega
 rw[e1,e2]
 simp
theorem Jiy(b:Bool)(c:UInt8)(r:List UInt8):okB b (dec (c::r)).1=okB b c.toNat/\(okB b c.toNat=true->(dec (c::r)).2=1):=by
 by_cases h:c.toNat < 128
 . rw[Jag r h]
   exact⟨rfl,fun _=>rfl⟩
 have h1:=WX b (Jef r h)
 have h2:=WX b (show 128<=c.toNat by omega)
 rw[h1,h2]
 exact⟨rfl,fun h=>by cases h⟩
def JnQ(s:List UInt8):LA:={
 pre:=[.keep [0,7] [3],.bound 4],post:=[.keep [0,7] [3],.bound 4]
 Gh:=Nat
 st:=fun i=>⟨[(0,.str s),(7,.ref 3)],[(3,.iter (s.drop i) i)],4⟩
 ok:=fun i=>i<=s.length/\XT s i=true
 ms:=fun i=>s.length-i
 it:=some 3 }
def B122(s:List UInt8):BA:={ mkB spP 88 [] (fun i=>if i.beq 0 then some (JnQ s)else none)with
 split:=fun i=>if i.beq 4 then 1 else if i.beq 5 then 1 else 0
 gs:=fun i=>if i.beq 4 then[.keep [0,3,4,5,7] [3],.bound 4]else if i.beq 5 then[.keep [0,3,4,5,7,43] [3],.bound 4]else[]
 cut:=fun i=>if i.beq 4 then some (JgD [0,3,4,5,7] [3] 4 5 fun S=>onI (Ju S 4) fun n=>.bool (Jq n))else none }
abbrev Z9a(c:UInt8)(r:List UInt8):=(↑(dec (c::r)).fst:Int)
abbrev Z9b(c:UInt8)(r:List UInt8)(g:Nat):=[(3,ABlk.iter (List.drop (dec (c::r)).snd (c::r)) (g+(dec (c::r)).snd))]
abbrev Z9c(s:List UInt8)(g:Nat)(c:UInt8)(r:List UInt8):=[(0,AV.str s),(3,AV.i (g:Int)),(4,AV.int IntKind.i32 (Z9a c r)),(5,AV.bool (Jq (Z9a c r))),(7,AV.ref 3)]
abbrev Z9d(s:List UInt8):=[(0,AV.str s),(7,AV.ref 3)]
abbrev Z9e:=false=true->false=true
abbrev Z9f(s:List UInt8):=(!s == [])=true->(!s == [])=true
abbrev Z9g(s:List UInt8)(g:Nat)(c:UInt8)(r:List UInt8):=(false=false->∃ (g':Nat),(g'<=s.length/\XT s g'=true)/\s.length-g' < s.length-g/\AS.mk (Z9d s) (Z9b c r g) 4=AS.mk (Z9d s) [(3,ABlk.iter (List.drop g' s) g')] 4)
abbrev Z9h(s:List UInt8)(g:Nat)(c:UInt8)(r:List UInt8):=(true=false->∃ (g':Nat),(g'<=s.length/\XT s g'=true)/\s.length-g' < s.length-g/\AS.mk (Z9d s) (Z9b c r g) 4=AS.mk (Z9d s) [(3,ABlk.iter (List.drop g' s) g')] 4)
abbrev Z9i:=true=false->false=true
abbrev Z9j(s:List UInt8)(g:Nat)(c:UInt8)(r:List UInt8):=[(0,AV.str s),(3,AV.i (g:Int)),(4,AV.int IntKind.i32 (Z9a c r)),(5,AV.bool (decide ((Z9a c r)<=90))),(7,AV.ref 3)]
abbrev Z9k(c:UInt8)(r:List UInt8):=decide ((Z9a c r)>=97)
abbrev Z9l(s:List UInt8):=if(!s == [])=true then decide ((s.length:Int)<=24)else false
abbrev Z9m(g:Nat):=(g:Int) == 0
abbrev Z9n(c:UInt8)(r:List UInt8):=AV.bool !Jq (Z9a c r)
abbrev Z9o(s:List UInt8)(g:Nat)(c:UInt8)(r:List UInt8):=[(0,AV.str s),(3,AV.i (g:Int)),(4,AV.int IntKind.i32 (Z9a c r)),(5,AV.bool false),(7,AV.ref 3)]
abbrev Z9p(s:List UInt8)(g:Nat)(c:UInt8)(r:List UInt8):=[(0,AV.str s),(3,AV.i (g:Int)),(4,AV.int IntKind.i32 (Z9a c r)),(5,AV.bool true),(7,AV.ref 3)]
theorem c88(s:List UInt8)(hs:s.length<=1000000):P0 88 [.str s] (.bool (sName s)):=by
 have key :
  (∃ (g:Nat),(g<=s.length/\XT s g=true)/\AS.mk (Z9d s) [(3,ABlk.iter s 0)] 4=AS.mk (Z9d s) [(3,ABlk.iter (List.drop g s) g)] 4)/\∀ (g:Nat),g<=s.length/\XT s g=true->(∀ (c:UInt8) (r:List UInt8),List.drop
  g s=c::r->(true=true->((decide ((Z9a c r)>=97)=true->(decide ((Z9a c r)<=122)=true->Z9i/\AV.bool (Z9k c r)=AV.bool true/\AV.bool (decide ((Z9a c r)<=122))=AV.bool true/\AS.mk (Z9p s g c r) (Z9b c r g) 4 =
  AS.mk (Z9c s g c r) (Z9b c r g) 4)/\(decide ((Z9a c r)<=122)=false->(decide ((Z9a c r)>=65)=true->AV.bool (Z9k c r)=AV.bool true/\AV.bool (decide ((Z9a c r)<=122))=AV.bool false/\AV.bool (decide ((Z9a c r)>=65)) =
  AV.bool true/\AS.mk (Z9j s g c r) (Z9b c r g) 4=AS.mk (Z9c s g c r) (Z9b c r g) 4)/\(decide ((Z9a c r)>=65)=false->Z9e/\AV.bool (Z9k c r)=AV.bool true/\AV.bool (decide ((Z9a c r)<=122))=AV.bool false/\AV.bool
  (decide ((Z9a c r)>=65))=AV.bool false/\AS.mk (Z9o s g c r) (Z9b c r g) 4=AS.mk (Z9c s g c r) (Z9b c r g) 4)))/\(decide ((Z9a c r)>=97)=false->(false=true->Z9e/\Z9i/\AV.bool (Z9k c r)=AV.bool false/\AV.bool false
  = AV.bool true/\AS.mk (Z9p s g c r) (Z9b c r g) 4=AS.mk (Z9c s g c r) (Z9b c r g) 4)/\(false=false->(decide ((Z9a c r)>=65)=true->Z9e/\AV.bool (Z9k c r)=AV.bool false/\AV.bool false=AV.bool false/\AV.bool (decide
  ((Z9a c r)>=65))=AV.bool true/\AS.mk (Z9j s g c r) (Z9b c r g) 4=AS.mk (Z9c s g c r) (Z9b c r g) 4)/\(decide ((Z9a c r)>=65)=false->Z9e/\Z9e/\AV.bool (Z9k c r)=AV.bool false/\AV.bool false=AV.bool false/\AV.bool
  (decide ((Z9a c r)>=65))=AV.bool false/\AS.mk (Z9o s g c r) (Z9b c r g) 4=AS.mk (Z9c s g c r) (Z9b c r g) 4))))/\((!Jq (Z9a c r))=true->((Z9m g)=true->Z9i/\(Z9n c r)=AV.bool true/\AV.bool (Z9m g)=AV.bool true
  /\ (true=true->AV.bool false=AV.bool (sName s))/\(Z9h s g c r))/\((Z9m g)=false->(((Z9a c r) != 95)=true->(decide ((Z9a c r) < 48)=true->Z9i/\(Z9n c r)=AV.bool true/\AV.bool (Z9m g)=AV.bool false/\AV.bool
  ((Z9a c r) != 95)=AV.bool true/\AV.bool (decide ((Z9a c r) < 48))=AV.bool true/\(true=true->AV.bool false=AV.bool (sName s))/\(Z9h s g c r))/\(decide ((Z9a c r) < 48)=false->(Z9n c r)=AV.bool true/\AV.bool (Z9m
  g)=AV.bool false/\AV.bool ((Z9a c r) != 95)=AV.bool true/\AV.bool (decide ((Z9a c r) < 48))=AV.bool false/\(decide ((Z9a c r) > 57)=true->AV.bool false=AV.bool (sName s))/\(decide ((Z9a c r) > 57)=false->∃ (g' :
  Nat),(g'<=s.length/\XT s g'=true)/\s.length-g' < s.length-g/\AS.mk (Z9d s) (Z9b c r g) 4=AS.mk (Z9d s) [(3,ABlk.iter (List.drop g' s) g')] 4)))/\(((Z9a c r) != 95)=false->Z9e/\(Z9n c r)=AV.bool true/\AV.bool
  (Z9m g)=AV.bool false/\AV.bool ((Z9a c r) != 95)=AV.bool false/\(false=true->AV.bool false=AV.bool (sName s))/\(Z9g s g c r))))/\((!Jq (Z9a c r))=false->Z9e/\(Z9n c r)=AV.bool false/\(false=true->AV.bool
  false=AV.bool (sName s))/\(Z9g s g c r)))/\(true=false->(Z9f s)/\(Z9f s)/\(Z9f s)/\AV.bool (Z9l s)=AV.bool (sName s)))/\(List.drop g s=[]->(false=true->False)/\(false=false->(Z9f s)/\(Z9f s)/\(Z9f s) /\
  AV.bool (Z9l s)=AV.bool (sName s))):=by
   delta Z9a Z9b Z9c Z9d Z9e Z9f Z9g Z9h Z9i Z9j Z9k Z9l Z9m Z9n Z9o Z9p
   refine⟨⟨0,⟨by omega,rfl⟩,rfl⟩,fun g ⟨hg,ha⟩=>⟨fun c r hcr=>?_,fun hnil=>?_⟩⟩
   . have hlt:g < s.length:=by
      by_cases h:g < s.length
      . exact h
      rw[List.drop_eq_nil_of_le (by omega)]at hcr;cases hcr
     have hcg:s.getD g 0=c:=by
      have:=congrArg (fun l=>l.getD 0 0) hcr
      simpa[List.getD_eq_getElem?_getD]using this
     have hr:r=s.drop (g+1):=by
      have:=congrArg (fun l=>l.drop 1) hcr
      simpa using this.symm
     have hz:((g:Int) == 0)=(g == 0):=by
      by_cases h:g=0
      . simp[h]
      rw[beq_eq_false_iff_ne.2 h,beq_eq_false_iff_ne.2 (by omega)]
     obtain⟨hk1,hk2⟩:=Jiy (g == 0) c r
     have hF:okB (g == 0) (dec (c::r)).1=false->AV.bool false=AV.bool (sName s):=fun h=>by
      rw[Ux hlt (by rw[hcg,<- hk1];exact h)]
     have hN:okB (g == 0) (dec (c::r)).1=true->∃ (g':Nat),(g'<=s.length/\XT s g'=true)/\s.length-g' < s.length-g /\
      AS.mk [(0,AV.str s),(7,AV.ref 3)] [(3,ABlk.iter (List.drop (dec (c::r)).snd (c::r)) (g+(dec (c::r)).snd))] 4=AS.mk [(0,AV.str s),(7,AV.ref 3)] [(3,ABlk.iter (List.drop g' s) g')] 4:=fun h=>by
      refine⟨g+1,⟨hlt,Uw ha (by rw[hcg,<- hk1];exact h)⟩,by omega,?_⟩
      rw[hk2 (by rw[<- hk1];exact h),hr]
      rfl
     rw[JdR]at hF hN
     clear hk1 hk2
     generalize (dec (c::r)).1=n at hF hN ⊢
     generalize (dec (c::r)).2=w at hN ⊢
     rw[hz]
     repeat' (first | apply And.intro | intro _)
     all_goals try first
      | contradiction
      | rfl
      | assumption
      | exact congrArg AV.bool (by assumption)
      | (rw[show Jq (n:Int)=true by(simp only[Ko,decide_eq_false_iff_not]at *;simp only[Jq,Bool.or_eq_true,Ko];omega)];done)
      | (rw[show Jq (n:Int)=false by(simp only[Ko,decide_eq_false_iff_not]at *;simp only[Jq,Bool.or_eq_false_iff,decide_eq_false_iff_not];omega)];done)
      | (rw[show Jq (n:Int)=decide ((n:Int)<=90) by(simp only[Ko,decide_eq_false_iff_not]at *;simp only[Jq];by_cases h90:(n:Int)<=90 <;> simp[h90] <;> omega)];done)
      | (refine hF ?_;simp_all [Jz];done)
      | (refine hN ?_;simp_all [Jz];done)
      | (refine hF ?_;simp_all [Jz];omega)
      | (refine hN ?_;simp_all [Jz];omega)
   have hge:g=s.length:=by
    have:=congrArg List.length hnil
    rw[Kh]at this
    simp only[List.length_nil]at this
    omega
   subst hge
   refine⟨fun h=>by(cases h),fun _=>⟨fun h=>h,fun h=>h,fun h=>h,?_⟩⟩
   rw[sName,ha,Bool.true_and,show decide ((s.length:Int)<=24)=decide (s.length<=24)from decide_eq_decide.2 (by omega)]
   cases (!s == []) <;> rfl
 exact Jw Tryz.f88 (B122 s) key (by kernel_rfl)
def la148(s:List UInt8):LA:={
 pre:=[.keep [0,3] [],.bound 1],post:=[.keep [0,3] [],.bound 1]
 Gh:=Nat
 st:=fun i=>⟨[(0,.str s),(3,.i i)],[],1⟩
 ok:=fun i=>i<=s.length/\XT s i=true
 ms:=fun i=>s.length-i }
def B148(s:List UInt8):BA:={ mkB spP 101 [] (fun i=>if i.beq 0 then some (la148 s)else none)with
 split:=fun i=>if i.beq 1 then 0 else if i.beq 6 then 1 else if i.beq 7 then 1 else if i.beq 8 then 1 else 0
 gs:=fun i=>if i.beq 6 then[.keep [0,3,4] [],.bound 1]else if i.beq 7 then[.keep [0,3,4,5] [],.bound 1]else[]
 cut:=fun i=>if i.beq 6 then some (JgD [0,3,4] [] 1 4 fun S=>onI (Ju S 3) fun n=>.bool (Jq ((s.getD n.toNat 0).toNat:Int)))
  else if i.beq 7 then some (JgD [0,3,4,5] [] 1 5 fun S=>onI (Ju S 3) fun n=>.bool (Jz ((s.getD n.toNat 0).toNat:Int)))else none }
abbrev XK(s:List UInt8)(g:Nat):=(↑(s.getD (g:Int).toNat (0:UInt8)).toNat:Int)
abbrev VA(s:List UInt8):=(s.length:Int)
abbrev Jps(s:List UInt8)(g:Nat):=[(0,AV.str s),(3,AV.i (g:Int)),(4,AV.bool (Jq (XK s g)))]
abbrev Z10d(s:List UInt8)(g:Nat):=[(0,AV.str s),(3,AV.i (g:Int)),(4,AV.bool (Jq (XK s g))),(5,AV.bool (Jz (XK s g)))]
abbrev JlC:=false=true->false=true
abbrev Jqp:=true=false->false=true
abbrev Z10g(s:List UInt8)(g:Nat):=[(0,AV.str s),(3,AV.i (g:Int)),(4,AV.bool (Jq (XK s g))),(5,AV.bool ((XK s g) == 95))]
abbrev Jpr(s:List UInt8)(g:Nat):=decide ((XK s g)>=65)
abbrev Z10i(s:List UInt8)(g:Nat):=[(0,AV.str s),(3,AV.i (g:Int)),(4,AV.bool (Jq (XK s g))),(5,AV.bool true)]
abbrev Z10j(s:List UInt8)(g:Nat):=[(0,AV.str s),(3,AV.i (g:Int)),(4,AV.bool (decide ((XK s g)<=122)))]
abbrev Z10k(s:List UInt8)(g:Nat):=[(0,AV.str s),(3,AV.i ((g:Int)+1))]
abbrev Z10l(s:List UInt8):=if((VA s) == 0)=true then true else decide ((VA s) > 24)
theorem c101(s:List UInt8)(hs:s.length<=1000000):P0 101 [.str s] (.bool (sName s)):=by
 have key :
  ((!(VA s) == 0)=true->(!(VA s) == 0)=true)/\((!(VA s) == 0)=true->(!(VA s) == 0)=true)/\(((VA s) == 0)=false->(!(VA s) == 0)=true)/\((Z10l s)=true->AV.bool false=AV.bool (sName s))/\((Z10l s) =
  false->(∃ (g:Nat),(g<=s.length/\XT s g=true)/\AS.mk [(0,AV.str s),(3,AV.i 0)] [] 1=AS.mk [(0,AV.str s),(3,AV.i (g:Int))] [] 1)/\∀ (g:Nat),g<=s.length/\XT s g=true->(decide ((g:Int) < (VA s)) =
  true->((decide ((XK s g)>=65)=true->(decide ((XK s g)<=90)=true->(0:Int)<=(g:Int)/\(g:Int) < (VA s)/\(0:Int)<=(g:Int)/\(g:Int) < (VA s)/\Jqp/\AV.bool (Jpr s g)=AV.bool true/\AV.bool
  (decide ((XK s g)<=90))=AV.bool true/\AS.mk [(0,AV.str s),(3,AV.i (g:Int)),(4,AV.bool true)] [] 1=AS.mk (Jps s g) [] 1)/\(decide ((XK s g)<=90)=false->(decide ((XK s g)>=97)=true->(0:Int)<=(↑g :
  Int)/\(g:Int) < (VA s)/\(0:Int)<=(g:Int)/\(g:Int) < (VA s)/\(0:Int)<=(g:Int)/\(g:Int) < (VA s)/\(0:Int)<=(g:Int)/\(g:Int) < (VA s)/\AV.bool (Jpr s g)=AV.bool true/\AV.bool (decide
  ((XK s g)<=90))=AV.bool false/\AV.bool (decide ((XK s g)>=97))=AV.bool true/\AS.mk (Z10j s g) [] 1=AS.mk (Jps s g) [] 1)/\(decide ((XK s g)>=97)=false->(0:Int)<=(g:Int)/\(g:Int) < (VA s)/\(0 :
  Int)<=(g:Int)/\(g:Int) < (VA s)/\(0:Int)<=(g:Int)/\(g:Int) < (VA s)/\JlC/\AV.bool (Jpr s g)=AV.bool true/\AV.bool (decide ((XK s g)<=90))=AV.bool false/\AV.bool (decide ((XK s g)>=97)) =
  AV.bool false/\AS.mk [(0,AV.str s),(3,AV.i (g:Int)),(4,AV.bool false)] [] 1=AS.mk (Jps s g) [] 1)))/\(decide ((XK s g)>=65)=false->(false=true->(0:Int)<=(g:Int)/\(g:Int) < (VA s)/\JlC/\Jqp /\
  AV.bool (Jpr s g)=AV.bool false/\AV.bool false=AV.bool true/\AS.mk [(0,AV.str s),(3,AV.i (g:Int)),(4,AV.bool true)] [] 1=AS.mk (Jps s g) [] 1)/\(false=false->(decide ((XK s g)>=97)=true->(0:Int)<=(↑g
  : Int)/\(g:Int) < (VA s)/\JlC/\(0:Int)<=(g:Int)/\(g:Int) < (VA s)/\(0:Int)<=(g:Int)/\(g:Int) < (VA s)/\AV.bool (Jpr s g)=AV.bool false/\AV.bool false=AV.bool false/\AV.bool (decide ((XK s
  g)>=97))=AV.bool true/\AS.mk (Z10j s g) [] 1=AS.mk (Jps s g) [] 1)/\(decide ((XK s g)>=97)=false->(0:Int)<=(g:Int)/\(g:Int) < (VA s)/\JlC/\(0:Int)<=(g:Int)/\(g:Int) < (VA s)/\JlC/\AV.bool
  (Jpr s g)=AV.bool false/\AV.bool false=AV.bool false/\AV.bool (decide ((XK s g)>=97))=AV.bool false/\AS.mk [(0,AV.str s),(3,AV.i (g:Int)),(4,AV.bool false)] [] 1=AS.mk (Jps s g) [] 1))))/\((decide ((XK s
  g)>=48)=true->(decide ((XK s g)<=57)=true->(0:Int)<=(g:Int)/\(g:Int) < (VA s)/\(0:Int)<=(g:Int)/\(g:Int) < (VA s)/\Jqp/\AV.bool (decide ((XK s g)>=48))=AV.bool true/\AV.bool (decide
  ((XK s g)<=57))=AV.bool true/\AS.mk (Z10i s g) [] 1=AS.mk (Z10d s g) [] 1)/\(decide ((XK s g)<=57)=false->(0:Int)<=(g:Int)/\(g:Int) < (VA s)/\(0:Int)<=(g:Int)/\(g:Int) < (VA s)/\(0:Int) ≤
  (g:Int)/\(g:Int) < (VA s)/\AV.bool (decide ((XK s g)>=48))=AV.bool true/\AV.bool (decide ((XK s g)<=57))=AV.bool false/\AS.mk (Z10g s g) [] 1=AS.mk (Z10d s g) [] 1))/\(decide ((XK s g)>=48)=false →
  (false=true->(0:Int)<=(g:Int)/\(g:Int) < (VA s)/\JlC/\Jqp/\AV.bool (decide ((XK s g)>=48))=AV.bool false/\AV.bool false=AV.bool true/\AS.mk (Z10i s g) [] 1=AS.mk (Z10d s g) [] 1)/\(false=false->(0
  : Int)<=(g:Int)/\(g:Int) < (VA s)/\JlC/\(0:Int)<=(g:Int)/\(g:Int) < (VA s)/\AV.bool (decide ((XK s g)>=48))=AV.bool false/\AV.bool false=AV.bool false/\AS.mk (Z10g s g) [] 1=AS.mk (Z10d s g) []
  1)))/\((!Jq (XK s g))=true->(((g:Int) == 0)=true->Jqp/\(AV.bool !Jq (XK s g))=AV.bool true/\AV.bool ((g:Int) == 0)=AV.bool true/\(true=true->AV.bool false=AV.bool (sName s))/\(true=false →
  Jc ((g:Int)+1)/\∃ (g':Nat),(g'<=s.length/\XT s g'=true)/\s.length-g' < s.length-g/\AS.mk (Z10k s g) [] 1=AS.mk [(0,AV.str s),(3,AV.i (g':Int))] [] 1))/\(((g:Int) == 0)=false->(AV.bool !Jq
  (XK s g))=AV.bool true/\AV.bool ((g:Int) == 0)=AV.bool false/\((!Jz (XK s g))=true->AV.bool false=AV.bool (sName s))/\((!Jz (XK s g))=false->Jc ((g:Int)+1)/\∃ (g':Nat),(g'<=s.length /\
  XT s g'=true)/\s.length-g' < s.length-g/\AS.mk (Z10k s g) [] 1=AS.mk [(0,AV.str s),(3,AV.i (g':Int))] [] 1)))/\((!Jq (XK s g))=false->JlC/\(AV.bool !Jq (XK s g))=AV.bool false/\(false=true →
  AV.bool false=AV.bool (sName s))/\(false=false->Jc ((g:Int)+1)/\∃ (g':Nat),(g'<=s.length/\XT s g'=true)/\s.length-g' < s.length-g/\AS.mk (Z10k s g) [] 1=AS.mk [(0,AV.str s),(3,AV.i (g':Int))] []
  1)))/\(decide ((g:Int) < (VA s))=false->AV.bool true=AV.bool (sName s))):=by
   delta XK VA Jps Z10d JlC Jqp Z10g Jpr Z10i Z10j Z10k Z10l
   have hs0:(s.length == 0)=(s == []):=by cases s <;> rfl
   refine⟨fun h=>h,fun h=>h,fun h=>by rw[h];rfl,fun h=>?_,fun h=>⟨⟨0,⟨by omega,rfl⟩,rfl⟩,fun g ⟨hg,ha⟩=>⟨fun hd=>?_,fun hd=>?_⟩⟩⟩
   . have:(!(s == []) && decide (s.length<=24))=false:=by
      rw[<- hs0]
      by_cases h0:s.length=0
      . simp[h0]
      rw[beq_eq_false_iff_ne.2 (show(s.length:Int) ≠ 0 by omega)]at h
      simp at h
      simp only[Bool.and_eq_false_iff,decide_eq_false_iff_not]
      omega
     rw[sName,this,Bool.and_false]
   . have hlt:=Jm hd
     have hz:((g:Int) == 0)=(g == 0):=by
      by_cases h:g=0
      . simp[h]
      rw[beq_eq_false_iff_ne.2 h,beq_eq_false_iff_ne.2 (by omega)]
     obtain⟨n,hx⟩:∃ n,(s.getD g 0).toNat=n:=⟨_,rfl⟩
     rw[show(s.getD ((g:Int)).toNat 0).toNat=n from hx]
     have hF:okB (g == 0) (s.getD g 0).toNat=false->AV.bool false=AV.bool (sName s):=fun h=>by
      rw[Ux hlt h]
     have hN:okB (g == 0) (s.getD g 0).toNat=true->Jc ((g:Int)+1)/\∃ (g':Nat),(g'<=s.length/\XT s g'=true)/\s.length-g' < s.length-g /\
      AS.mk [(0,AV.str s),(3,AV.i ((g:Int)+1))] [] 1=AS.mk [(0,AV.str s),(3,AV.i g')] [] 1:=fun h =>
      ⟨by unfold Jc;omega,g+1,⟨hlt,Uw ha h⟩,by omega,rfl⟩
     rw[JdR]at hF hN
     have h1:(0:Int)<=g:=by omega
     have h2:(g:Int) < s.length:=by omega
     rw[hx]at hF hN
     rw[hz]
     generalize sName s=sn at hF ⊢
     clear hx ha
     repeat' (first | apply And.intro | intro _)
     all_goals try first
      | omega
      | contradiction
      | rfl
      | assumption
      | exact congrArg AV.bool (by assumption)
      | (rw[show Jq (n:Int)=true by(simp only[Ko,decide_eq_false_iff_not]at *;simp only[Jq,Bool.or_eq_true,Ko];omega)];done)
      | (rw[show Jq (n:Int)=false by(simp only[Ko,decide_eq_false_iff_not]at *;simp only[Jq,Bool.or_eq_false_iff,decide_eq_false_iff_not];omega)];done)
      | (rw[show Jq (n:Int)=decide ((n:Int)<=122) by(simp only[Ko,decide_eq_false_iff_not]at *;simp only[Jq];by_cases h90:(n:Int)<=122 <;> simp[h90] <;> omega)];done)
      | (rw[show Jz (n:Int)=true by(simp only[Ko,decide_eq_false_iff_not]at *;simp only[Jz,Bool.or_eq_true,Ko];omega)];done)
      | (rw[show Jz (n:Int)=((n:Int) == 95) by(simp only[Ko,decide_eq_false_iff_not]at *;unfold Jz;rw[decide_eq_false (show ¬ (48<=(n:Int)/\(n:Int)<=57) by omega),Bool.false_or];rfl)];done)
      | (refine hF ?_;(clear hF hN;generalize Jq (n:Int)=p at *;generalize Jz (n:Int)=q at *;generalize (g == 0)=z at *;cases p <;> cases q <;> cases z <;> first | rfl | (exfalso;simp at *;done));done)
      | (refine(hN ?_).1;(clear hF hN;generalize Jq (n:Int)=p at *;generalize Jz (n:Int)=q at *;generalize (g == 0)=z at *;cases p <;> cases q <;> cases z <;> first | rfl | (exfalso;simp at *;done));done)
      | (refine(hN ?_).2;(clear hF hN;generalize Jq (n:Int)=p at *;generalize Jz (n:Int)=q at *;generalize (g == 0)=z at *;cases p <;> cases q <;> cases z <;> first | rfl | (exfalso;simp at *;done));done)
   have hge:=Jt hd hg
   subst hge
   have h2:(!(s == []) && decide (s.length<=24))=true:=by
    rw[<- hs0]
    by_cases h0:s.length=0
    . simp[h0]at h
    rw[beq_eq_false_iff_ne.2 (show(s.length:Int) ≠ 0 by omega)]at h
    simp at h
    simp only[Kd,Ko,Ks,beq_eq_false_iff_ne]
    omega
   rw[sName,ha,h2]
   rfl
 exact Jw Tryz.f101 (B148 s) key (by kernel_rfl)
def spQ:Nat->List AV->Option AV
 | 101,[.str s]=>some (.bool (sName s))
 | 88,[.str s]=>some (.bool (sName s))
 | n,x=>spP n x
theorem c55(s:List UInt8)(hs:s.length<=1000000):P0 55 [.str s] (.i (sWhen (!sName s) 8)):=by
 have key :
  P0 101 [AV.str s] (AV.bool (sName s))/\P0 53 [AV.bool !sName s,AV.i 8] (AV.i (sWhen (!sName s) (8:Int)))/\AV.i (sWhen (!sName s) (8:Int))=AV.i (sWhen (!sName s) (8:Int)):=by
   exact⟨c101 s hs,c53 _ _,rfl⟩
 exact Jw Tryz.f55 (mkB spQ 55 [] J1) key (by kernel_rfl)
structure Sg where
 p:Int
 e:List Int
 deriving Inhabited
structure Ty where
 name:List UInt8
 sh:List Int
 d0:Int
 d1:Int
 d2:Int
 d3:Int
 d4:Int
 d5:Int
 d6:Int
 d7:Int
 side:Int
 sq:List Int
 st:List Sg
 deriving Inhabited
def Jv(s:Sg):List AV:=[.i s.p,.sl 1 (s.e.map Jh)]
def Ty.dir(t:Ty):List Int:=[t.d0,t.d1,t.d2,t.d3,t.d4,t.d5,t.d6,t.d7]
def Jd(t:Ty):List AV:=[.str t.name,.sl 1 (t.sh.map Jh),.i t.d0,.i t.d1,.i t.d2,.i t.d3,.i t.d4,.i t.d5,.i t.d6,.i t.d7,.i t.side,.sl 1 (t.sq.map Jh),.sl 2 (t.st.map Jv)]
def cI(rows:List (List AV))(i:Nat):Int:=match nth (Ji rows i) 0 with
 | .int _ n=>n
 | _=>0
def rdJ:List AV->Option AV
 | [.elt _ rows i _]=>some (.i (cI rows i))
 | _=>none
theorem JZ(l:List Int)(i:Nat):cI (l.map Jh) i=l.getD i default:=by
 unfold cI Ji
 rw[Ka,Ka,Kk]
 cases l[i]? <;> rfl
theorem VI{l:List Int}{i:Nat}(h:i < l.length):nth (Ji (l.map Jh) i) 0=.i (cI (l.map Jh) i):=by
 rw[JZ,Jl Jh h]
 rfl
def Jjn(r k:Nat)(f:An->An)(B:BA):BA:={ B with ra:=fun i=>if i.beq r then { B.ra i with ans:=JjT f k (B.ra i).ans }else B.ra i }
def JaE(l:List Int):Int:=sumW l l.length
def Wf(l:List Int)(i:Nat):Bool:=if i=0 then l.getD i default != 0 else decide (l.getD i default<=l.getD (i-1) default)
def fSq(l:List Int)(i:Nat):Int:=if Wf l i then 11 else 0
theorem fSq_z(l:List Int)(i:Nat):fSq l i=0 ↔ Wf l i=false:=by
 unfold fSq
 cases Wf l i <;> simp
theorem Jm3(l:List Int){i:Nat}(h:i ≠ 0):Wf l i=decide (l.getD i default<=l.getD (i-1) default):=by rw[Wf,if_neg h]
theorem Uj{g:Nat}(h:g ≠ 0):(QN (0:Int) ((g:Int)-1)).toNat=g-1:=by
 unfold QN
 split <;> omega
theorem VV{g n:Nat}(h:g < n):0<=QN (0:Int) ((g:Int)-1)/\QN (0:Int) ((g:Int)-1) < n:=by
 unfold QN
 split <;> omega
def JH(l:List Int):Int:=sLS (sFirst [sWhen ((l.length:Int) == 0) 12,sWhen (decide ((l.length:Int) > 8)) 5,sFirst (l.map fun x=>Ja x 0 100000000000)]) (fSq l) l.length 0
def spR:Nat->List AV->Option AV
 | 55,[.str s]=>some (.i (sWhen (!sName s) 8))
 | n,x=>spQ n x
def sp109(l:List Int):Nat->List AV->Option AV
 | 98,_=>some (.i (sFirst (l.map fun x=>Ja x 0 100000000000)))
 | n,x=>spR n x
def la109(l:List Int):LA:={
 pre:=[.keep [0,4] [],.bound 1],post:=[.keep [0,4] [],.bound 1]
 Gh:=Nat
 st:=fun i=>⟨[(0,.sl 1 (l.map Jh)),(4,.i i)],[],1⟩
 ok:=fun i=>i<=l.length/\∀ k,k < i->fSq l k=0
 ms:=fun i=>l.length-i }
abbrev Jdp(l:List Int):=List.map Jh l
abbrev JfF(l:List Int):=((Jdp l).length:Int)
abbrev Z11u(l:List Int):=sWhen ((JfF l) == 0) (12:Int)
abbrev Z11r(l:List Int):=sWhen (decide ((JfF l) > 8)) (5:Int)
abbrev Z11h(l:List Int):=sFirst (List.map (fun(x:Int)=>Ja x (0:Int) (100000000000:Int)) l)
abbrev Z11a(l:List Int):=[hdI [AV.i (Z11u l)],hdI [AV.i (Z11r l)],hdI [AV.i (Z11h l)]]
abbrev JmO(g:Nat):=(g:Int)-1
abbrev Jqo(g:Nat):=QN (0:Int) (JmO g)
abbrev Z11l(l:List Int)(g:Nat):=cI (Jdp l) (g:Int).toNat<=cI (Jdp l) (Jqo g).toNat
abbrev Z11j(g':Nat)(l:List Int):=(g'<=l.length/\∀ (k:Nat),k < g'->fSq l k=(0:Int))
abbrev Z11p(l:List Int)(g:Nat):=[(0,AV.sl 1 (Jdp l)),(4,AV.i ((g:Int)+1))]
abbrev Z11t(l:List Int)(g':Nat):=[(0,AV.sl 1 (Jdp l)),(4,AV.i (g':Int))]
abbrev Z11c(l:List Int)(g:Nat):=(decide (Z11l l g)=false->Jc ((g:Int)+1)/\∃ (g':Nat),(Z11j g' l)/\l.length-g' < l.length-g/\AS.mk (Z11p l g) [] 1=AS.mk (Z11t l g') [] 1)
abbrev Z11d(g:Nat)(l:List Int):=(false=false->Jc ((g:Int)+1)/\∃ (g':Nat),(Z11j g' l)/\l.length-g' < l.length-g/\AS.mk (Z11p l g) [] 1=AS.mk (Z11t l g') [] 1)
abbrev Z11f(g:Nat)(l:List Int):=(true=false->Jc ((g:Int)+1)/\∃ (g':Nat),(Z11j g' l)/\l.length-g' < l.length-g/\AS.mk (Z11p l g) [] 1=AS.mk (Z11t l g') [] 1)
abbrev Jqn:=false=true->false=true
abbrev Jqm(l:List Int)(g:Nat):=cI (Jdp l) (g:Int).toNat != 0
abbrev Jql(l:List Int)(g:Nat):=Ji (Jdp l) (g:Int).toNat
abbrev JlB(g:Nat):=(g:Int) == 0
abbrev Jqk(l:List Int)(g:Nat):=cI (Jdp l) (g:Int).toNat
abbrev JlA(g:Nat):=(g:Int) > 0
theorem c99(l:List Int)(hl:l.length<=1000):P0 99 [.sl 1 (l.map Jh)] (.i (JH l)):=by
 have key :
  P0 53 [AV.bool ((JfF l) == 0),AV.i 12] (AV.i (Z11u l))/\P0 53 [AV.bool (decide ((JfF l) > 8)),AV.i 5] (AV.i (Z11r l))/\P0 98 [AV.sl 1 (Jdp l),AV.i 0,AV.i 100000000000] (AV.i (Z11h l))/\P0 51 [AV.sl 1 [[AV.i (Z11u l)],
  [AV.i (Z11r l)],[AV.i (Z11h l)]]] (AV.i (sFirst (Z11a l)))/\((sFirst (Z11a l) != 0)=true->AV.i (sFirst (Z11a l))=AV.i (JH l))/\((sFirst (Z11a l) != 0)=false->(∃ (g:Nat),(g<=l.length/\∀ (k:Nat),k < g->fSq l
  k=(0:Int))/\AS.mk [(0,AV.sl 1 (Jdp l)),(4,AV.i 0)] [] 1=AS.mk [(0,AV.sl 1 (Jdp l)),(4,AV.i (g:Int))] [] 1)/\∀ (g:Nat),(g<=l.length/\∀ (k:Nat),k < g->fSq l k=(0:Int))->(decide ((g:Int) < (JfF l))
  = true->((JlB g)=true->((Jqm l g)=true->(0:Int)<=(g:Int)/\(g:Int) < (JfF l)/\(true=false->false=true)/\AV.bool (JlB g)=AV.bool true/\nth (Jql l g) 0=AV.i (Jqk l g)/\AV.bool (Jqm l g)=AV.bool
  true/\(true=true->AV.i 11=AV.i (JH l))/\(Z11f g l))/\((Jqm l g)=false->(decide (JlA g)=true->(0:Int)<=(g:Int)/\(g:Int) < (JfF l)/\(0:Int)<=(g:Int)/\(g:Int) < (JfF l)/\Jc (JmO g)/\(0
  : Int)<=QN (0:Int) (JmO g)/\QN (0:Int) (JmO g) < (JfF l)/\AV.bool (JlB g)=AV.bool true/\nth (Jql l g) 0=AV.i (Jqk l g)/\AV.bool (Jqm l g)=AV.bool false/\AV.bool (decide (JlA g))=AV.bool true/\nth
  (Jql l g) 0=AV.i (Jqk l g)/\nth (Ji (Jdp l) (Jqo g).toNat) 0=AV.i (cI (Jdp l) (Jqo g).toNat)/\(decide (Z11l l g)=true->AV.i 11=AV.i (JH l))/\(Z11c l g))/\(decide (JlA g)=false->(0:Int)<=(g:Int)
  /\ (g:Int) < (JfF l)/\Jqn/\AV.bool (JlB g)=AV.bool true/\nth (Jql l g) 0=AV.i (Jqk l g)/\AV.bool (Jqm l g)=AV.bool false/\AV.bool (decide (JlA g))=AV.bool false/\(false=true->AV.i 11=AV.i (JH l)) /\
  (Z11d g l))))/\((JlB g)=false->(false=true->Jqn/\(true=false->false=true)/\AV.bool (JlB g)=AV.bool false/\AV.bool false=AV.bool true/\(true=true->AV.i 11=AV.i (JH l))/\(Z11f g l))/\(false=false
  → (decide (JlA g)=true->Jqn/\(0:Int)<=(g:Int)/\(g:Int) < (JfF l)/\Jc (JmO g)/\(0:Int)<=QN (0:Int) (JmO g)/\QN (0:Int) (JmO g) < (JfF l)/\AV.bool (JlB g)=AV.bool false/\AV.bool false =
  AV.bool false/\AV.bool (decide (JlA g))=AV.bool true/\nth (Jql l g) 0=AV.i (Jqk l g)/\nth (Ji (Jdp l) (Jqo g).toNat) 0=AV.i (cI (Jdp l) (Jqo g).toNat)/\(decide (Z11l l g)=true->AV.i 11=AV.i (JH l)) /\
  (Z11c l g))/\(decide (JlA g)=false->Jqn/\Jqn/\AV.bool (JlB g)=AV.bool false/\AV.bool false=AV.bool false/\AV.bool (decide (JlA g))=AV.bool false/\(false=true->AV.i 11=AV.i (JH l))/\(Z11d g l))))) /\
  (decide ((g:Int) < (JfF l))=false->AV.i 0=AV.i (JH l))):=by
   delta Z11a Jdp Z11c Z11d JfF Z11f Jqo Z11h Jqn Z11j Jqm Z11l Jql JlB Jqk Z11p JlA Z11r JmO Z11t Z11u
   simp only[Kb]
   refine⟨c53 _ _,c53 _ _,c98 l 0 100000000000 (by omega),c51 [_,_,_] (by simp),fun h=>?_,fun h=>⟨⟨0,⟨by omega,by intros;omega⟩,rfl⟩,fun g ⟨hg,ha⟩=>⟨fun hd=>?_,fun hd=>?_⟩⟩⟩
   . exact congrArg AV.i (QY (f:=fSq l) (n:=l.length) (fin:=0) h).symm
   . have hlt:=Jm hd
     have hm:=VV hlt
     have h':(sFirst [sWhen ((l.length:Int) == 0) 12,sWhen (decide ((l.length:Int) > 8)) 5,sFirst (l.map fun x=>Ja x 0 100000000000)] != 0)=false:=h
     have hF:Wf l g=true->AV.i 11=AV.i (JH l):=fun hb=>by
      have e:fSq l g=11:=by rw[fSq,if_pos hb]
      rw[JH,VL (f:=fSq l) h' hd ha (by rw[e];decide),e]
     have hN:Wf l g=false->∃ (g':Nat),(g'<=l.length/\∀ (k:Nat),k < g'->fSq l k=0)/\l.length-g' < l.length-g /\
      AS.mk [(0,AV.sl 1 (List.map Jh l)),(4,AV.i ((g:Int)+1))] [] 1=AS.mk [(0,AV.sl 1 (List.map Jh l)),(4,AV.i (g':Int))] [] 1:=fun hb =>
      ⟨g+1,⟨hlt,Xn ha (by rw[(fSq_z l g).2 hb];rfl)⟩,by omega,rfl⟩
     have h64:Jc ((g:Int)+1):=by unfold Jc;omega
     have h65:Jc ((g:Int)-1):=by unfold Jc;omega
     have hat:nth (Ji (List.map Jh l) ((g:Int)).toNat) 0=AV.i (cI (List.map Jh l) ((g:Int)).toNat):=VI hlt
     have hat2:nth (Ji (List.map Jh l) (QN 0 ((g:Int)-1)).toNat) 0=AV.i (cI (List.map Jh l) (QN 0 ((g:Int)-1)).toNat):=VI (by omega)
     have hsb:Wf l g=if((g:Int) == 0)=true then cI (List.map Jh l) ((g:Int)).toNat != 0 else decide (cI (List.map Jh l) ((g:Int)).toNat<=cI (List.map Jh l) (QN 0 ((g:Int)-1)).toNat):=by
      rw[JZ,JZ]
      by_cases e0:g=0
      . subst e0;rfl
      rw[if_neg (by simp;omega),Jm3 l e0,Uj e0];rfl
     rw[hsb]at hF hN
     clear hsb ha h h' hd hl hg
     obtain⟨_,_⟩:=h64
     obtain⟨_,_⟩:=h65
     generalize JH l=sq at hF ⊢
     generalize cI (List.map Jh l) ((g:Int)).toNat=c at hF hN hat ⊢
     generalize cI (List.map Jh l) (QN 0 ((g:Int)-1)).toNat=c2 at hF hN hat2 ⊢
     repeat' (first | apply And.intro | (intro h;cases h;done) | intro _)
     all_goals try first
      | omega
      | (unfold Jc;omega)
      | rfl
      | exact hat
      | exact hat2
      | exact congrArg AV.bool (by assumption)
      | (refine hF ?_;rw[if_pos (by assumption)];assumption)
      | (refine hN ?_;rw[if_pos (by assumption)];assumption)
      | (refine hF ?_;rw[if_neg (by simp only[*];decide)];assumption)
      | (refine hN ?_;rw[if_neg (by simp only[*];decide)];assumption)
      | (exfalso;clear hF hN hat hat2;simp only[beq_iff_eq,Ko,decide_eq_false_iff_not,beq_eq_false_iff_ne,ne_eq]at *;omega)
      | (refine hN ?_;rw[if_pos (by assumption)];assumption)
   exact congrArg AV.i (Ul (f:=fSq l) h hd hg ha).symm
 exact Jw Tryz.f99 ({ mkB (sp109 l) 99 [(7,6,WT [rdJ]),(7,16,WT [rdJ]),(7,22,WT [rdJ])] (fun i=>if i.beq 0 then some (la109 l)else none)with split:=fun i=>if i.beq 7 then 1 else 0 }) key (by kernel_rfl)
def sp107(l:List Int):Nat->List AV->Option AV
 | 98,_=>some (.i (sFirst (l.map fun x=>Ja x 0 1000)))
 | n,x=>spR n x
def Jbr(l:List Int):Nat->Int
 | 0=>0
 | i+1=>Jbr l i+l.getD i default
theorem UI{l:List Int}{B:Int}(h:∀ k,k < l.length->0<=l.getD k default/\l.getD k default<=B):∀ i,i<=l.length->0<=Jbr l i/\Jbr l i<=B * i
 | 0,_=>by simp[Jbr]
 | i+1,hi=>by
  have:=UI h i (by omega)
  have:=h i hi
  simp only[Jbr]
  rw[Int.natCast_add,Int.mul_add]
  omega
theorem Va{l:List Int}{lo hi:Int}(h:sFirst (l.map fun x=>Ja x lo hi)=0):∀ k,k < l.length->lo<=l.getD k default/\l.getD k default<=hi:=by
 induction l with
 | nil=>intro k hk;simp at hk
 | cons x l ih =>
  simp only[List.map_cons,first_zero,within_zero]at h
  intro k hk
  cases k with
  | zero=>exact h.1
  | succ k =>
   have:=ih h.2 k (by simpa using hk)
   simpa using this
def la107(l:List Int):LA:={
 pre:=[.keep [0,4,5] [],.bound 1],post:=[.keep [0,4,5] [],.bound 1]
 Gh:=Nat
 st:=fun i=>⟨[(0,.sl 1 (l.map Jh)),(4,.i (Jbr l i)),(5,.i i)],[],1⟩
 ok:=fun i=>i<=l.length
 ms:=fun i=>l.length-i }
def QA(l:List Int):Int:=if sFirst [sWhen ((l.length:Int) == 0) 12,sWhen (decide ((l.length:Int) > 8)) 5,sFirst (l.map fun x=>Ja x 0 1000)] != 0 then sFirst [sWhen ((l.length:Int) == 0) 12,sWhen (decide ((l.length:Int) > 8)) 5,sFirst (l.map fun x=>Ja x 0 1000)]else sWhen (Jbr l l.length != 1000) 1
abbrev Jji(l:List Int):=List.map Jh l
abbrev JmN(l:List Int):=((Jji l).length:Int)
abbrev Z12f(l:List Int):=sWhen ((JmN l) == 0) (12:Int)
abbrev Z12e(l:List Int):=sWhen (decide ((JmN l) > 8)) (5:Int)
abbrev Z12c(l:List Int):=sFirst (List.map (fun(x:Int)=>Ja x (0:Int) (1000:Int)) l)
abbrev Z12a(l:List Int):=[hdI [AV.i (Z12f l)],hdI [AV.i (Z12e l)],hdI [AV.i (Z12c l)]]
theorem c97(l:List Int)(hl:l.length<=1000):P0 97 [.sl 1 (l.map Jh)] (.i (QA l)):=by
 have key :
  P0 53 [AV.bool ((JmN l) == 0),AV.i 12] (AV.i (Z12f l))/\P0 53 [AV.bool (decide ((JmN l) > 8)),AV.i 5] (AV.i (Z12e l))/\P0 98 [AV.sl 1 (Jji l),AV.i 0,AV.i 1000] (AV.i (Z12c l))/\P0 51 [AV.sl 1 [[AV.i (Z12f l)],[AV.i (Z12e
  l)],[AV.i (Z12c l)]]] (AV.i (sFirst (Z12a l)))/\((sFirst (Z12a l) != 0)=true->AV.i (sFirst (Z12a l))=AV.i (QA l))/\((sFirst (Z12a l) != 0)=false->(∃ (g:Nat),g<=l.length/\AS.mk [(0,AV.sl 1 (Jji l)),(4,AV.i
  0),(5,AV.i 0)] [] 1=AS.mk [(0,AV.sl 1 (Jji l)),(4,AV.i (Jbr l g)),(5,AV.i (g:Int))] [] 1)/\∀ (g:Nat),g<=l.length->(decide ((g:Int) < (JmN l))=true->(0:Int)<=(g:Int)/\(g:Int) < (JmN l)/\Jc
  (Jbr l g+cI (Jji l) (g:Int).toNat)/\nth (Ji (Jji l) (g:Int).toNat) 0=AV.i (cI (Jji l) (g:Int).toNat)/\Jc ((g:Int)+1)/\∃ (g':Nat),g'<=l.length/\l.length-g' < l.length-g/\AS.mk [(0,AV.sl 1
  (Jji l)),(4,AV.i (Jbr l g+cI (Jji l) (g:Int).toNat)),(5,AV.i ((g:Int)+1))] [] 1=AS.mk [(0,AV.sl 1 (Jji l)),(4,AV.i (Jbr l g')),(5,AV.i (g':Int))] [] 1)/\(decide ((g:Int) < (JmN l))=false->P0 53
  [AV.bool (Jbr l g != 1000),AV.i 1] (AV.i (sWhen (Jbr l g != 1000) (1:Int)))/\AV.i (sWhen (Jbr l g != 1000) (1:Int))=AV.i (QA l))):=by
   delta Z12a JmN Z12c Jji Z12e Z12f
   simp only[Kb]
   refine⟨c53 _ _,c53 _ _,c98 l 0 1000 (by omega),c51 [_,_,_] (by simp),fun h=>?_,fun h=>⟨⟨0,by omega,rfl⟩,fun g hg=>⟨fun hd=>?_,fun hd=>?_⟩⟩⟩
   . exact congrArg AV.i (if_pos h).symm
   . have hlt:=Jm hd
     have h0:sFirst [sWhen ((l.length:Int) == 0) 12,sWhen (decide ((l.length:Int) > 8)) 5,sFirst (l.map fun x=>Ja x 0 1000)]=0:=QE h
     simp only[first_zero]at h0
     have hb:=Va h0.2.2.1
     have h1:=UI hb g (by omega)
     have h2:=hb g hlt
     simp only[Km,JZ]
     exact⟨by omega,by omega,by unfold Jc;omega,by rw[VI hlt,JZ],by unfold Jc;omega,g+1,hlt,by omega,rfl⟩
   have hge:=Jt hd hg
   subst hge
   refine⟨c53 _ _,?_⟩
   rw[QA,if_neg]
   have:(sFirst [sWhen ((l.length:Int) == 0) 12,sWhen (decide ((l.length:Int) > 8)) 5,sFirst (l.map fun x=>Ja x 0 1000)] != 0)=false:=h
   rw[this]
   decide
 exact Jw Tryz.f97 (mkB (sp107 l) 97 [(8,4,WT [rdJ])] (fun i=>if i.beq 0 then some (la107 l)else none)) key (by kernel_rfl)
def la25(t:Ty):LA:={
 pre:=[.keep [1,3] [],.bound 1],post:=[.keep [1,3] [],.bound 1]
 Gh:=Nat
 st:=fun i=>⟨[(1,.elt 13 [Jd t] 0 0),(3,.i i)],[],1⟩
 ok:=fun i=>i<=t.st.length/\∀ k,k < i->(t.st.getD k default).e.length<=9
 ms:=fun i=>t.st.length-i }
def J6(t:Ty):Bool:=(t.st.all fun s=>decide (s.e.length<=9)) && (decide (t.name.length<=40) && (decide (t.sh.length<=9) && (decide (t.sq.length<=9) && decide (t.st.length<=7))))
abbrev Jgx:=false=true->false=true
abbrev Jlz(t:Ty):=((List.map Jh t.sq).length:Int)<=9
abbrev Z13h(t:Ty):=(t.name.length:Int)<=40
abbrev Jly(t:Ty):=decide (Z13h t)
abbrev Jpq(t:Ty):=((List.map Jh t.sh).length:Int)<=9
abbrev Z13e(t:Ty):=((List.map Jv t.st).length:Int)
abbrev Z13f(t:Ty)(g:Nat):=List.map Jh (t.st.getD (g:Int).toNat default).e
abbrev Z13g(g:Nat)(t:Ty):=(g<=t.st.length/\∀ (k:Nat),k < g->(t.st.getD k default).e.length<=9)
abbrev Z13i(t:Ty):=decide ((Z13e t)<=7)
theorem c49(t:Ty)(hl:t.st.length<=9223372036854775807):P0 49 [.agg (Jd t)] (.bool (J6 t)):=by
 have key :
  (∃ (g:Nat),(Z13g g t)/\AS.mk [(1,AV.elt 13 [(Jd t)] 0 0),(3,AV.i 0)] [] 1=AS.mk [(1,AV.elt 13 [(Jd t)] 0 0),(3,AV.i (g:Int))] [] 1)/\∀ (g:Nat),(Z13g g t)->(decide ((g:Int) < (Z13e t))=true->(0:Int)
  ≤ (g:Int)/\(g:Int) < (Z13e t)/\nth (Ji (List.map Jv t.st) (g:Int).toNat) 1=AV.sl 1 (Z13f t g)/\(decide (((Z13f t g).length:Int) > 9)=true->AV.bool false=AV.bool (J6 t))/\(decide ((↑(Z13f t g).length
  : Int) > 9)=false->Jc ((g:Int)+1)/\∃ (g':Nat),(g'<=t.st.length/\∀ (k:Nat),k < g'->(t.st.getD k default).e.length<=9)/\t.st.length-g' < t.st.length-g/\AS.mk [(1,AV.elt 13 [(Jd t)] 0 0),(3,AV.i ((↑g :
  Int)+1))] [] 1=AS.mk [(1,AV.elt 13 [(Jd t)] 0 0),(3,AV.i (g':Int))] [] 1))/\(decide ((g:Int) < (Z13e t))=false->(decide (Z13h t)=true->(decide (Jpq t)=true->(decide (Jlz t)=true->AV.bool (Jly t) =
  AV.bool true/\AV.bool (decide (Jpq t))=AV.bool true/\AV.bool (decide (Jlz t))=AV.bool true/\AV.bool (Z13i t)=AV.bool (J6 t))/\(decide (Jlz t)=false->Jgx/\AV.bool (Jly t)=AV.bool true/\AV.bool (decide (Jpq
  t))=AV.bool true/\AV.bool (decide (Jlz t))=AV.bool false/\AV.bool false=AV.bool (J6 t)))/\(decide (Jpq t)=false->(false=true->Jgx/\AV.bool (Jly t)=AV.bool true/\AV.bool (decide (Jpq t))=AV.bool false /\
  AV.bool false=AV.bool true/\AV.bool (Z13i t)=AV.bool (J6 t))/\(false=false->Jgx/\Jgx/\AV.bool (Jly t)=AV.bool true/\AV.bool (decide (Jpq t))=AV.bool false/\AV.bool false=AV.bool false/\AV.bool false =
  AV.bool (J6 t))))/\(decide (Z13h t)=false->(false=true->(decide (Jlz t)=true->Jgx/\AV.bool (Jly t)=AV.bool false/\AV.bool false=AV.bool true/\AV.bool (decide (Jlz t))=AV.bool true/\AV.bool (Z13i t) =
  AV.bool (J6 t))/\(decide (Jlz t)=false->Jgx/\Jgx/\AV.bool (Jly t)=AV.bool false/\AV.bool false=AV.bool true/\AV.bool (decide (Jlz t))=AV.bool false/\AV.bool false=AV.bool (J6 t)))/\(false=false →
  (false=true->Jgx/\Jgx/\AV.bool (Jly t)=AV.bool false/\AV.bool false=AV.bool false/\AV.bool false=AV.bool true/\AV.bool (Z13i t)=AV.bool (J6 t))/\(false=false->Jgx/\Jgx/\Jgx/\AV.bool (Jly t) =
  AV.bool false/\AV.bool false=AV.bool false/\AV.bool false=AV.bool false/\AV.bool false=AV.bool (J6 t))))):=by
   delta Jgx Jlz Jly Jpq Z13e Z13f Z13g Z13h Z13i
   refine⟨⟨0,⟨by omega,by intros;omega⟩,rfl⟩,fun g ⟨hg,ha⟩=>⟨fun hd=>?_,fun hd=>?_⟩⟩
   . have hlt:g < t.st.length:=by simpa using hd
     refine⟨by omega,by rw[Kb];omega,by rw[Jl Jv (by simpa using hlt)];rfl,fun h=>?_,fun h=>⟨by unfold Jc;omega,g+1,⟨hlt,fun k hk=>?_⟩,by omega,rfl⟩⟩
     . have h9:¬ (t.st.getD g default).e.length<=9:=by
        have h:=h
        simp only[Kb,Ko,Km]at h
        omega
       have:(t.st.all fun s=>decide (s.e.length<=9))=false:=by
        refine List.all_eq_false.2 ⟨t.st.getD g default,?_,by simpa using h9⟩
        rw[Ka,Kj hlt]
        exact List.getElem_mem _
       rw[J6,this]
       rfl
     by_cases e:k=g
     . subst e
       simp only[Kb,decide_eq_false_iff_not,Km]at h
       omega
     exact ha k (by omega)
   have hge:g=t.st.length:=by simp at hd;omega
   have hall:(t.st.all fun s=>decide (s.e.length<=9))=true:=by
    refine List.all_eq_true.2 fun s hs=>?_
    obtain⟨k,hk,rfl⟩:=List.getElem_of_mem hs
    have:=ha k (by omega)
    rw[Ka,Kj hk]at this
    simpa using this
   have hS:J6 t=(decide ((t.name.length:Int)<=40) && (decide (((t.sh.map Jh).length:Int)<=9) && (decide (((t.sq.map Jh).length:Int)<=9) && decide (((t.st.map Jv).length:Int)<=7)))):=by
    rw[J6,hall,Bool.true_and,Kb,Kb,Kb]
    congr 1
    . exact decide_eq_decide.2 (by omega)
    congr 1
    . exact decide_eq_decide.2 (by omega)
    congr 1
    . exact decide_eq_decide.2 (by omega)
    exact decide_eq_decide.2 (by omega)
   rw[hS]
   clear hS hall ha hd hl hg hge
   generalize decide ((t.name.length:Int)<=40)=a
   generalize decide (((t.sh.map Jh).length:Int)<=9)=b
   generalize decide (((t.sq.map Jh).length:Int)<=9)=c
   generalize decide (((t.st.map Jv).length:Int)<=7)=d
   cases a <;> cases b <;> cases c <;> cases d <;> simp
 exact Jw Tryz.f49 ({ mkB spR 49 [(4,5,rdL 2 Jv t.st 1 false)] (fun i=>if i.beq 0 then some (la25 t)else none)with split:=fun i=>if i.beq 6 then 1 else 0 }) key (by kernel_rfl)
end Go.Proofs.YthkngjifljcocaaGreatDoor
