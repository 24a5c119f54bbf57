/-
  Printing a home, on both sides: contracts. Lines and words of a home's string, as the source and as the reference read them: definitions and lemmas. A home's string, read again: plain laws. No condition but the theorems' own.
-/
import Derived.Test.YtfoeefaamjknpaaGreatDoorPE
import Derived.Test.YtfoeefaamjknpaaGreatDoorPD
import Derived.Test.YtfoeefaamjknpaaGreatDoorAvD
namespace Go.Proofs.YtfoeefaamjknpaaGreatDoor
open Go Go.Av Go.RowKit
def sp183 (io : Int -> List UInt8) : Nat -> List AV -> Option AV
 | 184, [.int _ n] => some (.str (io n))
 | n, x => spN n x
def la183 (io : Int -> List UInt8) (l : List Int) : LA := {
 pre := [.own 5 9 1, .reno 5 1, .keep [1, 5, 8, 9, 10] [1], .bound 2], post := [.reno 5 1, .keep [1, 5, 8, 9, 10] [1], .bound 2]
 Gh := Nat
 st := fun i => ⟨[(1, .fn (.func 184) [] []), (5, .own 1 (((l.take i).map io).map encS).length), (8, .sl 1 (l.map encI)), (9, .i (l.map encI).length), (10, .i i)], [(1, .buf 9 1 (((l.take i).map io).map encS))], 2⟩
 ok := fun i => i <= l.length
 ms := fun i => l.length - i }
theorem c183 (l : List Int) (io : Int -> List UInt8) (hl : l.length <= 1000) (hio : ∀ n, n ∈ l -> PCall Tryz.prog G0 184 [.i n] (.str (io n))) : PCall Tryz.prog G0 183 [.sl 1 (l.map encI), .fn (.func 184) [] []] (.fresh 9 1 ((l.map io).map encS)) := by
 have key :
  (∃ (g:Nat), g <= l.length ∧ AS.mk [(1, AV.fn (Fn.func 184) [] []), (5, AV.own 1 0), (8, AV.sl 1 (List.map encI l)), (9, AV.i (↑(List.map encI l).length : Int)), (10, AV.i 0)] [(1, ABlk.buf 9 1 [])] 2 = AS.mk [(1, AV.fn (Fn.func
  184) [] []), (5, AV.own 1 (List.map encS (List.map io (List.take g l))).length), (8, AV.sl 1 (List.map encI l)), (9, AV.i (↑(List.map encI l).length : Int)), (10, AV.i (g:Int))] [(1, ABlk.buf 9 1 (List.map encS (List.map io
  (List.take g l))))] 2) ∧ ∀ (g:Nat), g <= l.length -> (decide ((g:Int) < (↑(List.map encI l).length : Int)) = true -> (0:Int) <= (g:Int) ∧ (g:Int) < (↑(List.map encI l).length : Int) ∧ nth (nthR (List.map encI l) (↑g :
  Int).toNat) 0 = AV.i (l.getD (g:Int).toNat default) ∧ (List.map encS (List.map io (List.take g l))).length + 1 <= 9223372036854775807 ∧ ((List.map encS (List.map io (List.take g l))).length + 1) * 16 <= 140737488355328 ∧ PCall
  Tryz.prog G0 184 [AV.i (l.getD (g:Int).toNat default)] (AV.str (io (l.getD (g:Int).toNat default))) ∧ In64 ((g:Int) + 1) ∧ ∃ (g' : Nat), g' <= l.length ∧ l.length - g' < l.length - g ∧ AS.mk [(1, AV.fn (Fn.func 184) [] []),
  (5, AV.own 1 ((List.map encS (List.map io (List.take g l))).length + 1)), (8, AV.sl 1 (List.map encI l)), (9, AV.i (↑(List.map encI l).length : Int)), (10, AV.i ((g:Int) + 1))] [(1, ABlk.buf 9 1 (List.map encS (List.map io
  (List.take g l)) ++ [[AV.str (io (l.getD (g:Int).toNat default))]]))] 2 = AS.mk [(1, AV.fn (Fn.func 184) [] []), (5, AV.own 1 (List.map encS (List.map io (List.take g' l))).length), (8, AV.sl 1 (List.map encI l)), (9, AV.i
  (↑(List.map encI l).length : Int)), (10, AV.i (↑g' : Int))] [(1, ABlk.buf 9 1 (List.map encS (List.map io (List.take g' l))))] 2) ∧ (decide ((g:Int) < (↑(List.map encI l).length : Int)) = false -> AV.fresh 9 1 (List.map encS
  (List.map io (List.take g l))) = AV.fresh 9 1 (List.map encS (List.map io l))) := by
   have hlm : (List.map encI l).length = l.length := List.length_map _
   have : (List.map encI l).length = l.length := by simp only [List.length_map]
   refine ⟨⟨0, by omega, rfl⟩, fun g hg => ⟨fun hd => ?_, fun hd => ?_⟩⟩
   · have hlt : g < l.length := by have h9 := of_decide_eq_true hd; have h8 := hg; (try simp only [List.length_map] at h8 h9); omega
     have : (List.map encS (List.map io (List.take g l))).length = g := by simp only [List.length_map, List.length_take]; omega
     try rw [show (g:Int).toNat = g from Int.toNat_natCast g]
     refine ⟨(by omega), (by omega), (congrArg (fun r => nth r 0) (row_at encI hlt)), (by omega), (by omega), (hio _ (getD_mem hlt)), (by unfold In64; omega), ⟨g + 1, by omega, by omega, ?_⟩⟩
     · first | (rw [<- take_succ_map _ _ hlt, List.length_append]; rfl) | (rw [<- take_succ _ hlt, List.length_append]; rfl)
   · have hge : g = l.length := by have h9 := of_decide_eq_false hd; have h8 := hg; (try simp only [List.length_map] at h8 h9); omega
     subst hge
     exact (by rw [List.take_length])
 exact c_of Tryz.f183 (fzB (mkB (sp183 io) 183 [(4, 1, rdL 1 encI l 1 false)] (fun i => if i.beq 0 then some (la183 io l) else none))) (by kernel_rfl) (by kernel_rfl) (by kernel_rfl) (by kernel_rfl) key (by kernel_rfl)
def sp154 (io : Int -> List UInt8) (jo : List (List UInt8) -> List UInt8) : Nat -> List AV -> Option AV
 | 183, [.sl _ rows, _] => some (.sl 1 (((rows.map hdI).map io).map encS))
 | 182, [.sl _ rows, _] => some (.str (jo (dS rows)))
 | n, x => spN n x
theorem w154 (ws : List (List UInt8)) (xs : List Int) (io : Int -> List UInt8) (jo : List (List UInt8) -> List UInt8) (hw : ws.length <= 1000) (hl : xs.length <= 1000) (hio : ∀ n, n ∈ xs -> PCall Tryz.prog G0 184 [.i n] (.str (io n))) (hj : ∀ L, jo L = Lib.join L [32]) (hjl : (jo (ws ++ xs.map io)).length <= 1000000) : WCall Tryz.prog G0 154 [.own 1 (ws.map encS).length, .sl 1 (xs.map encI)] [ABlk.buf 9 1 (ws.map encS)] (.str (jo (ws ++ xs.map io) ++ [10])) [ABlk.dead] := by
 have key :
  (List.map encS ws).length + (List.map encS (List.map io (List.map hdI (List.map encI xs)))).length <= 9223372036854775807 ∧ ((List.map encS ws).length + (List.map encS (List.map io (List.map hdI (List.map encI xs)))).length) * 16 ≤
  140737488355328 ∧ (jo (dS (List.map encS ws ++ List.map encS (List.map io (List.map hdI (List.map encI xs)))))).length + 1 <= 9223372036854775807 ∧ PCall Tryz.prog G0 183 [AV.sl 1 (List.map encI xs), AV.fn (Fn.func 184) [] []]
  (AV.sl 1 (List.map encS (List.map io (List.map hdI (List.map encI xs))))) ∧ PCall Tryz.prog G0 182 [AV.sl 1 (List.map encS ws ++ List.map encS (List.map io (List.map hdI (List.map encI xs)))), AV.str [(32:UInt8)]] (AV.str (jo (dS
  (List.map encS ws ++ List.map encS (List.map io (List.map hdI (List.map encI xs))))))) ∧ AV.str (jo (dS (List.map encS ws ++ List.map encS (List.map io (List.map hdI (List.map encI xs))))) ++ [(10:UInt8)]) = AV.str (jo (ws ++
  List.map io xs) ++ [(10:UInt8)]) ∧ [ABlk.dead] = [ABlk.dead] := by
   have hwm : (List.map encS ws).length = ws.length := List.length_map _
   have hxm : (List.map encI xs).length = xs.length := List.length_map _
   have hin : (List.map encS (List.map io xs)).length = xs.length := by rw [List.length_map, List.length_map]
   have hal : (ws ++ xs.map io).length = ws.length + xs.length := by rw [List.length_append, List.length_map]
   rw [hd_encI, <- List.map_append, dS_e]
   have : (List.map encS ws).length = ws.length := by simp only [List.length_map]
   have : (List.map encS (List.map io (List.map hdI (List.map encI xs)))).length = xs.length := by simp only [List.length_map]
   refine ⟨(by omega), (by omega), (by omega), ((c183 xs io hl hio).un), ((by rw [hj]; exact c182 _ [32] (by omega) (by rw [<- hj]; omega))), ?_, rfl⟩
   · rfl
 exact w_of Tryz.f154 (mkB (sp154 io jo) 154 [] noLa) (by kernel_rfl) (by kernel_rfl) (by kernel_rfl) (by kernel_rfl) (by kernel_rfl) key (by kernel_rfl)
def sR : List AV -> List UInt8
 | [.str x] => x
 | _ => []
def dR (rows : List (List AV)) : List (List UInt8) := rows.map sR
def HOME : List UInt8 := [104, 111, 109, 101]
def WINDOW : List UInt8 := [119, 105, 110, 100, 111, 119]
def nums (w : Wn) : List Int := [w.ar, w.o0, w.o1, w.o2, w.o3, w.o4, w.o5, w.o6, w.o7, w.p0, w.p1, w.p2, w.p3, w.p4, w.p5, w.p6, w.p7, w.p8, w.p9, w.p10, w.p11, w.p12, w.p13, w.p14, w.p15]
def lnH (jo : List (List UInt8) -> List UInt8) (io : Int -> List UInt8) (h : Hm) : List UInt8 := jo ([HOME, h.nm] ++ [h.pe].map io) ++ [10]
def lnW (jo : List (List UInt8) -> List UInt8) (io : Int -> List UInt8) (w : Wn) : List UInt8 := jo ([WINDOW] ++ (nums w).map io) ++ [10]
def prT (jo : List (List UInt8) -> List UInt8) (io : Int -> List UInt8) (h : Hm) : Nat -> List UInt8
 | 0 => lnH jo io h
 | k + 1 => prT jo io h k ++ lnW jo io (h.ws.getD k default)
def sp85 (h : Hm) : Nat -> List AV -> Option AV
 | 38, _ => some (.i (fHm h))
 | n, x => spN n x
def hs85 (io : Int -> List UInt8) (jo : List (List UInt8) -> List UInt8) : Nat -> List AV -> List ABlk -> Option AV
 | 154, [_, .sl _ ns], [.buf _ _ rows] => some (.gv true (.tup [.str (jo (dR rows ++ (ns.map hdI).map io) ++ [10]), .any]))
 | _, _, _ => none
def la85 (jo : List (List UInt8) -> List UInt8) (io : Int -> List UInt8) (h : Hm) (b:Nat) : Option LA :=
 if b.beq 0 then some {
  pre := [.keep [5, 24, 25, 26] [], .bound 1], post := [.keep [5, 24, 25, 26] [], .bound 1]
  Gh := Nat
  st := fun i => ⟨[(5, .str (prT jo io h i)), (24, .sl 25 (h.ws.map encWn)), (25, .i (h.ws.map encWn).length), (26, .i i)], [], 1⟩
  ok := fun i => i <= h.ws.length
  ms := fun i => h.ws.length - i }
 else none
theorem nums_bd {w : Wn} (h : WnOK w) : ∀ n, n ∈ nums w -> 0 <= n ∧ n <= 100000000 := by
 have a0 : 0 <= w.o0 ∧ w.o0 <= 100000000 := h.o0 0 (by decide)
 have a1 : 0 <= w.o1 ∧ w.o1 <= 100000000 := h.o0 1 (by decide)
 have a2 : 0 <= w.o2 ∧ w.o2 <= 100000000 := h.o0 2 (by decide)
 have a3 : 0 <= w.o3 ∧ w.o3 <= 100000000 := h.o0 3 (by decide)
 have a4 : 0 <= w.o4 ∧ w.o4 <= 100000000 := h.o0 4 (by decide)
 have a5 : 0 <= w.o5 ∧ w.o5 <= 100000000 := h.o0 5 (by decide)
 have a6 : 0 <= w.o6 ∧ w.o6 <= 100000000 := h.o0 6 (by decide)
 have a7 : 0 <= w.o7 ∧ w.o7 <= 100000000 := h.o0 7 (by decide)
 have b0 : 0 <= w.p0 ∧ w.p0 <= w.p1 ∧ w.p1 <= 1000 := h.l0 0 (by decide)
 have b1 : 0 <= w.p2 ∧ w.p2 <= w.p3 ∧ w.p3 <= 1000 := h.l0 1 (by decide)
 have b2 : 0 <= w.p4 ∧ w.p4 <= w.p5 ∧ w.p5 <= 1000 := h.l0 2 (by decide)
 have b3 : 0 <= w.p6 ∧ w.p6 <= w.p7 ∧ w.p7 <= 1000 := h.l0 3 (by decide)
 have b4 : 0 <= w.p8 ∧ w.p8 <= w.p9 ∧ w.p9 <= 1000 := h.l0 4 (by decide)
 have b5 : 0 <= w.p10 ∧ w.p10 <= w.p11 ∧ w.p11 <= 1000 := h.l0 5 (by decide)
 have b6 : 0 <= w.p12 ∧ w.p12 <= w.p13 ∧ w.p13 <= 1000 := h.l0 6 (by decide)
 have b7 : 0 <= w.p14 ∧ w.p14 <= w.p15 ∧ w.p15 <= 1000 := h.l0 7 (by decide)
 have d0 := h.a0
 intro n hn
 simp only [nums, List.mem_cons, List.not_mem_nil, or_false] at hn
 rcases hn with rfl | rfl | rfl | rfl | rfl | rfl | rfl | rfl | rfl | rfl | rfl | rfl | rfl | rfl | rfl | rfl | rfl | rfl | rfl | rfl | rfl | rfl | rfl | rfl | rfl <;> omega
theorem jo_lt {x : List UInt8} {c : UInt8} {n : Nat} (h : (x ++ [c]).length <= n) : x.length <= n := by
 rw [List.length_append] at h
 omega
theorem c85 (h : Hm) (io : Int -> List UInt8) (jo : List (List UInt8) -> List UInt8) (hn : h.nm.length <= 1000) (hw : h.ws.length <= 1000) (hio : fHm h = 0 -> ∀ n, 0 <= n -> n <= 100000000 -> PCall Tryz.prog G0 184 [.i n] (.str (io n))) (hj : ∀ L, jo L = Lib.join L [32]) (hpl : fHm h = 0 -> ∀ k, k <= h.ws.length -> (prT jo io h k).length <= 100000) (hhl : fHm h = 0 -> (lnH jo io h).length <= 1000) (hwl : fHm h = 0 -> ∀ k, k < h.ws.length -> (lnW jo io (h.ws.getD k default)).length <= 1000) : PCall Tryz.prog G0 85 [.agg (encHm h)] (.tup [.str (if (fHm h != 0) = true then [] else prT jo io h h.ws.length), .i (fHm h)]) := by
 have key :
  PCall Tryz.prog G0 38 [AV.agg (encHm h)] (AV.i (fHm h)) ∧ ((fHm h != 0) = true -> AV.tup [AV.str [], AV.i (fHm h)] = AV.tup [AV.str (if (fHm h != 0) = true then [] else prT jo io h h.ws.length), AV.i (fHm h)]) ∧ ((fHm h != 0) =
  false -> WCall Tryz.prog G0 154 [AV.own 1 2, AV.sl 1 [[AV.i h.pe]]] [ABlk.buf 9 1 [[AV.str [(104:UInt8), (111:UInt8), (109:UInt8), (101:UInt8)]], [AV.str h.nm]]] (AV.str (jo [[(104:UInt8), (111:UInt8), (109:UInt8),
  (101:UInt8)], sR [AV.str h.nm], io (hdI [AV.i h.pe])] ++ [(10:UInt8)])) [ABlk.dead] ∧ (∃ (g:Nat), g <= h.ws.length ∧ AS.mk [(5, AV.str (jo [[(104:UInt8), (111:UInt8), (109:UInt8), (101:UInt8)], sR [AV.str h.nm], io
  (hdI [AV.i h.pe])] ++ [(10:UInt8)])), (24, AV.sl 25 (List.map encWn h.ws)), (25, AV.i (↑(List.map encWn h.ws).length : Int)), (26, AV.i 0)] [] 1 = AS.mk [(5, AV.str (prT jo io h g)), (24, AV.sl 25 (List.map encWn h.ws)), (25,
  AV.i (↑(List.map encWn h.ws).length : Int)), (26, AV.i (g:Int))] [] 1) ∧ ∀ (g:Nat), g <= h.ws.length -> (decide ((g:Int) < (↑(List.map encWn h.ws).length : Int)) = true -> (0:Int) <= (g:Int) ∧ (g:Int) < (↑(List.map
  encWn h.ws).length : Int) ∧ AV.agg (nthR (List.map encWn h.ws) (g:Int).toNat) = AV.agg (encWn (h.ws.getD (g:Int).toNat default)) ∧ 9 <= 9223372036854775807 ∧ 72 <= 140737488355328 ∧ (0:Int) <= 0 ∧ (0:Int) < (8:Int) ∧ 11 ≤
  9223372036854775807 ∧ 88 <= 140737488355328 ∧ In64 ((0:Int) + 1) ∧ (0:Int) <= 0 + 1 ∧ (0:Int) + 1 < (8:Int) ∧ 13 <= 9223372036854775807 ∧ 104 <= 140737488355328 ∧ In64 ((0:Int) + 1 + 1) ∧ (0:Int) <= 0 + 1 + 1 ∧ (0:Int) +
  1 + 1 < (8:Int) ∧ 15 <= 9223372036854775807 ∧ 120 <= 140737488355328 ∧ In64 ((0:Int) + 1 + 1 + 1) ∧ (0:Int) <= 0 + 1 + 1 + 1 ∧ (0:Int) + 1 + 1 + 1 < (8:Int) ∧ 17 <= 9223372036854775807 ∧ 136 <= 140737488355328 ∧ In64 ((0 :
  Int) + 1 + 1 + 1 + 1) ∧ (0:Int) <= 0 + 1 + 1 + 1 + 1 ∧ (0:Int) + 1 + 1 + 1 + 1 < (8:Int) ∧ 19 <= 9223372036854775807 ∧ 152 <= 140737488355328 ∧ In64 ((0:Int) + 1 + 1 + 1 + 1 + 1) ∧ (0:Int) <= 0 + 1 + 1 + 1 + 1 + 1 ∧ (0 :
  Int) + 1 + 1 + 1 + 1 + 1 < (8:Int) ∧ 21 <= 9223372036854775807 ∧ 168 <= 140737488355328 ∧ In64 ((0:Int) + 1 + 1 + 1 + 1 + 1 + 1) ∧ (0:Int) <= 0 + 1 + 1 + 1 + 1 + 1 + 1 ∧ (0:Int) + 1 + 1 + 1 + 1 + 1 + 1 < (8:Int) ∧ 23 ≤
  9223372036854775807 ∧ 184 <= 140737488355328 ∧ In64 ((0:Int) + 1 + 1 + 1 + 1 + 1 + 1 + 1) ∧ (0:Int) <= 0 + 1 + 1 + 1 + 1 + 1 + 1 + 1 ∧ (0:Int) + 1 + 1 + 1 + 1 + 1 + 1 + 1 < (8:Int) ∧ 25 <= 9223372036854775807 ∧ 200 ≤
  140737488355328 ∧ In64 ((0:Int) + 1 + 1 + 1 + 1 + 1 + 1 + 1 + 1) ∧ (prT jo io h g).length + (jo [[(119:UInt8), (105:UInt8), (110:UInt8), (100:UInt8), (111:UInt8), (119:UInt8)], io (hdI [AV.i (h.ws.getD (↑g :
  Int).toNat default).ar]), io (hdI [AV.i (h.ws.getD (g:Int).toNat default).o0]), io (hdI [AV.i (h.ws.getD (g:Int).toNat default).o1]), io (hdI [AV.i (h.ws.getD (g:Int).toNat default).o2]), io (hdI [AV.i (h.ws.getD (↑g :
  Int).toNat default).o3]), io (hdI [AV.i (h.ws.getD (g:Int).toNat default).o4]), io (hdI [AV.i (h.ws.getD (g:Int).toNat default).o5]), io (hdI [AV.i (h.ws.getD (g:Int).toNat default).o6]), io (hdI [AV.i (h.ws.getD (↑g :
  Int).toNat default).o7]), io (hdI [AV.i (h.ws.getD (g:Int).toNat default).p0]), io (hdI [AV.i (h.ws.getD (g:Int).toNat default).p1]), io (hdI [AV.i (h.ws.getD (g:Int).toNat default).p2]), io (hdI [AV.i (h.ws.getD (↑g :
  Int).toNat default).p3]), io (hdI [AV.i (h.ws.getD (g:Int).toNat default).p4]), io (hdI [AV.i (h.ws.getD (g:Int).toNat default).p5]), io (hdI [AV.i (h.ws.getD (g:Int).toNat default).p6]), io (hdI [AV.i (h.ws.getD (↑g :
  Int).toNat default).p7]), io (hdI [AV.i (h.ws.getD (g:Int).toNat default).p8]), io (hdI [AV.i (h.ws.getD (g:Int).toNat default).p9]), io (hdI [AV.i (h.ws.getD (g:Int).toNat default).p10]), io (hdI [AV.i (h.ws.getD (↑g :
  Int).toNat default).p11]), io (hdI [AV.i (h.ws.getD (g:Int).toNat default).p12]), io (hdI [AV.i (h.ws.getD (g:Int).toNat default).p13]), io (hdI [AV.i (h.ws.getD (g:Int).toNat default).p14]), io (hdI [AV.i (h.ws.getD (↑g :
  Int).toNat default).p15])] ++ [(10:UInt8)]).length <= 9223372036854775807 ∧ WCall Tryz.prog G0 154 [AV.own 1 1, AV.sl 1 [[AV.i (h.ws.getD (g:Int).toNat default).ar], [AV.i (h.ws.getD (g:Int).toNat default).o0], [AV.i
  (h.ws.getD (g:Int).toNat default).o1], [AV.i (h.ws.getD (g:Int).toNat default).o2], [AV.i (h.ws.getD (g:Int).toNat default).o3], [AV.i (h.ws.getD (g:Int).toNat default).o4], [AV.i (h.ws.getD (g:Int).toNat
  default).o5], [AV.i (h.ws.getD (g:Int).toNat default).o6], [AV.i (h.ws.getD (g:Int).toNat default).o7], [AV.i (h.ws.getD (g:Int).toNat default).p0], [AV.i (h.ws.getD (g:Int).toNat default).p1], [AV.i (h.ws.getD (↑g :
  Int).toNat default).p2], [AV.i (h.ws.getD (g:Int).toNat default).p3], [AV.i (h.ws.getD (g:Int).toNat default).p4], [AV.i (h.ws.getD (g:Int).toNat default).p5], [AV.i (h.ws.getD (g:Int).toNat default).p6], [AV.i
  (h.ws.getD (g:Int).toNat default).p7], [AV.i (h.ws.getD (g:Int).toNat default).p8], [AV.i (h.ws.getD (g:Int).toNat default).p9], [AV.i (h.ws.getD (g:Int).toNat default).p10], [AV.i (h.ws.getD (g:Int).toNat
  default).p11], [AV.i (h.ws.getD (g:Int).toNat default).p12], [AV.i (h.ws.getD (g:Int).toNat default).p13], [AV.i (h.ws.getD (g:Int).toNat default).p14], [AV.i (h.ws.getD (g:Int).toNat default).p15]]] [ABlk.buf 9 1
  [[AV.str [(119:UInt8), (105:UInt8), (110:UInt8), (100:UInt8), (111:UInt8), (119:UInt8)]]]] (AV.str (jo [[(119:UInt8), (105:UInt8), (110:UInt8), (100:UInt8), (111:UInt8), (119:UInt8)], io (hdI [AV.i
  (h.ws.getD (g:Int).toNat default).ar]), io (hdI [AV.i (h.ws.getD (g:Int).toNat default).o0]), io (hdI [AV.i (h.ws.getD (g:Int).toNat default).o1]), io (hdI [AV.i (h.ws.getD (g:Int).toNat default).o2]), io (hdI [AV.i
  (h.ws.getD (g:Int).toNat default).o3]), io (hdI [AV.i (h.ws.getD (g:Int).toNat default).o4]), io (hdI [AV.i (h.ws.getD (g:Int).toNat default).o5]), io (hdI [AV.i (h.ws.getD (g:Int).toNat default).o6]), io (hdI [AV.i
  (h.ws.getD (g:Int).toNat default).o7]), io (hdI [AV.i (h.ws.getD (g:Int).toNat default).p0]), io (hdI [AV.i (h.ws.getD (g:Int).toNat default).p1]), io (hdI [AV.i (h.ws.getD (g:Int).toNat default).p2]), io (hdI [AV.i
  (h.ws.getD (g:Int).toNat default).p3]), io (hdI [AV.i (h.ws.getD (g:Int).toNat default).p4]), io (hdI [AV.i (h.ws.getD (g:Int).toNat default).p5]), io (hdI [AV.i (h.ws.getD (g:Int).toNat default).p6]), io (hdI [AV.i
  (h.ws.getD (g:Int).toNat default).p7]), io (hdI [AV.i (h.ws.getD (g:Int).toNat default).p8]), io (hdI [AV.i (h.ws.getD (g:Int).toNat default).p9]), io (hdI [AV.i (h.ws.getD (g:Int).toNat default).p10]), io (hdI [AV.i
  (h.ws.getD (g:Int).toNat default).p11]), io (hdI [AV.i (h.ws.getD (g:Int).toNat default).p12]), io (hdI [AV.i (h.ws.getD (g:Int).toNat default).p13]), io (hdI [AV.i (h.ws.getD (g:Int).toNat default).p14]), io (hdI [AV.i
  (h.ws.getD (g:Int).toNat default).p15])] ++ [(10:UInt8)])) [ABlk.dead] ∧ In64 ((g:Int) + 1) ∧ ∃ (g' : Nat), g' <= h.ws.length ∧ h.ws.length - g' < h.ws.length - g ∧ AS.mk [(5, AV.str (prT jo io h g ++ (jo [[(119:UInt8),
  (105:UInt8), (110:UInt8), (100:UInt8), (111:UInt8), (119:UInt8)], io (hdI [AV.i (h.ws.getD (g:Int).toNat default).ar]), io (hdI [AV.i (h.ws.getD (g:Int).toNat default).o0]), io (hdI [AV.i (h.ws.getD (g:Int).toNat
  default).o1]), io (hdI [AV.i (h.ws.getD (g:Int).toNat default).o2]), io (hdI [AV.i (h.ws.getD (g:Int).toNat default).o3]), io (hdI [AV.i (h.ws.getD (g:Int).toNat default).o4]), io (hdI [AV.i (h.ws.getD (g:Int).toNat
  default).o5]), io (hdI [AV.i (h.ws.getD (g:Int).toNat default).o6]), io (hdI [AV.i (h.ws.getD (g:Int).toNat default).o7]), io (hdI [AV.i (h.ws.getD (g:Int).toNat default).p0]), io (hdI [AV.i (h.ws.getD (g:Int).toNat
  default).p1]), io (hdI [AV.i (h.ws.getD (g:Int).toNat default).p2]), io (hdI [AV.i (h.ws.getD (g:Int).toNat default).p3]), io (hdI [AV.i (h.ws.getD (g:Int).toNat default).p4]), io (hdI [AV.i (h.ws.getD (g:Int).toNat
  default).p5]), io (hdI [AV.i (h.ws.getD (g:Int).toNat default).p6]), io (hdI [AV.i (h.ws.getD (g:Int).toNat default).p7]), io (hdI [AV.i (h.ws.getD (g:Int).toNat default).p8]), io (hdI [AV.i (h.ws.getD (g:Int).toNat
  default).p9]), io (hdI [AV.i (h.ws.getD (g:Int).toNat default).p10]), io (hdI [AV.i (h.ws.getD (g:Int).toNat default).p11]), io (hdI [AV.i (h.ws.getD (g:Int).toNat default).p12]), io (hdI [AV.i (h.ws.getD (g:Int).toNat
  default).p13]), io (hdI [AV.i (h.ws.getD (g:Int).toNat default).p14]), io (hdI [AV.i (h.ws.getD (g:Int).toNat default).p15])] ++ [(10:UInt8)]))), (24, AV.sl 25 (List.map encWn h.ws)), (25, AV.i (↑(List.map encWn
  h.ws).length : Int)), (26, AV.i ((g:Int) + 1))] [] 1 = AS.mk [(5, AV.str (prT jo io h g')), (24, AV.sl 25 (List.map encWn h.ws)), (25, AV.i (↑(List.map encWn h.ws).length : Int)), (26, AV.i (↑g' : Int))] [] 1) ∧ (decide ((↑g :
  Int) < (↑(List.map encWn h.ws).length : Int)) = false -> AV.tup [AV.str (prT jo io h g), AV.i 0] = AV.tup [AV.str (if (fHm h != 0) = true then [] else prT jo io h h.ws.length), AV.i (fHm h)])) := by
   have hwm : (List.map encWn h.ws).length = h.ws.length := List.length_map _
   have : (List.map encWn h.ws).length = h.ws.length := by simp only [List.length_map]
   refine ⟨(c38 h (by omega) hw), fun h1 => ?_, fun h1 => ?_⟩
   · rw [if_pos h1]
   · have hz : fHm h = 0 := bne_f h1
     obtain ⟨z1, z2, z3, z4, z5, z6⟩ := hm_z hz
     refine ⟨(w154 [HOME, h.nm] [h.pe] io jo (show 2 <= 1000 by decide) (show 1 <= 1000 by decide) (fun n hn => by rw [List.mem_singleton] at hn; rw [hn]; exact hio hz _ z4.1 (by omega)) hj (jo_lt (Nat.le_trans (hhl hz) (by decide)))), ⟨⟨0, by omega, rfl⟩, fun g hg => ⟨fun hd => ?_, fun hd => ?_⟩⟩⟩
     · have hlt : g < h.ws.length := by have h9 := of_decide_eq_true hd; have h8 := hg; (try simp only [List.length_map] at h8 h9); omega
       try rw [show (g:Int).toNat = g from Int.toNat_natCast g]
       exact ⟨(by omega), (by omega), (congrArg AV.agg (row_at encWn (by omega))), (by omega), (by omega), (by omega), (by omega), (by omega), (by omega), (by unfold In64; omega), (by omega), (by omega), (by omega), (by omega), (by unfold In64; omega), (by omega), (by omega), (by omega), (by omega), (by unfold In64; omega), (by omega), (by omega), (by omega), (by omega), (by unfold In64; omega), (by omega), (by omega), (by omega), (by omega), (by unfold In64; omega), (by omega), (by omega), (by omega), (by omega), (by unfold In64; omega), (by omega), (by omega), (by omega), (by omega), (by unfold In64; omega), (by omega), (by omega), (by omega), (by omega), (by unfold In64; omega), (Nat.le_trans (Nat.add_le_add (hpl hz g (by omega)) (hwl hz g hlt)) (by decide)), (w154 [WINDOW] (nums (h.ws.getD g default)) io jo (by decide) (show 25 <= 1000 by decide) (fun n hn => hio hz n (nums_bd (z6 g hlt) n hn).1 (nums_bd (z6 g hlt) n hn).2) hj (jo_lt (Nat.le_trans (hwl hz g hlt) (by decide)))), (by unfold In64; omega), ⟨g + 1, by omega, by omega, rfl⟩⟩
     · have hge : g = h.ws.length := by have h9 := of_decide_eq_false hd; have h8 := hg; (try simp only [List.length_map] at h8 h9); omega
       subst hge
       rw [if_neg (by rw [hz]; decide), hz]
 exact c_of Tryz.f85 ({ fzB (mkB (sp85 h) 85 [(7, 1, rdL 25 encWn h.ws 25 true)] (la85 jo io h)) with hs := hs85 io jo, cl := clL [39], bx := fun i => if i.beq 2 then [.frzo 8] else [] }) (by kernel_rfl) (by kernel_rfl) (by kernel_rfl) (by kernel_rfl) key (by kernel_rfl)
theorem jn_2 (x y : List UInt8) (t : List (List UInt8)) : Lib.join (x :: y :: t) [32] = x ++ ([32] ++ Lib.join (y :: t) [32]) := by
 simp [Lib.join, List.intercalate, List.intersperse]
theorem jn_1 (x : List UInt8) : Lib.join [x] [32] = x := by
 simp [Lib.join, List.intercalate, List.intersperse]
theorem lnH_e {jo : List (List UInt8) -> List UInt8} (io : Int -> List UInt8) (hj : ∀ L, jo L = Lib.join L [32]) (h : Hm) : lnH jo io h = HOME ++ ([32] ++ (h.nm ++ ([32] ++ (io h.pe ++ [10])))) := by
 unfold lnH
 rw [hj]
 simp only [List.map_cons, List.map_nil, List.cons_append, List.nil_append, jn_2, jn_1, List.append_assoc]
theorem join_len {io : Int -> List UInt8} (hil : ∀ n, (io n).length <= 10) : ∀ (L : List Int) (x : List UInt8), (Lib.join (x :: L.map io) [32]).length <= x.length + 11 * L.length
 | [], x => by rw [List.map_nil, jn_1]; simp
 | a :: L, x => by
  have h1 := join_len hil L (io a)
  have h2 := hil a
  rw [List.map_cons, jn_2, List.length_append, List.length_append, List.length_singleton, List.length_cons]
  omega
theorem lnW_len {jo : List (List UInt8) -> List UInt8} {io : Int -> List UInt8} (hj : ∀ L, jo L = Lib.join L [32]) (hil : ∀ n, (io n).length <= 10) (w : Wn) : (lnW jo io w).length <= 300 := by
 have h1 : (Lib.join (WINDOW :: (nums w).map io) [32]).length <= 6 + 11 * 25 := join_len hil (nums w) WINDOW
 unfold lnW
 rw [hj, List.length_append, List.length_singleton]
 exact Nat.le_trans (Nat.add_le_add h1 (Nat.le_refl 1)) (by decide)
theorem lnH_len {jo : List (List UInt8) -> List UInt8} {io : Int -> List UInt8} (hj : ∀ L, jo L = Lib.join L [32]) (hil : ∀ n, (io n).length <= 10) (h : Hm) : (lnH jo io h).length <= h.nm.length + 20 := by
 have i0 := hil h.pe
 rw [lnH_e io hj]
 simp only [List.length_append, List.length_cons, List.length_nil, HOME]
 omega
theorem prT_len {jo : List (List UInt8) -> List UInt8} {io : Int -> List UInt8} (hj : ∀ L, jo L = Lib.join L [32]) (hil : ∀ n, (io n).length <= 10) (h : Hm) : ∀ k, (prT jo io h k).length <= h.nm.length + 20 + 300 * k
 | 0 => lnH_len hj hil h
 | k + 1 => by
  have h1 := prT_len hj hil h k
  have h2 := lnW_len hj hil (h.ws.getD k default)
  rw [prT, List.length_append]
  omega
end Go.Proofs.YtfoeefaamjknpaaGreatDoor
namespace Go.Proofs.YtfoeefaamjknpaaGreatDoor
open Go Go.Av Go.RowKit
def bodyL (x : List UInt8) : List UInt8 := if cutS x [10] then x.take (x.length - [(10:UInt8)].length) else x
def wdsL (x : List UInt8) : List (List UInt8) := spl 32 (bodyL x)
def hdR (rows : List (List AV)) : List UInt8 := (dS rows).headD []
def tlR (rows : List (List AV)) : List (List AV) := (wdR (dS rows)).map encS
def bdW (rows : List (List AV)) (b : Bool) : Bool := wdB (dS rows) b
def nbW (rows : List (List AV)) (b : Bool) : Bool := if bdW rows b = true then true else !inB (hdR rows)
def rwN : Nat -> List (List AV) -> List (List AV)
 | 0, rows => rows
 | k + 1, rows => tlR (rwN k rows)
def roL (x : List UInt8) : List (List AV) := (wdsL x).map encS
def nbK : Nat -> List (List AV) -> Bool
 | 0, rows => bdW rows false
 | k + 1, rows => nbW (rwN (k + 1) rows) (nbK k rows)
def b0R (rows : List (List AV)) : Bool := nbW (rwN 2 rows) (bdW (rwN 1 rows) (bdW (rwN 0 rows) false))
def bad0 (x : List UInt8) : Bool := if (if (if (!cutS x [10]) = true then true else !(hdR (rwN 0 (roL x)) == HOME)) = true then true else b0R (roL x)) = true then true else decide (((rwN 3 (roL x)).length : Int) > 0)
def badV (x : List UInt8) : Bool := if (if (if (!cutS x [10]) = true then true else !(hdR (rwN 0 (roL x)) == WINDOW)) = true then true else nbK 25 (roL x)) = true then true else decide (((rwN 26 (roL x)).length : Int) > 0)
def badJ (i:Nat) (x : List UInt8) : Bool := if i = 0 then bad0 x else badV x
def wnL (x : List UInt8) : Wn := ⟨dgI (hdR (rwN 2 (roL x))), dgI (hdR (rwN 3 (roL x))), dgI (hdR (rwN 4 (roL x))), dgI (hdR (rwN 5 (roL x))), dgI (hdR (rwN 6 (roL x))), dgI (hdR (rwN 7 (roL x))), dgI (hdR (rwN 8 (roL x))), dgI (hdR (rwN 9 (roL x))), dgI (hdR (rwN 1 (roL x))), dgI (hdR (rwN 10 (roL x))), dgI (hdR (rwN 11 (roL x))), dgI (hdR (rwN 12 (roL x))), dgI (hdR (rwN 13 (roL x))), dgI (hdR (rwN 14 (roL x))), dgI (hdR (rwN 15 (roL x))), dgI (hdR (rwN 16 (roL x))), dgI (hdR (rwN 17 (roL x))), dgI (hdR (rwN 18 (roL x))), dgI (hdR (rwN 19 (roL x))), dgI (hdR (rwN 20 (roL x))), dgI (hdR (rwN 21 (roL x))), dgI (hdR (rwN 22 (roL x))), dgI (hdR (rwN 23 (roL x))), dgI (hdR (rwN 24 (roL x))), dgI (hdR (rwN 25 (roL x)))⟩
def hmP : List (List UInt8) -> Hm
 | [] => ⟨[], 0, []⟩
 | x :: t => ⟨hdR (rwN 1 (roL x)), dgI (hdR (rwN 2 (roL x))), t.map wnL⟩
def hs86 : Nat -> List AV -> List ABlk -> Option AV
 | 159, _, [.box [.sl _ rows, .bool b]] => some (.gv true (.tup [.str (hdR rows), .agg [.sl 1 (tlR rows), .bool (bdW rows b)]]))
 | 158, _, [.box [.sl _ rows, .bool b]] => some (.gv true (.tup [.i (dgI (hdR rows)), .agg [.sl 1 (tlR rows), .bool (nbW rows b)]]))
 | _, _, _ => none
def sp86 : Nat -> List AV -> Option AV
 | 155, [.str s] => some (.fbox 185 [.str s])
 | 156, [.str s, _] => some (.tup [.str (bodyL s), .bool (cutS s [10])])
 | 157, [.str s, _] => some (.sl 1 ((spl 32 s).map encS))
 | 38, [.agg [.str s, .int _ p, .sl _ rows]] => some (.i (fHm ⟨s, p, rows.map decWn⟩))
 | n, x => spN n x
def fa86 (s : List UInt8) : FA := {
 X := List UInt8, xs := lns s, enc := encS
 post := [.renc 4 2 6, .keep [] [1, 2, 3, 4, 5, 6], .bound 9]
 Gh := List (List UInt8)
 st := fun g => ⟨[(2, .ptr 1 0), (3, .ptr 2 0), (4, .ptr 3 0), (6, .ptr 4 0), (7, .ptr 5 0)], [(1, .box [.str [], .i 0, .ex (.slice none 0 0)]), (2, .box [.i 0]), (3, .box [.i 0]), (4, .box [.str (hmP g).nm, .i (hmP g).pe, .own 6 ((hmP g).ws.map encWn).length]), (5, .box [.i g.length]), (6, .buf 189 25 ((hmP g).ws.map encWn))], 9⟩
 ok := fun pre g => g = pre ∧ ∀ j, j < pre.length -> badJ j (pre.getD j []) = false }
def psH (e0:Int) (k n : Nat) (h : Hm) : AV := if e0 != 0 then .tup [.agg (encHm ⟨[], 0, []⟩), .i 0, .i e0] else if k < n then .tup [.agg (encHm ⟨[], 0, []⟩), .i k, .i 25] else if fHm h != 0 then .tup [.agg (encHm ⟨[], 0, []⟩), .i n, .i (fHm h)] else .tup [.agg (encHm h), .i 0, .i 0]
def e86 (s : List UInt8) : Int := sFirst [sWhen (decide ((s.length : Int) > 4096)) 26, sWhen (s == []) 25]
def k86 (s : List UInt8) : Nat := fiN (fun i => badJ i ((lns s).getD i [])) (lns s).length
def g86 : Nat -> List GS := fun i => if i.beq 3 then [.nilb 1 2 25] else if i.beq 5 then [.reno 2 1, .reno 3 2, .reno 4 3, .reno 6 4, .reno 7 5, .ownb 4 2 189 25, .renc 4 2 6, .keep [0, 2, 3, 4, 6, 7] [1, 2, 3, 4, 5, 6], .bound 7] else if i.beq 6 then [.keep [2, 3, 4, 6, 7, 33] [1, 2, 3, 4, 5, 6, 8], .bound 9] else if i.beq 31 then [.nilb 1 2 25] else if i.beq 35 then [.nilb 1 2 25] else []
theorem hd_r (ws : List (List UInt8)) : hdR (ws.map encS) = ws.headD [] := by rw [hdR, dS_e]
theorem tl_r (ws : List (List UInt8)) : tlR (ws.map encS) = (wdR ws).map encS := by rw [tlR, dS_e]
def wdN : Nat -> List (List UInt8) -> List (List UInt8)
 | 0, ws => ws
 | k + 1, ws => wdR (wdN k ws)
theorem rw_e (ws : List (List UInt8)) : ∀ k, rwN k (ws.map encS) = (wdN k ws).map encS
 | 0 => rfl
 | k + 1 => by rw [rwN, rw_e ws k, tl_r, wdN]
theorem wdR_sub (ws : List (List UInt8)) : (wdR ws).Sublist ws := by
 unfold wdR
 split
 · exact List.nil_sublist _
 · exact List.tail_sublist ws
theorem wdN_sub (ws : List (List UInt8)) : ∀ k, (wdN k ws).Sublist ws
 | 0 => List.Sublist.refl _
 | k + 1 => (wdR_sub _).trans (wdN_sub ws k)
theorem w159k (k:Nat) (ws : List (List UInt8)) (b : Bool) (hw : ws.length <= 1000000) : WCall Tryz.prog G0 159 [.ptr 1 0] [ABlk.box [.sl 1 (rwN k (ws.map encS)), .bool b]] (.str (hdR (rwN k (ws.map encS)))) [ABlk.box [.sl 1 (tlR (rwN k (ws.map encS))), .bool (bdW (rwN k (ws.map encS)) b)]] := by
 rw [rw_e, hd_r, tl_r, bdW, dS_e]
 exact w159 _ b (Nat.le_trans (wdN_sub ws k).length_le hw)
theorem w158k (k:Nat) (ws : List (List UInt8)) (b : Bool) (hw : ws.length <= 1000000) (hl : ∀ x, x ∈ ws -> x.length <= 1000000) : WCall Tryz.prog G0 158 [.ptr 1 0] [ABlk.box [.sl 1 (rwN k (ws.map encS)), .bool b]] (.i (dgI (hdR (rwN k (ws.map encS))))) [ABlk.box [.sl 1 (tlR (rwN k (ws.map encS))), .bool (nbW (rwN k (ws.map encS)) b)]] := by
 rw [rw_e, nbW, hd_r, tl_r, bdW, dS_e]
 exact w158 _ b (Nat.le_trans (wdN_sub ws k).length_le hw) (fun x hx => hl x ((wdN_sub ws k).subset hx))
theorem ln_len : ∀ {L : List (List UInt8)} {s : List UInt8}, isLn L s -> L.length <= s.length ∧ ∀ x, x ∈ L -> x.length <= s.length
 | [], s, _ => ⟨Nat.zero_le _, fun x hx => by simp at hx⟩
 | x :: L, s, ⟨h1, h2, h3⟩ => by
  obtain ⟨i1, i2⟩ := ln_len h3
  have h4 := tl_len h1
  have h5 := congrArg List.length (hd_tl s)
  rw [List.length_append] at h5
  refine ⟨by rw [List.length_cons]; omega, fun y hy => ?_⟩
  rcases List.mem_cons.1 hy with rfl | hy
  · rw [h2]; omega
  · have := i2 y hy; omega
theorem spl_len (c:UInt8) : ∀ s : List UInt8, (spl c s).length <= s.length + 1 ∧ ∀ x, x ∈ spl c s -> x.length <= s.length
 | [] => by simp [spl]
 | a :: t => by
  obtain ⟨h1, h2⟩ := spl_len c t
  have h3 := spl_cons c t
  rw [spl]
  split
  · refine ⟨by simp only [List.length_cons]; omega, fun x hx => ?_⟩
    rcases List.mem_cons.1 hx with rfl | hx
    · exact Nat.zero_le _
    · have := h2 x hx; simp only [List.length_cons]; omega
  · have h4 := congrArg List.length h3
    rw [List.length_cons] at h4
    refine ⟨by simp only [List.length_cons]; omega, fun x hx => ?_⟩
    rcases List.mem_cons.1 hx with rfl | hx
    · have := h2 ((spl c t).headD []) (by rw [<- h3]; exact List.mem_cons_self ..)
      simp only [List.length_cons]; omega
    · have := h2 x (by rw [<- h3]; exact List.mem_cons_of_mem _ hx)
      simp only [List.length_cons]; omega
theorem body_len (x : List UInt8) : (bodyL x).length <= x.length := by
 unfold bodyL
 split
 · rw [List.length_take]; omega
 · exact Nat.le_refl _
def dgV (s : List UInt8) : Int := if inB s then digV s s.length else 0
def wsR (s : List UInt8) (i:Nat) : List (List UInt8) := spl 32 ((spl 10 s).getD i [])
def rt0 (i:Nat) (rows : List (List AV)) : Bool := if (if (if (if ((i:Int) == 0) = true then (rows.length : Int) == 3 else false) = true then (dS rows).getD 0 [] == HOME else false) = true then !((dS rows).getD 1 [] == []) else false) = true then true else if (if decide ((i:Int) > 0) = true then (rows.length : Int) == 26 else false) = true then (dS rows).getD 0 [] == WINDOW else false
def skB (i n : Nat) : Bool := decide (i = 0 ∧ n = 0)
def rtN (i:Nat) (rows : List (List AV)) : Nat -> Bool
 | 0 => rt0 i rows
 | n + 1 => if skB i n = true then rtN i rows n else if rtN i rows n = true then inB ((dS rows).getD (n + 1) []) else false
def lsN (i:Nat) (rows : List (List AV)) : Nat -> List Int
 | 0 => []
 | n + 1 => if skB i n = true then lsN i rows n else lsN i rows n ++ [dgV ((dS rows).getD (n + 1) [])]
def roR (s : List UInt8) (i:Nat) : List (List AV) := (wsR s i).map encS
def okR (s : List UInt8) (i:Nat) : Bool := rtN i (roR s i) ((wsR s i).length - 1)
def lsR (s : List UInt8) (i:Nat) : List Int := lsN i (roR s i) ((wsR s i).length - 1)
def goodJ (s : List UInt8) (j:Nat) : Bool := if j + 1 = (spl 10 s).length then (spl 10 s).getD j [] == [] else okR s j
def wnO (l : List Int) : Wn := ⟨l.getD 1 0, l.getD 2 0, l.getD 3 0, l.getD 4 0, l.getD 5 0, l.getD 6 0, l.getD 7 0, l.getD 8 0, l.getD 0 0, l.getD 9 0, l.getD 10 0, l.getD 11 0, l.getD 12 0, l.getD 13 0, l.getD 14 0, l.getD 15 0, l.getD 16 0, l.getD 17 0, l.getD 18 0, l.getD 19 0, l.getD 20 0, l.getD 21 0, l.getD 22 0, l.getD 23 0, l.getD 24 0⟩
def hmR (s : List UInt8) : Nat -> Hm
 | 0 => ⟨[], 0, []⟩
 | i + 1 => if i + 1 = (spl 10 s).length then hmR s i else if i = 0 then ⟨(wsR s 0).getD 1 [], (lsR s 0).getD 0 0, []⟩ else ⟨(hmR s i).nm, (hmR s i).pe, (hmR s i).ws ++ [wnO (lsR s i)]⟩
def kG (s : List UInt8) : Nat := fiN (fun j => !goodJ s j) (spl 10 s).length
def psG (e0:Int) (k n : Nat) (h : Hm) : AV := if e0 != 0 then .tup [.agg (encHm ⟨[], 0, []⟩), .i 0, .i e0] else if k < n then .tup [.agg (encHm ⟨[], 0, []⟩), .i k, .i 25] else if fHm h != 0 then .tup [.agg (encHm ⟨[], 0, []⟩), .i ((n:Int) - 1), .i (fHm h)] else .tup [.agg (encHm h), .i 0, .i 0]
def e88 (s : List UInt8) : Int := if decide ((s.length : Int) > 4096) = true then 26 else if (s == []) = true then 25 else 0
theorem wd_dec : ∀ l : List Wn, (l.map encWn).map decWn = l
 | [] => rfl
 | x :: l => by rw [List.map_cons, List.map_cons, wd_dec l, decWn_e]
theorem kg_e {s : List UInt8} {g : Nat} (hg : g < (spl 10 s).length) (ha : ∀ j, j < g -> goodJ s j = true) (hb : goodJ s g = false) : kG s = g :=
 fi_some (fun j hj => by rw [ha j hj]; rfl) (by rw [hb]; rfl) hg
theorem kg_n {s : List UInt8} (ha : ∀ j, j < (spl 10 s).length -> goodJ s j = true) : kG s = (spl 10 s).length :=
 fi_none fun j hj => by rw [ha j hj]; rfl
end Go.Proofs.YtfoeefaamjknpaaGreatDoor
namespace Go.Proofs.YtfoeefaamjknpaaGreatDoor
open Go Go.Av Go.RowKit
def lnP : List (List UInt8) -> List (List UInt8)
 | [] => []
 | [x] => if x = [] then [] else [x]
 | x :: y :: t => (x ++ [10]) :: lnP (y :: t)
theorem spl_ln : ∀ s : List UInt8, (spl 10 s = [s] ∧ hdL s = s ∧ tlL s = []) ∨ ∃ x, hdL s = x ++ [10] ∧ spl 10 s = x :: spl 10 (tlL s)
 | [] => .inl ⟨rfl, rfl, rfl⟩
 | c :: t => by
  by_cases h : c = 10
  · subst h
    exact .inr ⟨[], rfl, rfl⟩
  · have hb : (c == 10) = false := beq_false_of_ne h
    rcases spl_ln t with ⟨h1, h2, h3⟩ | ⟨x, h1, h2⟩
    · exact .inl ⟨by rw [spl, hb, h1]; rfl, by rw [hdL, hb, h2]; rfl, by rw [tlL, hb, h3]; rfl⟩
    · exact .inr ⟨c :: x, by rw [hdL, hb, h1]; rfl, by rw [spl, tlL, hb, h2]; rfl⟩
theorem isLn_uniq : ∀ {A B : List (List UInt8)} {s : List UInt8}, isLn A s -> isLn B s -> A = B
 | [], [], _, _, _ => rfl
 | [], _ :: _, _, h, g => absurd h g.1
 | _ :: _, [], _, h, g => absurd g h.1
 | x :: A, y :: B, s, ⟨_, h2, h3⟩, ⟨_, g2, g3⟩ => by rw [h2, g2, isLn_uniq h3 g3]
theorem lnP_is : ∀ (n:Nat) (s : List UInt8), s.length <= n -> isLn (lnP (spl 10 s)) s
 | 0, s, h => by
  cases s with
  | nil => exact rfl
  | cons _ _ => simp at h
 | n + 1, s, h => by
  by_cases q : s = []
  · subst q; exact rfl
  · rcases spl_ln s with ⟨h1, h2, h3⟩ | ⟨x, h1, h2⟩
    · rw [h1, lnP, if_neg q]
      exact ⟨q, h2.symm, h3⟩
    · have hlt := tl_len q
      have ih := lnP_is n (tlL s) (by omega)
      rw [h2]
      cases hP : spl 10 (tlL s) with
      | nil => exact absurd hP (spl_ne _ _)
      | cons y t =>
       rw [hP] at ih
       exact ⟨q, h1.symm, ih⟩
theorem lns_eq (s : List UInt8) : lns s = lnP (spl 10 s) := isLn_uniq (lns_is s) (lnP_is _ s (Nat.le_refl _))
theorem lnP_len : ∀ P : List (List UInt8), P ≠ [] -> (lnP P).length = (P.length - 1) + (if P.getD (P.length - 1) [] = [] then 0 else 1)
 | [], h => absurd rfl h
 | [x], _ => by
  rw [lnP]
  by_cases q : x = []
  · subst q; rfl
  · rw [if_neg q, show [x].getD ([x].length - 1) [] = x from rfl, if_neg q]; rfl
 | x :: y :: t, _ => by
  have ih := lnP_len (y :: t) (by simp)
  rw [lnP, List.length_cons, ih, show (x :: y :: t).getD ((x :: y :: t).length - 1) [] = (y :: t).getD ((y :: t).length - 1) [] from rfl]
  simp only [List.length_cons]
  omega
theorem lnP_get : ∀ (P : List (List UInt8)) (i:Nat), i + 1 < P.length -> (lnP P).getD i [] = P.getD i [] ++ [10]
 | [], i, h => by simp at h
 | [x], i, h => by simp at h
 | x :: y :: t, 0, _ => rfl
 | x :: y :: t, i + 1, h => lnP_get (y :: t) i (by simpa using h)
theorem lnP_last : ∀ P : List (List UInt8), P ≠ [] -> P.getD (P.length - 1) [] ≠ [] -> (lnP P).getD (P.length - 1) [] = P.getD (P.length - 1) []
 | [], h, _ => absurd rfl h
 | [x], _, h => by
  have h : x ≠ [] := h
  rw [lnP, if_neg h]
 | x :: y :: t, _, h => lnP_last (y :: t) (by simp) h
theorem spl_no (c:UInt8) : ∀ (s : List UInt8) (x : List UInt8), x ∈ spl c s -> c ∉ x
 | [], x, h => by
  rw [spl, List.mem_singleton] at h
  subst h
  simp
 | a :: t, x, h => by
  rw [spl] at h
  by_cases q : a = c
  · rw [if_pos (by rw [q]; exact beq_self_eq_true c)] at h
    rcases List.mem_cons.1 h with rfl | h
    · simp
    · exact spl_no c t x h
  · rw [if_neg (by rw [beq_iff_eq]; exact q)] at h
    have e := spl_cons c t
    rcases List.mem_cons.1 h with rfl | h
    · have := spl_no c t ((spl c t).headD []) (by rw [<- e]; exact List.mem_cons_self ..)
      rw [List.mem_cons]
      exact fun hx => hx.elim (fun hx => q hx.symm) this
    · exact spl_no c t x (by rw [<- e]; exact List.mem_cons_of_mem _ h)
theorem dgI_dg {s : List UInt8} (h : inB s = true) : dgI s = dgV s := by
 have : inOK s = true := by
  unfold inB at h
  rw [Bool.and_eq_true] at h
  exact h.1
 rw [dgI, dgV, if_pos this, if_pos h]
theorem cut_end (b : List UInt8) : cutS (b ++ [10]) [10] = true ∧ bodyL (b ++ [10]) = b := by
 have h : cutS (b ++ [10]) [10] = true := by
  unfold cutS
  simp
 refine ⟨h, ?_⟩
 unfold bodyL
 rw [h, if_pos rfl]
 simp
theorem cut_no {x : List UInt8} (h : (10:UInt8) ∉ x) : cutS x [10] = false := by
 cases q : cutS x [10] with
 | false => rfl
 | true =>
  unfold cutS at q
  rw [Bool.and_eq_true, beq_iff_eq] at q
  exact absurd (List.mem_of_mem_drop (by rw [q.2]; exact List.mem_singleton.2 rfl)) h
theorem hd_k (ws : List (List UInt8)) (k:Nat) : hdR (rwN k (ws.map encS)) = (wdN k ws).headD [] := by rw [rw_e, hd_r]
theorem bd_k (ws : List (List UInt8)) (k:Nat) (b : Bool) : bdW (rwN k (ws.map encS)) b = wdB (wdN k ws) b := by rw [rw_e, bdW, dS_e]
theorem nb_k (ws : List (List UInt8)) (k:Nat) (b : Bool) : nbW (rwN k (ws.map encS)) b = (if wdB (wdN k ws) b then true else !inB ((wdN k ws).headD [])) := by rw [nbW, bd_k, hd_k]
theorem hd_drop (ws : List (List UInt8)) (k:Nat) : (ws.drop k).headD [] = ws.getD k [] := by
 rw [List.headD_eq_head?_getD, List.head?_drop, List.getD_eq_getElem?_getD]
theorem wd_drop {ws : List (List UInt8)} : ∀ k, (∀ j, j < k -> ws.getD j [] ≠ []) -> wdN k ws = ws.drop k
 | 0, _ => List.drop_zero.symm
 | k + 1, h => by
  have h1 := h k (by omega)
  rw [wdN, wd_drop k fun j hj => h j (by omega), wdR, hd_drop, if_neg (by rw [beq_iff_eq]; exact h1), List.tail_drop]
theorem get_lt {ws : List (List UInt8)} {j : Nat} (h : ws.getD j [] ≠ []) : j < ws.length := by
 refine Classical.byContradiction fun q => h ?_
 rw [List.getD_eq_getElem?_getD, List.getElem?_eq_none (by omega)]
 rfl
theorem wdB_f {ws : List (List UInt8)} {b : Bool} : wdB ws b = false ↔ ws.headD [] ≠ [] ∧ b = false := by
 unfold wdB
 by_cases h : ws.headD [] = []
 · rw [if_pos (by rw [h]; rfl)]
   exact ⟨fun q => (by cases q), fun q => absurd h q.1⟩
 · rw [if_neg (by rw [beq_iff_eq]; exact h)]
   exact ⟨fun q => ⟨h, q⟩, fun q => q.2⟩
theorem nbW_f {ws : List (List UInt8)} {k : Nat} {b : Bool} : nbW (rwN k (ws.map encS)) b = false ↔ ((wdN k ws).headD [] ≠ [] ∧ b = false) ∧ inB ((wdN k ws).headD []) = true := by
 rw [nb_k]
 by_cases h : wdB (wdN k ws) b = false
 · rw [h, if_neg (by decide)]
   have h2 := wdB_f.1 h
   exact ⟨fun q => ⟨h2, by simpa using q⟩, fun q => by rw [q.2]; rfl⟩
 · have h2 : wdB (wdN k ws) b = true := by simpa using h
   rw [h2, if_pos rfl]
   exact ⟨fun q => (by cases q), fun q => absurd (wdB_f.2 q.1) h⟩
theorem nb_iff {ws : List (List UInt8)} : ∀ k, nbK k (ws.map encS) = false ↔ (∀ j, j <= k -> ws.getD j [] ≠ []) ∧ ∀ j, 1 <= j -> j <= k -> inB (ws.getD j []) = true
 | 0 => by
  rw [nbK, show bdW (ws.map encS) false = wdB (wdN 0 ws) false from bd_k ws 0 false, wdB_f]
  have h0 : (wdN 0 ws).headD [] = ws.getD 0 [] := hd_drop ws 0
  rw [h0]
  exact ⟨fun h => ⟨fun j hj => by rw [show j = 0 by omega]; exact h.1, fun j h1 h2 => by omega⟩, fun h => ⟨h.1 0 (Nat.le_refl _), rfl⟩⟩
 | k + 1 => by
  rw [nbK, nbW_f, nb_iff k]
  constructor
  · rintro ⟨⟨h1, h2, h3⟩, h4⟩
    rw [wd_drop (k + 1) fun j hj => h2 j (by omega), hd_drop] at h1 h4
    refine ⟨fun j hj => ?_, fun j hj hj2 => ?_⟩
    · by_cases e : j = k + 1
      · rw [e]; exact h1
      · exact h2 j (by omega)
    · by_cases e : j = k + 1
      · rw [e]; exact h4
      · exact h3 j hj (by omega)
  · rintro ⟨h1, h2⟩
    rw [wd_drop (k + 1) fun j hj => h1 j (by omega), hd_drop]
    exact ⟨⟨h1 (k + 1) (Nat.le_refl _), fun j hj => h1 j (by omega), fun j hj hj2 => h2 j hj (by omega)⟩, h2 (k + 1) (by omega) (Nat.le_refl _)⟩
theorem b0_iff {ws : List (List UInt8)} : b0R (ws.map encS) = false ↔ (∀ j, j <= 2 -> ws.getD j [] ≠ []) ∧ inB (ws.getD 2 []) = true := by
 unfold b0R
 rw [nbW_f, bd_k, wdB_f, bd_k, wdB_f]
 have h0 : (wdN 0 ws).headD [] = ws.getD 0 [] := hd_drop ws 0
 rw [h0]
 constructor
 · rintro ⟨⟨h1, h2, h3, _⟩, h4⟩
   have e1 : wdN 1 ws = ws.drop 1 := wd_drop 1 fun j hj => by rw [show j = 0 by omega]; exact h3
   rw [e1, hd_drop] at h2
   have e2 : wdN 2 ws = ws.drop 2 := wd_drop 2 fun j hj => by
    by_cases e : j = 0
    · rw [e]; exact h3
    · rw [show j = 1 by omega]; exact h2
   rw [e2, hd_drop] at h1 h4
   refine ⟨fun j hj => ?_, h4⟩
   by_cases e : j = 0
   · rw [e]; exact h3
   · by_cases e' : j = 1
     · rw [e']; exact h2
     · rw [show j = 2 by omega]; exact h1
 · rintro ⟨h1, h2⟩
   have e1 : wdN 1 ws = ws.drop 1 := wd_drop 1 fun j hj => h1 j (by omega)
   have e2 : wdN 2 ws = ws.drop 2 := wd_drop 2 fun j hj => h1 j (by omega)
   rw [e1, e2, hd_drop, hd_drop]
   exact ⟨⟨h1 2 (by omega), h1 1 (by omega), h1 0 (by omega), rfl⟩, h2⟩
theorem rt_iff (i:Nat) (rows : List (List AV)) : ∀ n, rtN i rows n = true ↔ rt0 i rows = true ∧ ∀ j, 1 <= j -> j <= n -> ¬ (i = 0 ∧ j = 1) -> inB ((dS rows).getD j []) = true
 | 0 => ⟨fun h => ⟨h, fun j h1 h2 => by omega⟩, fun h => h.1⟩
 | n + 1 => by
  have ih := rt_iff i rows n
  rw [rtN]
  by_cases q : i = 0 ∧ n = 0
  · rw [if_pos (show skB i n = true from decide_eq_true q), ih]
    refine ⟨fun h => ⟨h.1, fun j h1 h2 h3 => ?_⟩, fun h => ⟨h.1, fun j h1 h2 h3 => h.2 j h1 (by omega) h3⟩⟩
    exact absurd ⟨q.1, by omega⟩ h3
  · rw [if_neg (show ¬ skB i n = true by unfold skB; rw [decide_eq_true_eq]; exact q)]
    by_cases q2 : rtN i rows n = true
    · rw [if_pos q2]
      have h0 := ih.1 q2
      refine ⟨fun h => ⟨h0.1, fun j h1 h2 h3 => ?_⟩, fun h => h.2 (n + 1) (by omega) (Nat.le_refl _) (by omega)⟩
      by_cases e : j = n + 1
      · rw [e]; exact h
      · exact h0.2 j h1 (by omega) h3
    · rw [if_neg q2]
      exact ⟨fun h => (by cases h), fun h => absurd (ih.2 ⟨h.1, fun j h1 h2 h3 => h.2 j h1 (by omega) h3⟩) q2⟩
theorem rt0_0 (ws : List (List UInt8)) : rt0 0 (ws.map encS) = true ↔ ws.length = 3 ∧ ws.getD 0 [] = HOME ∧ ws.getD 1 [] ≠ [] := by
 unfold rt0
 rw [dS_e, List.length_map]
 by_cases h1 : ws.length = 3 <;> by_cases h2 : ws.getD 0 [] = HOME <;> by_cases h3 : ws.getD 1 [] = [] <;> simp [h1, h2, h3] <;> omega
theorem rt0_V {i : Nat} (hi : i ≠ 0) (ws : List (List UInt8)) : rt0 i (ws.map encS) = true ↔ ws.length = 26 ∧ ws.getD 0 [] = WINDOW := by
 unfold rt0
 rw [dS_e, List.length_map]
 have h0 : (0:Int) < (i:Int) := by omega
 by_cases h1 : ws.length = 26 <;> by_cases h2 : ws.getD 0 [] = WINDOW <;> simp [h1, h2, hi] <;> omega
theorem nor3 {a b c d : Bool} : (if (if (if a = true then true else b) = true then true else c) = true then true else d) = false ↔ a = false ∧ b = false ∧ c = false ∧ d = false := by
 cases a <;> cases b <;> cases c <;> cases d <;> decide
theorem bad_0 (b : List UInt8) : bad0 (b ++ [10]) = !rtN 0 ((spl 32 b).map encS) ((spl 32 b).length - 1) := by
 obtain ⟨h1, h2⟩ := cut_end b
 have key : bad0 (b ++ [10]) = false ↔ rtN 0 ((spl 32 b).map encS) ((spl 32 b).length - 1) = true := by
  unfold bad0 roL wdsL
  rw [h1, h2, nor3]
  generalize spl 32 b = ws
  rw [rt_iff, rt0_0, dS_e, b0_iff, hd_k, show (wdN 0 ws).headD [] = ws.getD 0 [] from hd_drop ws 0, rw_e, List.length_map]
  constructor
  · rintro ⟨_, g1, ⟨g2, g3⟩, g4⟩
    have e := wd_drop (ws := ws) 3 fun j hj => g2 j (by omega)
    rw [e, List.length_drop] at g4
    have g5 := of_decide_eq_false g4
    have g6 := get_lt (g2 2 (by omega))
    refine ⟨⟨by omega, by simpa using g1, g2 1 (by omega)⟩, fun j j1 j2 j3 => ?_⟩
    rw [show j = 2 by omega]
    exact g3
  · rintro ⟨⟨g1, g2, g3⟩, g4⟩
    have g5 := g4 2 (by omega) (by omega) (by omega)
    have g6 : ∀ j, j <= 2 -> ws.getD j [] ≠ [] := fun j hj => by
     by_cases e : j = 0
     · rw [e, g2]; decide
     · by_cases e' : j = 1
       · rw [e']; exact g3
       · rw [show j = 2 by omega]
         intro q
         rw [q] at g5
         cases g5
    have e := wd_drop (ws := ws) 3 fun j hj => g6 j (by omega)
    refine ⟨rfl, by rw [g2]; decide, ⟨g6, g5⟩, ?_⟩
    rw [e, List.length_drop]
    exact decide_eq_false (by omega)
 cases q : rtN 0 ((spl 32 b).map encS) ((spl 32 b).length - 1) with
 | true => exact key.2 q
 | false =>
  cases q2 : bad0 (b ++ [10]) with
  | true => rfl
  | false => rw [key.1 q2] at q; cases q
theorem bad_V {i : Nat} (hi : i ≠ 0) (b : List UInt8) : badV (b ++ [10]) = !rtN i ((spl 32 b).map encS) ((spl 32 b).length - 1) := by
 obtain ⟨h1, h2⟩ := cut_end b
 have key : badV (b ++ [10]) = false ↔ rtN i ((spl 32 b).map encS) ((spl 32 b).length - 1) = true := by
  unfold badV roL wdsL
  rw [h1, h2, nor3]
  generalize spl 32 b = ws
  rw [rt_iff, rt0_V hi, dS_e, nb_iff, hd_k, show (wdN 0 ws).headD [] = ws.getD 0 [] from hd_drop ws 0, rw_e, List.length_map]
  constructor
  · rintro ⟨_, g1, ⟨g2, g3⟩, g4⟩
    have e := wd_drop (ws := ws) 26 fun j hj => g2 j (by omega)
    rw [e, List.length_drop] at g4
    have g5 := of_decide_eq_false g4
    have g6 := get_lt (g2 25 (by omega))
    exact ⟨⟨by omega, by simpa using g1⟩, fun j j1 j2 _ => g3 j j1 (by omega)⟩
  · rintro ⟨⟨g1, g2⟩, g4⟩
    have g5 : ∀ j, 1 <= j -> j <= 25 -> inB (ws.getD j []) = true := fun j j1 j2 => g4 j j1 (by omega) (by omega)
    have g6 : ∀ j, j <= 25 -> ws.getD j [] ≠ [] := fun j hj => by
     by_cases e : j = 0
     · rw [e, g2]; decide
     · intro q
       have := g5 j (by omega) hj
       rw [q] at this
       cases this
    have e := wd_drop (ws := ws) 26 fun j hj => g6 j (by omega)
    refine ⟨rfl, by rw [g2]; decide, ⟨g6, g5⟩, ?_⟩
    rw [e, List.length_drop]
    exact decide_eq_false (by omega)
 cases q : rtN i ((spl 32 b).map encS) ((spl 32 b).length - 1) with
 | true => exact key.2 q
 | false =>
  cases q2 : badV (b ++ [10]) with
  | true => rfl
  | false => rw [key.1 q2] at q; cases q
theorem bad_no {x : List UInt8} (h : (10:UInt8) ∉ x) (i:Nat) : badJ i x = true := by
 unfold badJ bad0 badV
 rw [cut_no h]
 split <;> rfl
def cntR (s : List UInt8) : Nat := (spl 10 s).length - 1
def lstR (s : List UInt8) : List UInt8 := (spl 10 s).getD (cntR s) []
theorem cnt_lt (s : List UInt8) : cntR s < (spl 10 s).length := by
 have := List.length_pos_iff.2 (spl_ne 10 s)
 unfold cntR
 omega
theorem lns_len (s : List UInt8) : (lns s).length = cntR s + (if lstR s = [] then 0 else 1) := by rw [lns_eq]; exact lnP_len _ (spl_ne 10 s)
theorem lns_get {s : List UInt8} {i : Nat} (h : i < cntR s) : (lns s).getD i [] = (spl 10 s).getD i [] ++ [10] := by
 rw [lns_eq]
 exact lnP_get _ _ (by unfold cntR at h; omega)
theorem line_bad {s : List UInt8} {i : Nat} (h : i < cntR s) : badJ i ((lns s).getD i []) = !goodJ s i := by
 have hc := cnt_lt s
 rw [lns_get h]
 unfold goodJ
 rw [if_neg (by unfold cntR at h; omega)]
 unfold badJ okR roR wsR
 by_cases e : i = 0
 · subst e
   rw [if_pos rfl, bad_0]
 · rw [if_neg e, bad_V e]
theorem last_bad {s : List UInt8} (h : lstR s ≠ []) : badJ (cntR s) ((lns s).getD (cntR s) []) = !goodJ s (cntR s) := by
 have hc := cnt_lt s
 have e : (lns s).getD (cntR s) [] = lstR s := by
  rw [lns_eq]
  exact lnP_last _ (spl_ne 10 s) h
 have hg : goodJ s (cntR s) = false := by
  unfold goodJ
  rw [if_pos (by unfold cntR at hc ⊢; omega)]
  exact beq_eq_false_iff_ne.2 h
 rw [e, hg]
 refine bad_no (spl_no 10 s _ ?_) _
 unfold lstR
 rw [List.getD_eq_getElem?_getD, List.getElem?_eq_getElem hc]
 exact List.getElem_mem _
theorem v_k {i : Nat} {b : List UInt8} (hi : i ≠ 0) (h : rtN i ((spl 32 b).map encS) ((spl 32 b).length - 1) = true) {k : Nat} (h1 : 1 <= k) (h2 : k <= 25) : dgI (hdR (rwN k (roL (b ++ [10])))) = dgV ((spl 32 b).getD k []) := by
 have h3 := bad_V hi b
 rw [h] at h3
 unfold badV roL wdsL at h3
 unfold roL wdsL
 rw [(cut_end b).2] at h3 ⊢
 have h4 := (nb_iff 25).1 (nor3.1 h3).2.2.1
 rw [hd_k, wd_drop k fun j hj => h4.1 j (by omega), hd_drop]
 exact dgI_dg (h4.2 k h1 h2)
theorem ls_e {i : Nat} (hi : i ≠ 0) (rows : List (List AV)) : ∀ n, lsN i rows n = (List.range n).map fun j => dgV ((dS rows).getD (j + 1) [])
 | 0 => rfl
 | n + 1 => by
  rw [lsN, if_neg (by unfold skB; rw [decide_eq_true_eq]; exact fun q => hi q.1), ls_e hi rows n, List.range_succ, List.map_append]
  rfl
theorem l_k {i : Nat} (hi : i ≠ 0) (ws : List (List UInt8)) {n k : Nat} (hk : k < n) : (lsN i (ws.map encS) n).getD k 0 = dgV (ws.getD (k + 1) []) := by
 rw [ls_e hi, dS_e]
 simp [List.getD_eq_getElem?_getD, hk]
theorem wn_eq {s : List UInt8} {i : Nat} (hi : i ≠ 0) (h : okR s i = true) : wnL ((spl 10 s).getD i [] ++ [10]) = wnO (lsR s i) := by
 unfold okR roR wsR at h
 have h26 := ((rt0_V hi _).1 ((rt_iff _ _ _).1 h).1).1
 have e : ∀ k, k < 25 -> dgI (hdR (rwN (k + 1) (roL ((spl 10 s).getD i [] ++ [10])))) = (lsR s i).getD k 0 := fun k hk => by
  rw [v_k hi h (by omega) (by omega)]
  unfold lsR roR wsR
  rw [l_k hi _ (by omega)]
 unfold wnL wnO
 rw [e 0 (by decide), e 1 (by decide), e 2 (by decide), e 3 (by decide), e 4 (by decide), e 5 (by decide), e 6 (by decide), e 7 (by decide), e 8 (by decide), e 9 (by decide), e 10 (by decide), e 11 (by decide), e 12 (by decide), e 13 (by decide), e 14 (by decide), e 15 (by decide), e 16 (by decide), e 17 (by decide), e 18 (by decide), e 19 (by decide), e 20 (by decide), e 21 (by decide), e 22 (by decide), e 23 (by decide), e 24 (by decide)]
theorem hm_0 {s : List UInt8} (h : okR s 0 = true) : hmP [(spl 10 s).getD 0 [] ++ [10]] = ⟨(wsR s 0).getD 1 [], (lsR s 0).getD 0 0, []⟩ := by
 unfold okR roR wsR at h
 have h0 := (rt_iff _ _ _).1 h
 obtain ⟨g1, g2, g3⟩ := (rt0_0 _).1 h0.1
 have h3 := bad_0 ((spl 10 s).getD 0 [])
 rw [h] at h3
 unfold bad0 roL wdsL at h3
 rw [(cut_end _).2] at h3
 have h4 := b0_iff.1 (nor3.1 h3).2.2.1
 have e1 : hdR (rwN 1 (roL ((spl 10 s).getD 0 [] ++ [10]))) = (wsR s 0).getD 1 [] := by
  unfold roL wdsL wsR
  rw [(cut_end _).2, hd_k, wd_drop 1 fun j hj => h4.1 j (by omega), hd_drop]
 have e2 : dgI (hdR (rwN 2 (roL ((spl 10 s).getD 0 [] ++ [10])))) = (lsR s 0).getD 0 0 := by
  unfold roL wdsL lsR roR wsR
  rw [(cut_end _).2, hd_k, wd_drop 2 fun j hj => h4.1 j (by omega), hd_drop, g1, dgI_dg h4.2]
  show _ = (lsN 0 _ 2).getD 0 0
  rw [lsN, if_neg (by decide), lsN, if_pos (by decide), lsN, dS_e]
  rfl
 show (⟨hdR (rwN 1 (roL ((spl 10 s).getD 0 [] ++ [10]))), dgI (hdR (rwN 2 (roL ((spl 10 s).getD 0 [] ++ [10])))), [].map wnL⟩ : Hm) = _
 rw [e1, e2]
 rfl
theorem hmP_app {x y : List UInt8} (t : List (List UInt8)) : hmP (y :: t ++ [x]) = ⟨(hmP (y :: t)).nm, (hmP (y :: t)).pe, (hmP (y :: t)).ws ++ [wnL x]⟩ := by
 rw [List.cons_append, hmP, hmP, List.map_append]
 rfl
theorem hm_eq {s : List UInt8} (hl : (lns s).length = cntR s) (hg : ∀ j, j < cntR s -> goodJ s j = true) : ∀ i, i <= cntR s -> hmP ((lns s).take i) = hmR s i
 | 0, _ => rfl
 | i + 1, h => by
  have ih := hm_eq hl hg i (by omega)
  have hc := cnt_lt s
  have hok : okR s i = true := by
   have := hg i (by omega)
   unfold goodJ at this
   rw [if_neg (by unfold cntR at h; omega)] at this
   exact this
  have e : (lns s).take (i + 1) = (lns s).take i ++ [(spl 10 s).getD i [] ++ [10]] := by
   rw [<- lns_get (show i < cntR s by omega)]
   exact take_one1 (by omega)
  rw [e, hmR, if_neg (by unfold cntR at h; omega)]
  by_cases q : i = 0
  · subst q
    rw [if_pos rfl, List.take_zero, List.nil_append]
    exact hm_0 hok
  · rw [if_neg q, <- ih, <- wn_eq q hok]
    cases hq : (lns s).take i with
    | nil =>
     have := congrArg List.length hq
     rw [List.length_take, List.length_nil] at this
     omega
    | cons y t => exact hmP_app t
theorem e_eq (s : List UInt8) : e86 s = e88 s := by
 unfold e86 e88
 by_cases h1 : (s.length : Int) > 4096
 · rw [decide_eq_true h1]
   rfl
 · rw [decide_eq_false h1]
   cases s == [] <;> rfl
theorem ps_eq (s : List UInt8) : psH (e86 s) (k86 s) (lns s).length (hmP (lns s)) = psG (e88 s) (kG s) (spl 10 s).length (hmR s (spl 10 s).length) := by
 have hc := cnt_lt s
 have hcL : cntR s + 1 = (spl 10 s).length := by unfold cntR at hc ⊢; omega
 unfold psH psG
 rw [e_eq]
 by_cases h0 : (e88 s != 0) = true
 · rw [if_pos h0, if_pos h0]
 · rw [if_neg h0, if_neg h0]
   by_cases h : lstR s = []
   · have hl : (lns s).length = cntR s := by rw [lns_len, if_pos h]; rfl
     have hk : k86 s = fiN (fun j => !goodJ s j) (cntR s) := by
      unfold k86
      rw [hl]
      exact fi_congr fun j hj => line_bad hj
     have hlast : goodJ s (cntR s) = true := by
      unfold goodJ
      rw [if_pos hcL]
      exact beq_iff_eq.2 h
     have hG : kG s = if fiN (fun j => !goodJ s j) (cntR s) < cntR s then fiN (fun j => !goodJ s j) (cntR s) else cntR s + 1 := by
      unfold kG
      rw [<- hcL, fiN]
      split
      · rfl
      · rw [hlast]
        rfl
     rw [hl, hk, hG]
     by_cases q : fiN (fun j => !goodJ s j) (cntR s) < cntR s
     · rw [if_pos q, if_pos q, if_pos (by omega)]
     · rw [if_neg q, if_neg q, if_neg (show ¬ cntR s + 1 < (spl 10 s).length by omega)]
       have hgood : ∀ j, j < cntR s -> goodJ s j = true := fun j hj => by simpa using fi_all q j hj
       have e := hm_eq hl hgood (cntR s) (Nat.le_refl _)
       rw [List.take_of_length_le (by omega)] at e
       have e2 : hmR s (spl 10 s).length = hmR s (cntR s) := by rw [<- hcL, hmR, if_pos hcL]
       rw [e, e2, show (((spl 10 s).length : Nat) : Int) - 1 = (cntR s : Int) by omega]
   · have hl : (lns s).length = (spl 10 s).length := by rw [lns_len, if_neg h]; exact hcL
     have hk : k86 s = kG s := by
      unfold k86 kG
      rw [hl]
      refine fi_congr fun j hj => ?_
      by_cases e : j = cntR s
      · rw [e]; exact last_bad h
      · exact line_bad (by omega)
     have hlt : kG s < (spl 10 s).length := by
      have h9 := last_bad h
      have hf : goodJ s (cntR s) = false := by
       unfold goodJ
       rw [if_pos hcL]
       exact beq_eq_false_iff_ne.2 h
      unfold kG
      exact fi_ex (j := cntR s) hc (by rw [hf]; rfl)
     rw [hl, hk, if_pos hlt, if_pos hlt]
end Go.Proofs.YtfoeefaamjknpaaGreatDoor
namespace Go.Proofs.YtfoeefaamjknpaaGreatDoor
open Go Go.Av Go.RowKit
def jn (c:UInt8) : List (List UInt8) -> List UInt8
 | [] => []
 | [x] => x
 | x :: y :: t => x ++ c :: jn c (y :: t)
theorem spl_app (c:UInt8) : ∀ (a t : List UInt8), c ∉ a -> spl c (a ++ c :: t) = a :: spl c t
 | [], t, _ => by rw [List.nil_append, spl, if_pos (beq_self_eq_true c)]
 | x :: a, t, h => by
  have hx : x ≠ c := fun e => h (by rw [e]; exact List.mem_cons_self ..)
  rw [List.cons_append, spl, if_neg (by rw [beq_iff_eq]; exact hx), spl_app c a t (fun q => h (List.mem_cons_of_mem _ q))]
  rfl
theorem spl_one (c:UInt8) : ∀ (a : List UInt8), c ∉ a -> spl c a = [a]
 | [], _ => rfl
 | x :: a, h => by
  have hx : x ≠ c := fun e => h (by rw [e]; exact List.mem_cons_self ..)
  rw [spl, if_neg (by rw [beq_iff_eq]; exact hx), spl_one c a (fun q => h (List.mem_cons_of_mem _ q))]
  rfl
theorem spl_jn (c:UInt8) : ∀ W : List (List UInt8), W ≠ [] -> (∀ x, x ∈ W -> c ∉ x) -> spl c (jn c W) = W
 | [], h, _ => absurd rfl h
 | [x], _, h => by rw [jn, spl_one c x (h x (by simp))]
 | x :: y :: t, _, h => by rw [jn, spl_app c x _ (h x (by simp)), spl_jn c (y :: t) (by simp) (fun z hz => h z (List.mem_cons_of_mem _ hz))]
theorem mem_jn {c x : UInt8} : ∀ {W : List (List UInt8)}, x ∈ jn c W -> x = c ∨ ∃ w, w ∈ W ∧ x ∈ w
 | [], h => by simp [jn] at h
 | [w], h => .inr ⟨w, by simp, by rw [jn] at h; exact h⟩
 | w :: y :: t, h => by
  rw [jn] at h
  rcases List.mem_append.1 h with h | h
  · exact .inr ⟨w, by simp, h⟩
  · rcases List.mem_cons.1 h with h | h
    · exact .inl h
    · rcases mem_jn h with h | ⟨v, hv, hx⟩
      · exact .inl h
      · exact .inr ⟨v, List.mem_cons_of_mem _ hv, hx⟩
theorem spl_lines : ∀ (L : List (List UInt8)) (y : List UInt8), (∀ x, x ∈ L -> (10:UInt8) ∉ x) -> spl 10 ((L.map (· ++ [10])).flatten ++ y) = L ++ spl 10 y
 | [], y, _ => rfl
 | x :: L, y, h => by
  have ih := spl_lines L y (fun z hz => h z (List.mem_cons_of_mem _ hz))
  rw [List.map_cons, List.flatten_cons, List.append_assoc, List.append_assoc]
  show spl 10 (x ++ 10 :: ((L.map (· ++ [10])).flatten ++ y)) = _
  rw [spl_app 10 x _ (h x (by simp)), ih]
  rfl
theorem u8_dig {d : Nat} (h : d < 10) : (UInt8.ofNat (48 + d)).toNat = 48 + d := by
 show (48 + d) % 256 = 48 + d
 omega
theorem all_iff {s : List UInt8} {n : Nat} : allDg s n = true ↔ ∀ i, i < n -> digB (s.getD i 0) = true := by
 unfold allDg
 rw [List.all_eq_true]
 exact ⟨fun h i hi => h i (List.mem_range.2 hi), fun h i hi => h i (List.mem_range.1 hi)⟩
theorem getD_snoc {a : List UInt8} {c : UInt8} {i : Nat} (h : i < a.length) : (a ++ [c]).getD i 0 = a.getD i 0 := by
 rw [List.getD_eq_getElem?_getD, List.getD_eq_getElem?_getD, List.getElem?_append_left h]
theorem getD_snoc0 {a : List UInt8} {c : UInt8} : (a ++ [c]).getD a.length 0 = c := by
 rw [List.getD_eq_getElem?_getD, List.getElem?_append_right (Nat.le_refl _), Nat.sub_self]
 rfl
theorem dg_app (a : List UInt8) (c:UInt8) : ∀ k, k <= a.length -> digV (a ++ [c]) k = digV a k
 | 0, _ => rfl
 | k + 1, h => by rw [digV, digV, dg_app a c k (by omega), getD_snoc (by omega)]
theorem dg_snoc (a : List UInt8) (c:UInt8) : digV (a ++ [c]) (a.length + 1) = 10 * digV a a.length + ((c.toNat : Int) - 48) := by
 rw [digV, dg_app a c _ (Nat.le_refl _), getD_snoc0]
theorem all_snoc {a : List UInt8} {c : UInt8} : allDg (a ++ [c]) (a.length + 1) = true ↔ allDg a a.length = true ∧ digB c = true := by
 rw [all_iff, all_iff]
 constructor
 · intro h
   refine ⟨fun i hi => ?_, ?_⟩
   · have := h i (by omega)
     rwa [getD_snoc hi] at this
   · have := h a.length (by omega)
     rwa [getD_snoc0] at this
 · intro ⟨h1, h2⟩ i hi
   by_cases q : i < a.length
   · rw [getD_snoc q]; exact h1 i q
   · rw [show i = a.length by omega, getD_snoc0]; exact h2
theorem digB_of {d : Nat} (h : d < 10) : digB (UInt8.ofNat (48 + d)) = true := by
 unfold digB
 rw [u8_dig h, decide_eq_true (by omega), decide_eq_true (by omega)]
 rfl
theorem dd_ok (n:Nat) : allDg (Lib.decDigits n) (Lib.decDigits n).length = true ∧ digV (Lib.decDigits n) (Lib.decDigits n).length = n ∧ Lib.decDigits n ≠ [] ∧ (0 < n -> (Lib.decDigits n).getD 0 0 ≠ 48) := by
 induction n using Nat.strongRecOn with
 | _ n ih =>
  by_cases h0 : n < 10
  · have e : Lib.decDigits n = [UInt8.ofNat (48 + n)] := by rw [Lib.decDigits, dif_pos h0]
    rw [e]
    refine ⟨?_, ?_, by simp, fun hn => ?_⟩
    · exact all_snoc (a := []).2 ⟨rfl, digB_of h0⟩
    · have := dg_snoc [] (UInt8.ofNat (48 + n))
      rw [u8_dig h0] at this
      refine Eq.trans this ?_
      show 10 * (0:Int) + (((48 + n : Nat) : Int) - 48) = n
      omega
    · show UInt8.ofNat (48 + n) ≠ 48
      intro q
      have := congrArg UInt8.toNat q
      rw [u8_dig h0] at this
      have e48 : (48:UInt8).toNat = 48 := rfl
      omega
  · have hm : n % 10 < 10 := Nat.mod_lt _ (by decide)
    obtain ⟨i1, i2, i3, i4⟩ := ih (n / 10) (by omega)
    have e : Lib.decDigits n = Lib.decDigits (n / 10) ++ [UInt8.ofNat (48 + n % 10)] := by rw [dd_step (show n ≠ 0 by omega), if_neg (by omega)]
    rw [e]
    revert i1 i2 i3 i4
    generalize Lib.decDigits (n / 10) = a
    intro i1 i2 i3 i4
    rw [List.length_append, List.length_singleton]
    refine ⟨all_snoc.2 ⟨i1, digB_of hm⟩, ?_, by simp, fun _ => ?_⟩
    · rw [dg_snoc, i2, u8_dig hm]
      omega
    · rw [getD_snoc (List.length_pos_iff.2 i3)]
      exact i4 (by omega)
theorem dd_len9 {n : Nat} (h : n < 1000000000) : (Lib.decDigits n).length <= 9 := by
 rw [<- ddF_eq 8 n (by omega)]
 exact ddF_len 8 n
theorem dd_in {n : Nat} (h : n < 1000000000) : inB (Lib.decDigits n) = true := by
 obtain ⟨h1, h2, h3, h4⟩ := dd_ok n
 have h5 := dd_len9 h
 have hok : inOK (Lib.decDigits n) = true := by
  unfold inOK
  rw [decide_eq_true h5, h1]
  rfl
 unfold inB
 rw [hok, Bool.true_and, Bool.and_eq_true, Bool.or_eq_true]
 refine ⟨by rw [Bool.not_eq_true', beq_eq_false_iff_ne]; exact h3, ?_⟩
 by_cases q : 0 < n
 · exact .inr (by rw [Bool.not_eq_true', beq_eq_false_iff_ne]; exact h4 q)
 · have : n = 0 := by omega
   subst this
   refine .inl ?_
   rw [Lib.decDigits, dif_pos (by decide)]
   rfl
theorem itoa_nn {n : Int} (h : 0 <= n) : Lib.itoa n = Lib.decDigits n.toNat := by
 rw [Lib.itoa, if_neg (by omega)]
 try (congr 1; omega)
theorem it_ok {n : Int} (h : 0 <= n ∧ n < 1000000000) : inB (Lib.itoa n) = true ∧ dgV (Lib.itoa n) = n ∧ (32:UInt8) ∉ Lib.itoa n ∧ (10:UInt8) ∉ Lib.itoa n := by
 rw [itoa_nn h.1]
 have hb := dd_in (n := n.toNat) (by omega)
 obtain ⟨h1, h2, h3, h4⟩ := dd_ok n.toNat
 have hno : ∀ c : UInt8, c.toNat < 48 -> c ∉ Lib.decDigits n.toNat := fun c hc hm => by
  obtain ⟨i, hi, e⟩ := List.mem_iff_getElem.1 hm
  have := (all_iff.1 h1) i hi
  rw [List.getD_eq_getElem?_getD, List.getElem?_eq_getElem hi, e] at this
  unfold digB at this
  rw [Bool.and_eq_true, decide_eq_true_eq] at this
  have := this.1
  have e2 : ((some c).getD (0:UInt8)) = c := rfl
  rw [e2] at this
  omega
 refine ⟨hb, ?_, hno 32 (by decide), hno 10 (by decide)⟩
 rw [dgV, if_pos hb, h2]
 omega
theorem nm_wd {s : List UInt8} (h : sName s = true) : s ≠ [] ∧ (32:UInt8) ∉ s ∧ (10:UInt8) ∉ s := by
 unfold sName at h
 rw [Bool.and_eq_true, Bool.and_eq_true, Bool.not_eq_true', beq_eq_false_iff_ne] at h
 obtain ⟨h1, h2, -⟩ := h
 have hno : ∀ c : UInt8, c.toNat < 48 -> c ∉ s := fun c hc hm => by
  obtain ⟨i, hi, e⟩ := List.mem_iff_getElem.1 hm
  unfold allB at h1
  rw [List.all_eq_true] at h1
  have := h1 i (List.mem_range.2 hi)
  rw [List.getD_eq_getElem?_getD, List.getElem?_eq_getElem hi, e] at this
  have e2 : ((some c).getD (0:UInt8)) = c := rfl
  rw [e2] at this
  unfold okB isLet at this
  simp only [Bool.or_eq_true, Bool.and_eq_true, decide_eq_true_eq] at this
  omega
 exact ⟨h2, hno 32 (by decide), hno 10 (by decide)⟩
end Go.Proofs.YtfoeefaamjknpaaGreatDoor
namespace Go.Proofs.YtfoeefaamjknpaaGreatDoor
open Go Go.Av Go.RowKit
end Go.Proofs.YtfoeefaamjknpaaGreatDoor
namespace Go.Proofs.YtfoeefaamjknpaaGreatDoor
open Go Go.Av Go.RowKit
theorem k86_e {s x : List UInt8} {pre post : List (List UInt8)} (hL : lns s = pre ++ x :: post) (hb : ∀ j, j < pre.length -> badJ j (pre.getD j []) = false) (hx : badJ pre.length x = true) : k86 s = pre.length ∧ pre.length < (lns s).length := by
 have hgn : pre.length < (lns s).length := by rw [hL]; simp
 refine ⟨fi_some (fun j hj => ?_) ?_ hgn, hgn⟩
 · have := hb j hj
   rw [hL, List.getD_eq_getElem?_getD, List.getElem?_append_left hj, <- List.getD_eq_getElem?_getD]
   exact this
 · show badJ pre.length ((lns s).getD pre.length []) = true
   rw [hL, List.getD_eq_getElem?_getD, List.getElem?_append_right (Nat.le_refl _), Nat.sub_self]
   exact hx
theorem ok_next {x : List UInt8} {pre : List (List UInt8)} (hb : ∀ j, j < pre.length -> badJ j (pre.getD j []) = false) (hx : badJ pre.length x = false) : ∀ j, j < (pre ++ [x]).length -> badJ j ((pre ++ [x]).getD j []) = false := fun j hj => by
 by_cases e : j < pre.length
 · rw [List.getD_eq_getElem?_getD, List.getElem?_append_left e, <- List.getD_eq_getElem?_getD]
   exact hb j e
 · rw [List.length_append, List.length_singleton] at hj
   have e2 : j = pre.length := by omega
   rw [e2, List.getD_eq_getElem?_getD, List.getElem?_append_right (Nat.le_refl _), Nat.sub_self]
   exact hx
theorem k86_n {s : List UInt8} (hb : ∀ j, j < (lns s).length -> badJ j ((lns s).getD j []) = false) : k86 s = (lns s).length := fi_none hb
theorem hmP_next {x : List UInt8} {pre : List (List UInt8)} (h : pre ≠ []) : hmP (pre ++ [x]) = ⟨(hmP pre).nm, (hmP pre).pe, (hmP pre).ws ++ [wnL x]⟩ := by
 cases pre with
 | nil => exact absurd rfl h
 | cons y t => exact hmP_app t
theorem headD_le {ws : List (List UInt8)} {b : Nat} (h : ∀ y, y ∈ ws -> y.length <= b) : (ws.headD []).length <= b := by
 cases ws with
 | nil => exact Nat.zero_le _
 | cons y t => exact h y (List.mem_cons_self ..)
theorem hmP_bd (s : List UInt8) : (hmP (lns s)).nm.length <= s.length ∧ (hmP (lns s)).ws.length <= (lns s).length := by
 obtain ⟨l1, l2⟩ := ln_len (lns_is s)
 cases h : lns s with
 | nil => exact ⟨Nat.zero_le _, Nat.zero_le _⟩
 | cons x t =>
  rw [h] at l1 l2
  rw [List.length_cons] at l1
  refine ⟨?_, ?_⟩
  · show (hdR (rwN 1 (roL x))).length <= _
    unfold roL
    rw [hd_k]
    refine headD_le fun y hy => ?_
    have h1 := (spl_len 32 (bodyL x)).2 y ((wdN_sub _ 1).subset hy)
    have h2 := body_len x
    have h3 := l2 x (List.mem_cons_self ..)
    omega
  · show (t.map wnL).length <= _
    rw [List.length_map, List.length_cons]
    omega
theorem c86 (s : List UInt8) (hl : s.length <= 10000) (hln : e86 s = 0 -> (lns s).length <= 1000) : PCall Tryz.prog G0 86 [.str s] (psH (e86 s) (k86 s) (lns s).length (hmP (lns s))) := by
 have key :
  PCall Tryz.prog G0 116 [AV.bool (decide ((↑s.length : Int) > 4096)), AV.i 26] (AV.i (sWhen (decide ((↑s.length : Int) > 4096)) (26:Int))) ∧ PCall Tryz.prog G0 116 [AV.bool (s == []), AV.i 25] (AV.i (sWhen (s == []) (25:Int))) ∧
  PCall Tryz.prog G0 104 [AV.sl 1 [[AV.i (sWhen (decide ((↑s.length : Int) > 4096)) (26:Int))], [AV.i (sWhen (s == []) (25:Int))]]] (AV.i (sFirst [hdI [AV.i (sWhen (decide ((↑s.length : Int) > 4096)) (26:Int))], hdI [AV.i
  (sWhen (s == []) (25:Int))]])) ∧ ((sFirst [hdI [AV.i (sWhen (decide ((↑s.length : Int) > 4096)) (26:Int))], hdI [AV.i (sWhen (s == []) (25:Int))]] != 0) = true -> AV.tup [AV.agg [AV.str [], AV.i 0, AV.sl 25 []], AV.i 0, AV.i
  (sFirst [hdI [AV.i (sWhen (decide ((↑s.length : Int) > 4096)) (26:Int))], hdI [AV.i (sWhen (s == []) (25:Int))]])] = psH (e86 s) (k86 s) (lns s).length (hmP (lns s))) ∧ ((sFirst [hdI [AV.i (sWhen (decide ((↑s.length : Int) >
  4096)) (26:Int))], hdI [AV.i (sWhen (s == []) (25:Int))]] != 0) = false -> PCall Tryz.prog G0 155 [AV.str s] (AV.fbox 185 [AV.str s]) ∧ PSeqB (bodyE Tryz.prog T0 G0 Tryz.f86.ntmps []).P (bodyE Tryz.prog T0 G0 Tryz.f86.ntmps
  []).G 185 [AV.str s] (List.map (fa86 s).enc (fa86 s).xs) ∧ (∀ (x : List UInt8), 1 = 1) ∧ (∃ (g : List (List UInt8)), (g = [] ∧ ∀ (j:Nat), j < 0 -> badJ j [] = false) ∧ AS.mk [(2, AV.ptr 1 0), (3, AV.ptr 2 0), (4, AV.ptr 3 0), (6,
  AV.ptr 4 0), (7, AV.ptr 5 0)] [(1, ABlk.box [AV.str [], AV.i 0, AV.ex (Value.slice none 0 0)]), (2, ABlk.box [AV.i 0]), (3, ABlk.box [AV.i 0]), (4, ABlk.box [AV.str [], AV.i 0, AV.own 6 0]), (5, ABlk.box [AV.i 0]), (6, ABlk.buf 189
  25 [])] 9 = AS.mk [(2, AV.ptr 1 0), (3, AV.ptr 2 0), (4, AV.ptr 3 0), (6, AV.ptr 4 0), (7, AV.ptr 5 0)] [(1, ABlk.box [AV.str [], AV.i 0, AV.ex (Value.slice none 0 0)]), (2, ABlk.box [AV.i 0]), (3, ABlk.box [AV.i 0]), (4, ABlk.box
  [AV.str (hmP g).nm, AV.i (hmP g).pe, AV.own 6 (List.map encWn (hmP g).ws).length]), (5, ABlk.box [AV.i (↑g.length : Int)]), (6, ABlk.buf 189 25 (List.map encWn (hmP g).ws))] 9) ∧ (∀ (pre : List (List UInt8)) (x : List UInt8) (post
  : List (List UInt8)) (g : List (List UInt8)), lns s = pre ++ x :: post -> (g = pre ∧ ∀ (j:Nat), j < pre.length -> badJ j (pre.getD j []) = false) -> Exit.normal = Exit.normal ∧ false = false ∧ PCall Tryz.prog G0 156 [AV.str x,
  AV.str [(10:UInt8)]] (AV.tup [AV.str (bodyL x), AV.bool (cutS x [(10:UInt8)])]) ∧ PCall Tryz.prog G0 157 [AV.str (bodyL x), AV.str [(32:UInt8)]] (AV.sl 1 (roL x)) ∧ WCall Tryz.prog G0 159 [AV.ptr 1 0] [ABlk.box [AV.sl 1 (roL
  x), AV.bool false]] (AV.str (hdR (roL x))) [ABlk.box [AV.sl 1 (rwN 1 (roL x)), AV.bool (nbK 0 (roL x))]] ∧ (((↑g.length : Int) == 0) = true -> WCall Tryz.prog G0 159 [AV.ptr 1 0] [ABlk.box [AV.sl 1 (rwN 1 (roL x)), AV.bool (nbK 0
  (roL x))]] (AV.str (hdR (rwN 1 (roL x)))) [ABlk.box [AV.sl 1 (rwN 2 (roL x)), AV.bool (bdW (rwN 1 (roL x)) (nbK 0 (roL x)))]] ∧ WCall Tryz.prog G0 158 [AV.ptr 1 0] [ABlk.box [AV.sl 1 (rwN 2 (roL x)), AV.bool (bdW (rwN 1 (roL x))
  (nbK 0 (roL x)))]] (AV.i (dgI (hdR (rwN 2 (roL x))))) [ABlk.box [AV.sl 1 (rwN 3 (roL x)), AV.bool (nbW (rwN 2 (roL x)) (bdW (rwN 1 (roL x)) (nbK 0 (roL x))))]] ∧ ((!!cutS x [(10:UInt8)]) = true -> (!!cutS x [(10:UInt8)]) = true)
  ∧ ((!!cutS x [(10:UInt8)]) = true -> (!!cutS x [(10:UInt8)]) = true) ∧ ((!cutS x [(10:UInt8)]) = false -> (!!cutS x [(10:UInt8)]) = true) ∧ ((!if (!cutS x [(10:UInt8)]) = true then true else !hdR (roL x) == [(104:UInt8),
  (111:UInt8), (109:UInt8), (101:UInt8)]) = true -> (!if (!cutS x [(10:UInt8)]) = true then true else !hdR (roL x) == [(104:UInt8), (111:UInt8), (109:UInt8), (101:UInt8)]) = true) ∧ ((!if (!cutS x [(10:UInt8)]) =
  true then true else !hdR (roL x) == [(104:UInt8), (111:UInt8), (109:UInt8), (101:UInt8)]) = true -> (!if (!cutS x [(10:UInt8)]) = true then true else !hdR (roL x) == [(104:UInt8), (111:UInt8), (109:UInt8), (101 :
  UInt8)]) = true) ∧ ((!if (!cutS x [(10:UInt8)]) = true then true else !hdR (roL x) == [(104:UInt8), (111:UInt8), (109:UInt8), (101:UInt8)]) = true -> (!if (!cutS x [(10:UInt8)]) = true then true else !hdR (roL x) ==
  [(104:UInt8), (111:UInt8), (109:UInt8), (101:UInt8)]) = true) ∧ ((if (!cutS x [(10:UInt8)]) = true then true else !hdR (roL x) == [(104:UInt8), (111:UInt8), (109:UInt8), (101:UInt8)]) = false -> (!if (!cutS x [(10
  : UInt8)]) = true then true else !hdR (roL x) == [(104:UInt8), (111:UInt8), (109:UInt8), (101:UInt8)]) = true) ∧ ((!if (if (!cutS x [(10:UInt8)]) = true then true else !hdR (roL x) == [(104:UInt8), (111:UInt8), (109 :
  UInt8), (101:UInt8)]) = true then true else nbW (rwN 2 (roL x)) (bdW (rwN 1 (roL x)) (nbK 0 (roL x)))) = true -> (!if (if (!cutS x [(10:UInt8)]) = true then true else !hdR (roL x) == [(104:UInt8), (111:UInt8), (109:UInt8),
  (101:UInt8)]) = true then true else nbW (rwN 2 (roL x)) (bdW (rwN 1 (roL x)) (nbK 0 (roL x)))) = true) ∧ ((!if (if (!cutS x [(10:UInt8)]) = true then true else !hdR (roL x) == [(104:UInt8), (111:UInt8), (109:UInt8), (101
  : UInt8)]) = true then true else nbW (rwN 2 (roL x)) (bdW (rwN 1 (roL x)) (nbK 0 (roL x)))) = true -> (!if (if (!cutS x [(10:UInt8)]) = true then true else !hdR (roL x) == [(104:UInt8), (111:UInt8), (109:UInt8), (101 :
  UInt8)]) = true then true else nbW (rwN 2 (roL x)) (bdW (rwN 1 (roL x)) (nbK 0 (roL x)))) = true) ∧ ((!if (if (!cutS x [(10:UInt8)]) = true then true else !hdR (roL x) == [(104:UInt8), (111:UInt8), (109:UInt8), (101 :
  UInt8)]) = true then true else nbW (rwN 2 (roL x)) (bdW (rwN 1 (roL x)) (nbK 0 (roL x)))) = true -> (!if (if (!cutS x [(10:UInt8)]) = true then true else !hdR (roL x) == [(104:UInt8), (111:UInt8), (109:UInt8), (101 :
  UInt8)]) = true then true else nbW (rwN 2 (roL x)) (bdW (rwN 1 (roL x)) (nbK 0 (roL x)))) = true) ∧ ((!if (if (!cutS x [(10:UInt8)]) = true then true else !hdR (roL x) == [(104:UInt8), (111:UInt8), (109:UInt8), (101 :
  UInt8)]) = true then true else nbW (rwN 2 (roL x)) (bdW (rwN 1 (roL x)) (nbK 0 (roL x)))) = true -> (!if (if (!cutS x [(10:UInt8)]) = true then true else !hdR (roL x) == [(104:UInt8), (111:UInt8), (109:UInt8), (101 :
  UInt8)]) = true then true else nbW (rwN 2 (roL x)) (bdW (rwN 1 (roL x)) (nbK 0 (roL x)))) = true) ∧ ((!if (if (!cutS x [(10:UInt8)]) = true then true else !hdR (roL x) == [(104:UInt8), (111:UInt8), (109:UInt8), (101 :
  UInt8)]) = true then true else nbW (rwN 2 (roL x)) (bdW (rwN 1 (roL x)) (nbK 0 (roL x)))) = true -> (!if (if (!cutS x [(10:UInt8)]) = true then true else !hdR (roL x) == [(104:UInt8), (111:UInt8), (109:UInt8), (101 :
  UInt8)]) = true then true else nbW (rwN 2 (roL x)) (bdW (rwN 1 (roL x)) (nbK 0 (roL x)))) = true) ∧ ((if (if (!cutS x [(10:UInt8)]) = true then true else !hdR (roL x) == [(104:UInt8), (111:UInt8), (109:UInt8), (101 :
  UInt8)]) = true then true else nbW (rwN 2 (roL x)) (bdW (rwN 1 (roL x)) (nbK 0 (roL x)))) = false -> (!if (if (!cutS x [(10:UInt8)]) = true then true else !hdR (roL x) == [(104:UInt8), (111:UInt8), (109:UInt8), (101 :
  UInt8)]) = true then true else nbW (rwN 2 (roL x)) (bdW (rwN 1 (roL x)) (nbK 0 (roL x)))) = true) ∧ ((if (if (if (!cutS x [(10:UInt8)]) = true then true else !hdR (roL x) == [(104:UInt8), (111:UInt8), (109:UInt8), (101 :
  UInt8)]) = true then true else nbW (rwN 2 (roL x)) (bdW (rwN 1 (roL x)) (nbK 0 (roL x)))) = true then true else decide ((↑(rwN 3 (roL x)).length : Int) > 0)) = true -> false = false ∧ AV.tup [AV.agg [AV.str [], AV.i 0, AV.sl 25 []],
  AV.i (↑g.length : Int), AV.i 25] = psH (e86 s) (k86 s) (lns s).length (hmP (lns s))) ∧ ((if (if (if (!cutS x [(10:UInt8)]) = true then true else !hdR (roL x) == [(104:UInt8), (111:UInt8), (109:UInt8), (101:UInt8)]) = true
  then true else nbW (rwN 2 (roL x)) (bdW (rwN 1 (roL x)) (nbK 0 (roL x)))) = true then true else decide ((↑(rwN 3 (roL x)).length : Int) > 0)) = false -> In64 ((↑g.length : Int) + 1) ∧ false = false ∧ ∃ (g' : List (List UInt8)), (g'
  = pre ++ [x] ∧ ∀ (j:Nat), j < (pre ++ [x]).length -> badJ j ((pre ++ [x]).getD j []) = false) ∧ AS.mk [(2, AV.ptr 1 0), (3, AV.ptr 2 0), (4, AV.ptr 3 0), (6, AV.ptr 4 0), (7, AV.ptr 5 0)] [(1, ABlk.box [AV.str [], AV.i 0, AV.ex
  (Value.slice none 0 0)]), (2, ABlk.box [AV.i 0]), (3, ABlk.box [AV.i 0]), (4, ABlk.box [AV.str (hdR (rwN 1 (roL x))), AV.i (dgI (hdR (rwN 2 (roL x)))), AV.own 6 (List.map encWn (hmP g).ws).length]), (5, ABlk.box [AV.i ((↑g.length :
  Int) + 1)]), (6, ABlk.buf 189 25 (List.map encWn (hmP g).ws))] 9 = AS.mk [(2, AV.ptr 1 0), (3, AV.ptr 2 0), (4, AV.ptr 3 0), (6, AV.ptr 4 0), (7, AV.ptr 5 0)] [(1, ABlk.box [AV.str [], AV.i 0, AV.ex (Value.slice none 0 0)]), (2,
  ABlk.box [AV.i 0]), (3, ABlk.box [AV.i 0]), (4, ABlk.box [AV.str (hmP g').nm, AV.i (hmP g').pe, AV.own 6 (List.map encWn (hmP g').ws).length]), (5, ABlk.box [AV.i (↑g'.length : Int)]), (6, ABlk.buf 189 25 (List.map encWn (hmP
  g').ws))] 9)) ∧ (((↑g.length : Int) == 0) = false -> WCall Tryz.prog G0 158 [AV.ptr 1 0] [ABlk.box [AV.sl 1 (rwN 1 (roL x)), AV.bool (nbK 0 (roL x))]] (AV.i (dgI (hdR (rwN 1 (roL x))))) [ABlk.box [AV.sl 1 (rwN 2 (roL x)), AV.bool
  (nbK 1 (roL x))]] ∧ (0:Int) <= 0 ∧ (0:Int) < (8:Int) ∧ WCall Tryz.prog G0 158 [AV.ptr 1 0] [ABlk.box [AV.sl 1 (rwN 2 (roL x)), AV.bool (nbK 1 (roL x))]] (AV.i (dgI (hdR (rwN 2 (roL x))))) [ABlk.box [AV.sl 1 (rwN 3 (roL x)),
  AV.bool (nbK 2 (roL x))]] ∧ In64 ((0:Int) + 1) ∧ (0:Int) <= 0 + 1 ∧ (0:Int) + 1 < (8:Int) ∧ WCall Tryz.prog G0 158 [AV.ptr 1 0] [ABlk.box [AV.sl 1 (rwN 3 (roL x)), AV.bool (nbK 2 (roL x))]] (AV.i (dgI (hdR (rwN 3 (roL
  x))))) [ABlk.box [AV.sl 1 (rwN 4 (roL x)), AV.bool (nbK 3 (roL x))]] ∧ In64 ((0:Int) + 1 + 1) ∧ (0:Int) <= 0 + 1 + 1 ∧ (0:Int) + 1 + 1 < (8:Int) ∧ WCall Tryz.prog G0 158 [AV.ptr 1 0] [ABlk.box [AV.sl 1 (rwN 4 (roL x)),
  AV.bool (nbK 3 (roL x))]] (AV.i (dgI (hdR (rwN 4 (roL x))))) [ABlk.box [AV.sl 1 (rwN 5 (roL x)), AV.bool (nbK 4 (roL x))]] ∧ In64 ((0:Int) + 1 + 1 + 1) ∧ (0:Int) <= 0 + 1 + 1 + 1 ∧ (0:Int) + 1 + 1 + 1 < (8:Int) ∧ WCall
  Tryz.prog G0 158 [AV.ptr 1 0] [ABlk.box [AV.sl 1 (rwN 5 (roL x)), AV.bool (nbK 4 (roL x))]] (AV.i (dgI (hdR (rwN 5 (roL x))))) [ABlk.box [AV.sl 1 (rwN 6 (roL x)), AV.bool (nbK 5 (roL x))]] ∧ In64 ((0:Int) + 1 + 1 + 1 + 1) ∧ (0 :
  Int) <= 0 + 1 + 1 + 1 + 1 ∧ (0:Int) + 1 + 1 + 1 + 1 < (8:Int) ∧ WCall Tryz.prog G0 158 [AV.ptr 1 0] [ABlk.box [AV.sl 1 (rwN 6 (roL x)), AV.bool (nbK 5 (roL x))]] (AV.i (dgI (hdR (rwN 6 (roL x))))) [ABlk.box [AV.sl 1 (rwN 7 (roL
  x)), AV.bool (nbK 6 (roL x))]] ∧ In64 ((0:Int) + 1 + 1 + 1 + 1 + 1) ∧ (0:Int) <= 0 + 1 + 1 + 1 + 1 + 1 ∧ (0:Int) + 1 + 1 + 1 + 1 + 1 < (8:Int) ∧ WCall Tryz.prog G0 158 [AV.ptr 1 0] [ABlk.box [AV.sl 1 (rwN 7 (roL x)),
  AV.bool (nbK 6 (roL x))]] (AV.i (dgI (hdR (rwN 7 (roL x))))) [ABlk.box [AV.sl 1 (rwN 8 (roL x)), AV.bool (nbK 7 (roL x))]] ∧ In64 ((0:Int) + 1 + 1 + 1 + 1 + 1 + 1) ∧ (0:Int) <= 0 + 1 + 1 + 1 + 1 + 1 + 1 ∧ (0:Int) + 1 + 1 + 1 +
  1 + 1 + 1 < (8:Int) ∧ WCall Tryz.prog G0 158 [AV.ptr 1 0] [ABlk.box [AV.sl 1 (rwN 8 (roL x)), AV.bool (nbK 7 (roL x))]] (AV.i (dgI (hdR (rwN 8 (roL x))))) [ABlk.box [AV.sl 1 (rwN 9 (roL x)), AV.bool (nbK 8 (roL x))]] ∧ In64 ((0
  : Int) + 1 + 1 + 1 + 1 + 1 + 1 + 1) ∧ (0:Int) <= 0 + 1 + 1 + 1 + 1 + 1 + 1 + 1 ∧ (0:Int) + 1 + 1 + 1 + 1 + 1 + 1 + 1 < (8:Int) ∧ WCall Tryz.prog G0 158 [AV.ptr 1 0] [ABlk.box [AV.sl 1 (rwN 9 (roL x)), AV.bool (nbK 8 (roL
  x))]] (AV.i (dgI (hdR (rwN 9 (roL x))))) [ABlk.box [AV.sl 1 (rwN 10 (roL x)), AV.bool (nbK 9 (roL x))]] ∧ In64 ((0:Int) + 1 + 1 + 1 + 1 + 1 + 1 + 1 + 1) ∧ (0:Int) <= 0 ∧ (0:Int) < (8:Int) ∧ WCall Tryz.prog G0 158 [AV.ptr 1
  0] [ABlk.box [AV.sl 1 (rwN 10 (roL x)), AV.bool (nbK 9 (roL x))]] (AV.i (dgI (hdR (rwN 10 (roL x))))) [ABlk.box [AV.sl 1 (rwN 11 (roL x)), AV.bool (nbK 10 (roL x))]] ∧ (0:Int) <= 0 ∧ (0:Int) < (8:Int) ∧ WCall Tryz.prog G0 158
  [AV.ptr 1 0] [ABlk.box [AV.sl 1 (rwN 11 (roL x)), AV.bool (nbK 10 (roL x))]] (AV.i (dgI (hdR (rwN 11 (roL x))))) [ABlk.box [AV.sl 1 (rwN 12 (roL x)), AV.bool (nbK 11 (roL x))]] ∧ In64 ((0:Int) + 1) ∧ (0:Int) <= 0 + 1 ∧ (0:Int)
  + 1 < (8:Int) ∧ WCall Tryz.prog G0 158 [AV.ptr 1 0] [ABlk.box [AV.sl 1 (rwN 12 (roL x)), AV.bool (nbK 11 (roL x))]] (AV.i (dgI (hdR (rwN 12 (roL x))))) [ABlk.box [AV.sl 1 (rwN 13 (roL x)), AV.bool (nbK 12 (roL x))]] ∧ (0:Int)
  <= 0 + 1 ∧ (0:Int) + 1 < (8:Int) ∧ WCall Tryz.prog G0 158 [AV.ptr 1 0] [ABlk.box [AV.sl 1 (rwN 13 (roL x)), AV.bool (nbK 12 (roL x))]] (AV.i (dgI (hdR (rwN 13 (roL x))))) [ABlk.box [AV.sl 1 (rwN 14 (roL x)), AV.bool (nbK 13
  (roL x))]] ∧ In64 ((0:Int) + 1 + 1) ∧ (0:Int) <= 0 + 1 + 1 ∧ (0:Int) + 1 + 1 < (8:Int) ∧ WCall Tryz.prog G0 158 [AV.ptr 1 0] [ABlk.box [AV.sl 1 (rwN 14 (roL x)), AV.bool (nbK 13 (roL x))]] (AV.i (dgI (hdR (rwN 14 (roL
  x))))) [ABlk.box [AV.sl 1 (rwN 15 (roL x)), AV.bool (nbK 14 (roL x))]] ∧ (0:Int) <= 0 + 1 + 1 ∧ (0:Int) + 1 + 1 < (8:Int) ∧ WCall Tryz.prog G0 158 [AV.ptr 1 0] [ABlk.box [AV.sl 1 (rwN 15 (roL x)), AV.bool (nbK 14 (roL x))]]
  (AV.i (dgI (hdR (rwN 15 (roL x))))) [ABlk.box [AV.sl 1 (rwN 16 (roL x)), AV.bool (nbK 15 (roL x))]] ∧ In64 ((0:Int) + 1 + 1 + 1) ∧ (0:Int) <= 0 + 1 + 1 + 1 ∧ (0:Int) + 1 + 1 + 1 < (8:Int) ∧ WCall Tryz.prog G0 158 [AV.ptr 1
  0] [ABlk.box [AV.sl 1 (rwN 16 (roL x)), AV.bool (nbK 15 (roL x))]] (AV.i (dgI (hdR (rwN 16 (roL x))))) [ABlk.box [AV.sl 1 (rwN 17 (roL x)), AV.bool (nbK 16 (roL x))]] ∧ (0:Int) <= 0 + 1 + 1 + 1 ∧ (0:Int) + 1 + 1 + 1 < (8:Int)
  ∧ WCall Tryz.prog G0 158 [AV.ptr 1 0] [ABlk.box [AV.sl 1 (rwN 17 (roL x)), AV.bool (nbK 16 (roL x))]] (AV.i (dgI (hdR (rwN 17 (roL x))))) [ABlk.box [AV.sl 1 (rwN 18 (roL x)), AV.bool (nbK 17 (roL x))]] ∧ In64 ((0:Int) + 1 + 1 + 1
  + 1) ∧ (0:Int) <= 0 + 1 + 1 + 1 + 1 ∧ (0:Int) + 1 + 1 + 1 + 1 < (8:Int) ∧ WCall Tryz.prog G0 158 [AV.ptr 1 0] [ABlk.box [AV.sl 1 (rwN 18 (roL x)), AV.bool (nbK 17 (roL x))]] (AV.i (dgI (hdR (rwN 18 (roL x))))) [ABlk.box
  [AV.sl 1 (rwN 19 (roL x)), AV.bool (nbK 18 (roL x))]] ∧ (0:Int) <= 0 + 1 + 1 + 1 + 1 ∧ (0:Int) + 1 + 1 + 1 + 1 < (8:Int) ∧ WCall Tryz.prog G0 158 [AV.ptr 1 0] [ABlk.box [AV.sl 1 (rwN 19 (roL x)), AV.bool (nbK 18 (roL x))]]
  (AV.i (dgI (hdR (rwN 19 (roL x))))) [ABlk.box [AV.sl 1 (rwN 20 (roL x)), AV.bool (nbK 19 (roL x))]] ∧ In64 ((0:Int) + 1 + 1 + 1 + 1 + 1) ∧ (0:Int) <= 0 + 1 + 1 + 1 + 1 + 1 ∧ (0:Int) + 1 + 1 + 1 + 1 + 1 < (8:Int) ∧ WCall
  Tryz.prog G0 158 [AV.ptr 1 0] [ABlk.box [AV.sl 1 (rwN 20 (roL x)), AV.bool (nbK 19 (roL x))]] (AV.i (dgI (hdR (rwN 20 (roL x))))) [ABlk.box [AV.sl 1 (rwN 21 (roL x)), AV.bool (nbK 20 (roL x))]] ∧ (0:Int) <= 0 + 1 + 1 + 1 + 1 + 1 ∧
  (0:Int) + 1 + 1 + 1 + 1 + 1 < (8:Int) ∧ WCall Tryz.prog G0 158 [AV.ptr 1 0] [ABlk.box [AV.sl 1 (rwN 21 (roL x)), AV.bool (nbK 20 (roL x))]] (AV.i (dgI (hdR (rwN 21 (roL x))))) [ABlk.box [AV.sl 1 (rwN 22 (roL x)), AV.bool (nbK
  21 (roL x))]] ∧ In64 ((0:Int) + 1 + 1 + 1 + 1 + 1 + 1) ∧ (0:Int) <= 0 + 1 + 1 + 1 + 1 + 1 + 1 ∧ (0:Int) + 1 + 1 + 1 + 1 + 1 + 1 < (8:Int) ∧ WCall Tryz.prog G0 158 [AV.ptr 1 0] [ABlk.box [AV.sl 1 (rwN 22 (roL x)), AV.bool
  (nbK 21 (roL x))]] (AV.i (dgI (hdR (rwN 22 (roL x))))) [ABlk.box [AV.sl 1 (rwN 23 (roL x)), AV.bool (nbK 22 (roL x))]] ∧ (0:Int) <= 0 + 1 + 1 + 1 + 1 + 1 + 1 ∧ (0:Int) + 1 + 1 + 1 + 1 + 1 + 1 < (8:Int) ∧ WCall Tryz.prog G0
  158 [AV.ptr 1 0] [ABlk.box [AV.sl 1 (rwN 23 (roL x)), AV.bool (nbK 22 (roL x))]] (AV.i (dgI (hdR (rwN 23 (roL x))))) [ABlk.box [AV.sl 1 (rwN 24 (roL x)), AV.bool (nbK 23 (roL x))]] ∧ In64 ((0:Int) + 1 + 1 + 1 + 1 + 1 + 1 + 1) ∧
  (0:Int) <= 0 + 1 + 1 + 1 + 1 + 1 + 1 + 1 ∧ (0:Int) + 1 + 1 + 1 + 1 + 1 + 1 + 1 < (8:Int) ∧ WCall Tryz.prog G0 158 [AV.ptr 1 0] [ABlk.box [AV.sl 1 (rwN 24 (roL x)), AV.bool (nbK 23 (roL x))]] (AV.i (dgI (hdR (rwN 24 (roL
  x))))) [ABlk.box [AV.sl 1 (rwN 25 (roL x)), AV.bool (nbK 24 (roL x))]] ∧ (0:Int) <= 0 + 1 + 1 + 1 + 1 + 1 + 1 + 1 ∧ (0:Int) + 1 + 1 + 1 + 1 + 1 + 1 + 1 < (8:Int) ∧ WCall Tryz.prog G0 158 [AV.ptr 1 0] [ABlk.box [AV.sl 1 (rwN
  25 (roL x)), AV.bool (nbK 24 (roL x))]] (AV.i (dgI (hdR (rwN 25 (roL x))))) [ABlk.box [AV.sl 1 (rwN 26 (roL x)), AV.bool (nbK 25 (roL x))]] ∧ In64 ((0:Int) + 1 + 1 + 1 + 1 + 1 + 1 + 1 + 1) ∧ (List.map encWn (hmP g).ws).length + 1
  <= 9223372036854775807 ∧ ((List.map encWn (hmP g).ws).length + 1) * 200 <= 140737488355328 ∧ ((!!cutS x [(10:UInt8)]) = true -> (!!cutS x [(10:UInt8)]) = true) ∧ ((!!cutS x [(10:UInt8)]) = true -> (!!cutS x [(10:UInt8)]) =
  true) ∧ ((!cutS x [(10:UInt8)]) = false -> (!!cutS x [(10:UInt8)]) = true) ∧ ((!if (!cutS x [(10:UInt8)]) = true then true else !hdR (roL x) == [(119:UInt8), (105:UInt8), (110:UInt8), (100:UInt8), (111:UInt8), (119 :
  UInt8)]) = true -> (!if (!cutS x [(10:UInt8)]) = true then true else !hdR (roL x) == [(119:UInt8), (105:UInt8), (110:UInt8), (100:UInt8), (111:UInt8), (119:UInt8)]) = true) ∧ ((!if (!cutS x [(10:UInt8)]) = true then
  true else !hdR (roL x) == [(119:UInt8), (105:UInt8), (110:UInt8), (100:UInt8), (111:UInt8), (119:UInt8)]) = true -> (!if (!cutS x [(10:UInt8)]) = true then true else !hdR (roL x) == [(119:UInt8), (105:UInt8), (110
  : UInt8), (100:UInt8), (111:UInt8), (119:UInt8)]) = true) ∧ ((!if (!cutS x [(10:UInt8)]) = true then true else !hdR (roL x) == [(119:UInt8), (105:UInt8), (110:UInt8), (100:UInt8), (111:UInt8), (119:UInt8)]) =
  true -> (!if (!cutS x [(10:UInt8)]) = true then true else !hdR (roL x) == [(119:UInt8), (105:UInt8), (110:UInt8), (100:UInt8), (111:UInt8), (119:UInt8)]) = true) ∧ ((if (!cutS x [(10:UInt8)]) = true then true else
  !hdR (roL x) == [(119:UInt8), (105:UInt8), (110:UInt8), (100:UInt8), (111:UInt8), (119:UInt8)]) = false -> (!if (!cutS x [(10:UInt8)]) = true then true else !hdR (roL x) == [(119:UInt8), (105:UInt8), (110:UInt8),
  (100:UInt8), (111:UInt8), (119:UInt8)]) = true) ∧ ((!if (if (!cutS x [(10:UInt8)]) = true then true else !hdR (roL x) == [(119:UInt8), (105:UInt8), (110:UInt8), (100:UInt8), (111:UInt8), (119:UInt8)]) = true
  then true else nbW (rwN 25 (roL x)) (nbK 24 (roL x))) = true -> (!if (if (!cutS x [(10:UInt8)]) = true then true else !hdR (roL x) == [(119:UInt8), (105:UInt8), (110:UInt8), (100:UInt8), (111:UInt8), (119:UInt8)]) =
  true then true else nbW (rwN 25 (roL x)) (nbK 24 (roL x))) = true) ∧ ((!if (if (!cutS x [(10:UInt8)]) = true then true else !hdR (roL x) == [(119:UInt8), (105:UInt8), (110:UInt8), (100:UInt8), (111:UInt8), (119 :
  UInt8)]) = true then true else nbW (rwN 25 (roL x)) (nbK 24 (roL x))) = true -> (!if (if (!cutS x [(10:UInt8)]) = true then true else !hdR (roL x) == [(119:UInt8), (105:UInt8), (110:UInt8), (100:UInt8), (111:UInt8), (119
  : UInt8)]) = true then true else nbW (rwN 25 (roL x)) (nbK 24 (roL x))) = true) ∧ ((!if (if (!cutS x [(10:UInt8)]) = true then true else !hdR (roL x) == [(119:UInt8), (105:UInt8), (110:UInt8), (100:UInt8), (111:UInt8),
  (119:UInt8)]) = true then true else nbW (rwN 25 (roL x)) (nbK 24 (roL x))) = true -> (!if (if (!cutS x [(10:UInt8)]) = true then true else !hdR (roL x) == [(119:UInt8), (105:UInt8), (110:UInt8), (100:UInt8), (111 :
  UInt8), (119:UInt8)]) = true then true else nbW (rwN 25 (roL x)) (nbK 24 (roL x))) = true) ∧ ((!if (if (!cutS x [(10:UInt8)]) = true then true else !hdR (roL x) == [(119:UInt8), (105:UInt8), (110:UInt8), (100:UInt8),
  (111:UInt8), (119:UInt8)]) = true then true else nbW (rwN 25 (roL x)) (nbK 24 (roL x))) = true -> (!if (if (!cutS x [(10:UInt8)]) = true then true else !hdR (roL x) == [(119:UInt8), (105:UInt8), (110:UInt8), (100 :
  UInt8), (111:UInt8), (119:UInt8)]) = true then true else nbW (rwN 25 (roL x)) (nbK 24 (roL x))) = true) ∧ ((!if (if (!cutS x [(10:UInt8)]) = true then true else !hdR (roL x) == [(119:UInt8), (105:UInt8), (110:UInt8),
  (100:UInt8), (111:UInt8), (119:UInt8)]) = true then true else nbW (rwN 25 (roL x)) (nbK 24 (roL x))) = true -> (!if (if (!cutS x [(10:UInt8)]) = true then true else !hdR (roL x) == [(119:UInt8), (105:UInt8), (110 :
  UInt8), (100:UInt8), (111:UInt8), (119:UInt8)]) = true then true else nbW (rwN 25 (roL x)) (nbK 24 (roL x))) = true) ∧ ((if (if (!cutS x [(10:UInt8)]) = true then true else !hdR (roL x) == [(119:UInt8), (105:UInt8),
  (110:UInt8), (100:UInt8), (111:UInt8), (119:UInt8)]) = true then true else nbW (rwN 25 (roL x)) (nbK 24 (roL x))) = false -> (!if (if (!cutS x [(10:UInt8)]) = true then true else !hdR (roL x) == [(119:UInt8), (105 :
  UInt8), (110:UInt8), (100:UInt8), (111:UInt8), (119:UInt8)]) = true then true else nbW (rwN 25 (roL x)) (nbK 24 (roL x))) = true) ∧ ((if (if (if (!cutS x [(10:UInt8)]) = true then true else !hdR (roL x) == [(119:UInt8),
  (105:UInt8), (110:UInt8), (100:UInt8), (111:UInt8), (119:UInt8)]) = true then true else nbW (rwN 25 (roL x)) (nbK 24 (roL x))) = true then true else decide ((↑(rwN 26 (roL x)).length : Int) > 0)) = true -> false = false ∧
  AV.tup [AV.agg [AV.str [], AV.i 0, AV.sl 25 []], AV.i (↑g.length : Int), AV.i 25] = psH (e86 s) (k86 s) (lns s).length (hmP (lns s))) ∧ ((if (if (if (!cutS x [(10:UInt8)]) = true then true else !hdR (roL x) == [(119:UInt8),
  (105:UInt8), (110:UInt8), (100:UInt8), (111:UInt8), (119:UInt8)]) = true then true else nbW (rwN 25 (roL x)) (nbK 24 (roL x))) = true then true else decide ((↑(rwN 26 (roL x)).length : Int) > 0)) = false -> In64
  ((↑g.length : Int) + 1) ∧ false = false ∧ ∃ (g' : List (List UInt8)), (g' = pre ++ [x] ∧ ∀ (j:Nat), j < (pre ++ [x]).length -> badJ j ((pre ++ [x]).getD j []) = false) ∧ AS.mk [(2, AV.ptr 1 0), (3, AV.ptr 2 0), (4, AV.ptr 3 0),
  (6, AV.ptr 4 0), (7, AV.ptr 5 0)] [(1, ABlk.box [AV.str [], AV.i 0, AV.ex (Value.slice none 0 0)]), (2, ABlk.box [AV.i 0]), (3, ABlk.box [AV.i 0]), (4, ABlk.box [AV.str (hmP g).nm, AV.i (hmP g).pe, AV.own 6 ((List.map encWn (hmP
  g).ws).length + 1)]), (5, ABlk.box [AV.i ((↑g.length : Int) + 1)]), (6, ABlk.buf 189 25 (List.map encWn (hmP g).ws ++ [[AV.i (dgI (hdR (rwN 2 (roL x)))), AV.i (dgI (hdR (rwN 3 (roL x)))), AV.i (dgI (hdR (rwN 4 (roL x)))), AV.i (dgI
  (hdR (rwN 5 (roL x)))), AV.i (dgI (hdR (rwN 6 (roL x)))), AV.i (dgI (hdR (rwN 7 (roL x)))), AV.i (dgI (hdR (rwN 8 (roL x)))), AV.i (dgI (hdR (rwN 9 (roL x)))), AV.i (dgI (hdR (rwN 1 (roL x)))), AV.i (dgI (hdR (rwN 10 (roL x)))),
  AV.i (dgI (hdR (rwN 11 (roL x)))), AV.i (dgI (hdR (rwN 12 (roL x)))), AV.i (dgI (hdR (rwN 13 (roL x)))), AV.i (dgI (hdR (rwN 14 (roL x)))), AV.i (dgI (hdR (rwN 15 (roL x)))), AV.i (dgI (hdR (rwN 16 (roL x)))), AV.i (dgI (hdR (rwN
  17 (roL x)))), AV.i (dgI (hdR (rwN 18 (roL x)))), AV.i (dgI (hdR (rwN 19 (roL x)))), AV.i (dgI (hdR (rwN 20 (roL x)))), AV.i (dgI (hdR (rwN 21 (roL x)))), AV.i (dgI (hdR (rwN 22 (roL x)))), AV.i (dgI (hdR (rwN 23 (roL x)))), AV.i
  (dgI (hdR (rwN 24 (roL x)))), AV.i (dgI (hdR (rwN 25 (roL x))))]]))] 9 = AS.mk [(2, AV.ptr 1 0), (3, AV.ptr 2 0), (4, AV.ptr 3 0), (6, AV.ptr 4 0), (7, AV.ptr 5 0)] [(1, ABlk.box [AV.str [], AV.i 0, AV.ex (Value.slice none 0 0)]),
  (2, ABlk.box [AV.i 0]), (3, ABlk.box [AV.i 0]), (4, ABlk.box [AV.str (hmP g').nm, AV.i (hmP g').pe, AV.own 6 (List.map encWn (hmP g').ws).length]), (5, ABlk.box [AV.i (↑g'.length : Int)]), (6, ABlk.buf 189 25 (List.map encWn (hmP
  g').ws))] 9))) ∧ ∀ (g : List (List UInt8)), (g = lns s ∧ ∀ (j:Nat), j < (lns s).length -> badJ j ((lns s).getD j []) = false) -> PCall Tryz.prog G0 38 [AV.agg (encHm (hmP g))] (AV.i (fHm (Hm.mk (hmP g).nm (hmP g).pe (List.map decWn
  (List.map encWn (hmP g).ws))))) ∧ ((fHm (Hm.mk (hmP g).nm (hmP g).pe (List.map decWn (List.map encWn (hmP g).ws))) != 0) = true -> AV.tup [AV.agg [AV.str [], AV.i 0, AV.sl 25 []], AV.i (↑g.length : Int), AV.i (fHm (Hm.mk (hmP g).nm
  (hmP g).pe (List.map decWn (List.map encWn (hmP g).ws))))] = psH (e86 s) (k86 s) (lns s).length (hmP (lns s))) ∧ ((fHm (Hm.mk (hmP g).nm (hmP g).pe (List.map decWn (List.map encWn (hmP g).ws))) != 0) = false -> AV.tup [AV.agg (encHm
  (hmP g)), AV.i 0, AV.i 0] = psH (e86 s) (k86 s) (lns s).length (hmP (lns s)))) := by
   refine ⟨(c116 _ _), (c116 _ _), (c104 [_, _] (by simp)), fun h1 => ?_, fun h1 => ?_⟩
   · have he0 : (e86 s != 0) = true := h1
     rw [psH, if_pos he0]
     rfl
   · have he : e86 s = 0 := bne_f h1
     have he0 : ¬ (e86 s != 0) = true := by rw [he]; decide
     have hln2 := hln he
     obtain ⟨l1, l2⟩ := ln_len (lns_is s)
     refine ⟨(c155 s), (s185 s (by omega)), fun x => rfl, ⟨[], ⟨rfl, fun j hj => absurd hj (Nat.not_lt_zero _)⟩, rfl⟩, fun pre x post g => fun h2 => ?_, fun g => fun h2 => ?_⟩
     · have hL := h2
       have hxl := l2 x (by rw [hL]; simp)
       have hbl := body_len x
       obtain ⟨w1, w2⟩ := spl_len 32 (bodyL x)
       have hw : (wdsL x).length <= 1000000 := by unfold wdsL; omega
       have hwl : ∀ y, y ∈ wdsL x -> y.length <= 1000000 := fun y hy => by have := w2 y hy; omega
       have hgn : pre.length < (lns s).length := by rw [hL]; simp
       refine fun h3 => ?_
       · obtain ⟨rfl, hb⟩ := h3
         have hwsg : (hmP g).ws.length <= g.length := by
          cases g with
          | nil => exact Nat.zero_le _
          | cons y t => show (t.map wnL).length <= _; rw [List.length_map, List.length_cons]; omega
         have hwsm : (List.map encWn (hmP g).ws).length = (hmP g).ws.length := List.length_map _
         refine ⟨rfl, rfl, (c156 x [10] (by omega) (by decide)), (c157 (bodyL x) 32 (by omega)), (w159k 0 (wdsL x) _ hw), fun h4 => ?_, fun h4 => ?_⟩
         · have hg0 : g.length = 0 := by simpa using h4
           obtain rfl : g = [] := List.length_eq_zero_iff.1 hg0
           refine ⟨(w159k 1 (wdsL x) _ hw), (w158k _ (wdsL x) _ hw hwl), fun h => h, fun h => h, fun h => by first | exact h | (rw [h]; rfl) | simp_all, fun h => h, fun h => h, fun h => h, fun h => by first | exact h | (rw [h]; rfl) | simp_all, fun h => h, fun h => h, fun h => h, fun h => h, fun h => h, fun h => by first | exact h | (rw [h]; rfl) | simp_all, fun h5 => ?_, fun h5 => ?_⟩
           · have hx : badJ 0 x = true := h5
             refine ⟨rfl, ?_⟩
             · obtain ⟨hk, hlt⟩ := k86_e hL hb hx
               rw [psH, if_neg he0, hk, if_pos hlt]
               rfl
           · have hx : badJ 0 x = false := h5
             refine ⟨(by unfold In64; omega), rfl, ?_⟩
             · first
                | (refine ⟨g ++ [x], ⟨rfl, ok_next hb hx⟩, ?_⟩
                   rw [hmP_next hg2, show (((g ++ [x]).length : Nat) : Int) = (g.length : Int) + 1 by (rw [List.length_append, List.length_singleton]; rfl), List.map_append, List.length_append]
                   kernel_rfl)
                | (refine ⟨[] ++ [x], ⟨rfl, ok_next hb hx⟩, ?_⟩
                   kernel_rfl)
         · have hg1 : g.length ≠ 0 := by simpa using h4
           have hg2 : g ≠ [] := fun q => hg1 (by rw [q]; rfl)
           refine ⟨(w158k _ (wdsL x) _ hw hwl), (by omega), (by omega), (w158k _ (wdsL x) _ hw hwl), (by unfold In64; omega), (by omega), (by omega), (w158k _ (wdsL x) _ hw hwl), (by unfold In64; omega), (by omega), (by omega), (w158k _ (wdsL x) _ hw hwl), (by unfold In64; omega), (by omega), (by omega), (w158k _ (wdsL x) _ hw hwl), (by unfold In64; omega), (by omega), (by omega), (w158k _ (wdsL x) _ hw hwl), (by unfold In64; omega), (by omega), (by omega), (w158k _ (wdsL x) _ hw hwl), (by unfold In64; omega), (by omega), (by omega), (w158k _ (wdsL x) _ hw hwl), (by unfold In64; omega), (by omega), (by omega), (w158k _ (wdsL x) _ hw hwl), (by unfold In64; omega), (by omega), (by omega), (w158k _ (wdsL x) _ hw hwl), (by omega), (by omega), (w158k _ (wdsL x) _ hw hwl), (by unfold In64; omega), (by omega), (by omega), (w158k _ (wdsL x) _ hw hwl), (by omega), (by omega), (w158k _ (wdsL x) _ hw hwl), (by unfold In64; omega), (by omega), (by omega), (w158k _ (wdsL x) _ hw hwl), (by omega), (by omega), (w158k _ (wdsL x) _ hw hwl), (by unfold In64; omega), (by omega), (by omega), (w158k _ (wdsL x) _ hw hwl), (by omega), (by omega), (w158k _ (wdsL x) _ hw hwl), (by unfold In64; omega), (by omega), (by omega), (w158k _ (wdsL x) _ hw hwl), (by omega), (by omega), (w158k _ (wdsL x) _ hw hwl), (by unfold In64; omega), (by omega), (by omega), (w158k _ (wdsL x) _ hw hwl), (by omega), (by omega), (w158k _ (wdsL x) _ hw hwl), (by unfold In64; omega), (by omega), (by omega), (w158k _ (wdsL x) _ hw hwl), (by omega), (by omega), (w158k _ (wdsL x) _ hw hwl), (by unfold In64; omega), (by omega), (by omega), (w158k _ (wdsL x) _ hw hwl), (by omega), (by omega), (w158k _ (wdsL x) _ hw hwl), (by unfold In64; omega), (by omega), (by omega), fun h => h, fun h => h, fun h => by first | exact h | (rw [h]; rfl) | simp_all, fun h => h, fun h => h, fun h => h, fun h => by first | exact h | (rw [h]; rfl) | simp_all, fun h => h, fun h => h, fun h => h, fun h => h, fun h => h, fun h => by first | exact h | (rw [h]; rfl) | simp_all, fun h5 => ?_, fun h5 => ?_⟩
           · have hx : badJ g.length x = true := by
              unfold badJ
              rw [if_neg hg1]
              exact h5
             refine ⟨rfl, ?_⟩
             · obtain ⟨hk, hlt⟩ := k86_e hL hb hx
               rw [psH, if_neg he0, hk, if_pos hlt]
               rfl
           · have hx : badJ g.length x = false := by
              unfold badJ
              rw [if_neg hg1]
              exact h5
             refine ⟨(by unfold In64; omega), rfl, ?_⟩
             · first
                | (refine ⟨g ++ [x], ⟨rfl, ok_next hb hx⟩, ?_⟩
                   rw [hmP_next hg2, show (((g ++ [x]).length : Nat) : Int) = (g.length : Int) + 1 by (rw [List.length_append, List.length_singleton]; rfl), List.map_append, List.length_append]
                   kernel_rfl)
                | (refine ⟨[] ++ [x], ⟨rfl, ok_next hb hx⟩, ?_⟩
                   kernel_rfl)
     · obtain ⟨rfl, hb⟩ := h2
       have hk := k86_n hb
       have hbd := hmP_bd s
       refine ⟨((by rw [wd_dec]; exact c38 (hmP (lns s)) (by omega) (by omega))), fun h3 => ?_, fun h3 => ?_⟩
       · rw [wd_dec] at h3 ⊢
         rw [psH, if_neg he0, hk, if_neg (Nat.lt_irrefl _), if_pos h3]
         rfl
       · rw [wd_dec] at h3
         rw [psH, if_neg he0, hk, if_neg (Nat.lt_irrefl _), if_neg (by rw [h3]; decide)]
 exact c_of Tryz.f86 (gsB g86 { mkB sp86 86 [] noLa with hs := hs86, fa := some (fa86 s), cl := clL [60, 69], bx := fun i => if i.beq 0 then [.frzc 4 2] else [] }) (by kernel_rfl) (by kernel_rfl) (by kernel_rfl) (by kernel_rfl) key (by kernel_rfl)
end Go.Proofs.YtfoeefaamjknpaaGreatDoor
