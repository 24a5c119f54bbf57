/-
  The indoor energy of a window: both sides. The indoor energy of a home, and its levels: both sides. The outdoor energy of a home, the reference's. The zone of an energy, and whether a home is eligible: both sides. No condition but the theorems' own.
-/
import Derived.Test.YtfoeefaamjknpaaGreatDoorPC
import Derived.Test.YtfoeefaamjknpaaGreatDoorAvD
import Derived.Test.YtfoeefaamjknpaaGreatDoorPB
namespace Go.Proofs.YtfoeefaamjknpaaGreatDoor
open Go Go.Av Go.RowKit
theorem pr_bd {w : Wn} (hw : WnOK w) (b:Nat) (hb : b < 8) : (0 <= w.o b * w.lo b ∧ w.o b * w.lo b <= 100000000000) ∧ (0 <= w.o b * w.hi b ∧ w.o b * w.hi b <= 100000000000) := by
 have h1 := hw.o0 b hb
 have h2 := hw.lo b hb
 have h3 := hw.hi b hb
 have h4 := mul_bd h1.1 h1.2 h2.1 h2.2
 have h5 := mul_bd h1.1 h1.2 h3.1 h3.2
 omega
theorem c123 (w : Wn) (hw : WnOK w) : PCall Tryz.prog G0 123 [.agg (encWn w)] (.agg [.i (inLw w), .i (inHw w)]) := by
 have key :
  (0:Int) <= 0 ∧ (0:Int) < (8:Int) ∧ (0:Int) <= 0 ∧ (0:Int) < (8:Int) ∧ In64 (w.o0 * w.p0) ∧ In64 ((0:Int) + w.o0 * w.p0) ∧ (0:Int) <= 0 ∧ (0:Int) < (8:Int) ∧ In64 (w.o0 * w.p1) ∧ In64 ((0:Int) + w.o0 * w.p1) ∧
  In64 ((0:Int) + 1) ∧ (0:Int) <= 0 + 1 ∧ (0:Int) + 1 < (8:Int) ∧ (0:Int) <= 0 + 1 ∧ (0:Int) + 1 < (8:Int) ∧ In64 (w.o1 * w.p2) ∧ In64 ((0:Int) + w.o0 * w.p0 + w.o1 * w.p2) ∧ (0:Int) <= 0 + 1 ∧ (0:Int) + 1 < (↑8 :
  Int) ∧ In64 (w.o1 * w.p3) ∧ In64 ((0:Int) + w.o0 * w.p1 + w.o1 * w.p3) ∧ In64 ((0:Int) + 1 + 1) ∧ (0:Int) <= 0 + 1 + 1 ∧ (0:Int) + 1 + 1 < (8:Int) ∧ (0:Int) <= 0 + 1 + 1 ∧ (0:Int) + 1 + 1 < (8:Int) ∧ In64 (w.o2 *
  w.p4) ∧ In64 ((0:Int) + w.o0 * w.p0 + w.o1 * w.p2 + w.o2 * w.p4) ∧ (0:Int) <= 0 + 1 + 1 ∧ (0:Int) + 1 + 1 < (8:Int) ∧ In64 (w.o2 * w.p5) ∧ In64 ((0:Int) + w.o0 * w.p1 + w.o1 * w.p3 + w.o2 * w.p5) ∧ In64 ((0:Int) + 1 + 1
  + 1) ∧ (0:Int) <= 0 + 1 + 1 + 1 ∧ (0:Int) + 1 + 1 + 1 < (8:Int) ∧ (0:Int) <= 0 + 1 + 1 + 1 ∧ (0:Int) + 1 + 1 + 1 < (8:Int) ∧ In64 (w.o3 * w.p6) ∧ In64 ((0:Int) + w.o0 * w.p0 + w.o1 * w.p2 + w.o2 * w.p4 + w.o3 * w.p6)
  ∧ (0:Int) <= 0 + 1 + 1 + 1 ∧ (0:Int) + 1 + 1 + 1 < (8:Int) ∧ In64 (w.o3 * w.p7) ∧ In64 ((0:Int) + w.o0 * w.p1 + w.o1 * w.p3 + w.o2 * w.p5 + w.o3 * w.p7) ∧ In64 ((0:Int) + 1 + 1 + 1 + 1) ∧ (0:Int) <= 0 + 1 + 1 + 1 + 1 ∧
  (0:Int) + 1 + 1 + 1 + 1 < (8:Int) ∧ (0:Int) <= 0 + 1 + 1 + 1 + 1 ∧ (0:Int) + 1 + 1 + 1 + 1 < (8:Int) ∧ In64 (w.o4 * w.p8) ∧ In64 ((0:Int) + w.o0 * w.p0 + w.o1 * w.p2 + w.o2 * w.p4 + w.o3 * w.p6 + w.o4 * w.p8) ∧ (0 :
  Int) <= 0 + 1 + 1 + 1 + 1 ∧ (0:Int) + 1 + 1 + 1 + 1 < (8:Int) ∧ In64 (w.o4 * w.p9) ∧ In64 ((0:Int) + w.o0 * w.p1 + w.o1 * w.p3 + w.o2 * w.p5 + w.o3 * w.p7 + w.o4 * w.p9) ∧ In64 ((0:Int) + 1 + 1 + 1 + 1 + 1) ∧ (0:Int) <= 0
  + 1 + 1 + 1 + 1 + 1 ∧ (0:Int) + 1 + 1 + 1 + 1 + 1 < (8:Int) ∧ (0:Int) <= 0 + 1 + 1 + 1 + 1 + 1 ∧ (0:Int) + 1 + 1 + 1 + 1 + 1 < (8:Int) ∧ In64 (w.o5 * w.p10) ∧ In64 ((0:Int) + w.o0 * w.p0 + w.o1 * w.p2 + w.o2 * w.p4 +
  w.o3 * w.p6 + w.o4 * w.p8 + w.o5 * w.p10) ∧ (0:Int) <= 0 + 1 + 1 + 1 + 1 + 1 ∧ (0:Int) + 1 + 1 + 1 + 1 + 1 < (8:Int) ∧ In64 (w.o5 * w.p11) ∧ In64 ((0:Int) + w.o0 * w.p1 + w.o1 * w.p3 + w.o2 * w.p5 + w.o3 * w.p7 + w.o4 *
  w.p9 + w.o5 * w.p11) ∧ In64 ((0:Int) + 1 + 1 + 1 + 1 + 1 + 1) ∧ (0:Int) <= 0 + 1 + 1 + 1 + 1 + 1 + 1 ∧ (0:Int) + 1 + 1 + 1 + 1 + 1 + 1 < (8:Int) ∧ (0:Int) <= 0 + 1 + 1 + 1 + 1 + 1 + 1 ∧ (0:Int) + 1 + 1 + 1 + 1 + 1 + 1 <
  (8:Int) ∧ In64 (w.o6 * w.p12) ∧ In64 ((0:Int) + w.o0 * w.p0 + w.o1 * w.p2 + w.o2 * w.p4 + w.o3 * w.p6 + w.o4 * w.p8 + w.o5 * w.p10 + w.o6 * w.p12) ∧ (0:Int) <= 0 + 1 + 1 + 1 + 1 + 1 + 1 ∧ (0:Int) + 1 + 1 + 1 + 1 + 1 + 1 <
  (8:Int) ∧ In64 (w.o6 * w.p13) ∧ In64 ((0:Int) + w.o0 * w.p1 + w.o1 * w.p3 + w.o2 * w.p5 + w.o3 * w.p7 + w.o4 * w.p9 + w.o5 * w.p11 + w.o6 * w.p13) ∧ In64 ((0:Int) + 1 + 1 + 1 + 1 + 1 + 1 + 1) ∧ (0:Int) <= 0 + 1 + 1 + 1 + 1
  + 1 + 1 + 1 ∧ (0:Int) + 1 + 1 + 1 + 1 + 1 + 1 + 1 < (8:Int) ∧ (0:Int) <= 0 + 1 + 1 + 1 + 1 + 1 + 1 + 1 ∧ (0:Int) + 1 + 1 + 1 + 1 + 1 + 1 + 1 < (8:Int) ∧ In64 (w.o7 * w.p14) ∧ In64 ((0:Int) + w.o0 * w.p0 + w.o1 * w.p2 +
  w.o2 * w.p4 + w.o3 * w.p6 + w.o4 * w.p8 + w.o5 * w.p10 + w.o6 * w.p12 + w.o7 * w.p14) ∧ (0:Int) <= 0 + 1 + 1 + 1 + 1 + 1 + 1 + 1 ∧ (0:Int) + 1 + 1 + 1 + 1 + 1 + 1 + 1 < (8:Int) ∧ In64 (w.o7 * w.p15) ∧ In64 ((0:Int) + w.o0 *
  w.p1 + w.o1 * w.p3 + w.o2 * w.p5 + w.o3 * w.p7 + w.o4 * w.p9 + w.o5 * w.p11 + w.o6 * w.p13 + w.o7 * w.p15) ∧ In64 ((0:Int) + 1 + 1 + 1 + 1 + 1 + 1 + 1 + 1) ∧ In64 (((0:Int) + w.o0 * w.p0 + w.o1 * w.p2 + w.o2 * w.p4 + w.o3 *
  w.p6 + w.o4 * w.p8 + w.o5 * w.p10 + w.o6 * w.p12 + w.o7 * w.p14) * w.ar) ∧ ¬(100000:Int) = (0:Int) ∧ In64 ((((0:Int) + w.o0 * w.p0 + w.o1 * w.p2 + w.o2 * w.p4 + w.o3 * w.p6 + w.o4 * w.p8 + w.o5 * w.p10 + w.o6 * w.p12 + w.o7 *
  w.p14) * w.ar).tdiv 100000) ∧ In64 (((0:Int) + w.o0 * w.p1 + w.o1 * w.p3 + w.o2 * w.p5 + w.o3 * w.p7 + w.o4 * w.p9 + w.o5 * w.p11 + w.o6 * w.p13 + w.o7 * w.p15) * w.ar) ∧ In64 (((0:Int) + w.o0 * w.p1 + w.o1 * w.p3 + w.o2 * w.p5
  + w.o3 * w.p7 + w.o4 * w.p9 + w.o5 * w.p11 + w.o6 * w.p13 + w.o7 * w.p15) * w.ar + 100000) ∧ In64 (((0:Int) + w.o0 * w.p1 + w.o1 * w.p3 + w.o2 * w.p5 + w.o3 * w.p7 + w.o4 * w.p9 + w.o5 * w.p11 + w.o6 * w.p13 + w.o7 * w.p15) *
  w.ar + 100000 - 1) ∧ ¬(100000:Int) = (0:Int) ∧ In64 ((((0:Int) + w.o0 * w.p1 + w.o1 * w.p3 + w.o2 * w.p5 + w.o3 * w.p7 + w.o4 * w.p9 + w.o5 * w.p11 + w.o6 * w.p13 + w.o7 * w.p15) * w.ar + 100000 - 1).tdiv 100000) ∧ AV.agg
  [AV.i ((((0:Int) + w.o0 * w.p0 + w.o1 * w.p2 + w.o2 * w.p4 + w.o3 * w.p6 + w.o4 * w.p8 + w.o5 * w.p10 + w.o6 * w.p12 + w.o7 * w.p14) * w.ar).tdiv 100000), AV.i ((((0:Int) + w.o0 * w.p1 + w.o1 * w.p3 + w.o2 * w.p5 + w.o3 * w.p7
  + w.o4 * w.p9 + w.o5 * w.p11 + w.o6 * w.p13 + w.o7 * w.p15) * w.ar + 100000 - 1).tdiv 100000)] = AV.agg [AV.i (inLw w), AV.i (inHw w)] := by
   have q0 : (0 <= w.o0 * w.p0 ∧ w.o0 * w.p0 <= 100000000000) ∧ (0 <= w.o0 * w.p1 ∧ w.o0 * w.p1 <= 100000000000) := pr_bd hw 0 (by decide)
   have q1 : (0 <= w.o1 * w.p2 ∧ w.o1 * w.p2 <= 100000000000) ∧ (0 <= w.o1 * w.p3 ∧ w.o1 * w.p3 <= 100000000000) := pr_bd hw 1 (by decide)
   have q2 : (0 <= w.o2 * w.p4 ∧ w.o2 * w.p4 <= 100000000000) ∧ (0 <= w.o2 * w.p5 ∧ w.o2 * w.p5 <= 100000000000) := pr_bd hw 2 (by decide)
   have q3 : (0 <= w.o3 * w.p6 ∧ w.o3 * w.p6 <= 100000000000) ∧ (0 <= w.o3 * w.p7 ∧ w.o3 * w.p7 <= 100000000000) := pr_bd hw 3 (by decide)
   have q4 : (0 <= w.o4 * w.p8 ∧ w.o4 * w.p8 <= 100000000000) ∧ (0 <= w.o4 * w.p9 ∧ w.o4 * w.p9 <= 100000000000) := pr_bd hw 4 (by decide)
   have q5 : (0 <= w.o5 * w.p10 ∧ w.o5 * w.p10 <= 100000000000) ∧ (0 <= w.o5 * w.p11 ∧ w.o5 * w.p11 <= 100000000000) := pr_bd hw 5 (by decide)
   have q6 : (0 <= w.o6 * w.p12 ∧ w.o6 * w.p12 <= 100000000000) ∧ (0 <= w.o6 * w.p13 ∧ w.o6 * w.p13 <= 100000000000) := pr_bd hw 6 (by decide)
   have q7 : (0 <= w.o7 * w.p14 ∧ w.o7 * w.p14 <= 100000000000) ∧ (0 <= w.o7 * w.p15 ∧ w.o7 * w.p15 <= 100000000000) := pr_bd hw 7 (by decide)
   have hL : 0 <= (0 + w.o0 * w.p0 + w.o1 * w.p2 + w.o2 * w.p4 + w.o3 * w.p6 + w.o4 * w.p8 + w.o5 * w.p10 + w.o6 * w.p12 + w.o7 * w.p14) * w.ar ∧ (0 + w.o0 * w.p0 + w.o1 * w.p2 + w.o2 * w.p4 + w.o3 * w.p6 + w.o4 * w.p8 + w.o5 * w.p10 + w.o6 * w.p12 + w.o7 * w.p14) * w.ar <= 80000000000000 := (inLw_bd hw).1
   have hH : 0 <= (0 + w.o0 * w.p1 + w.o1 * w.p3 + w.o2 * w.p5 + w.o3 * w.p7 + w.o4 * w.p9 + w.o5 * w.p11 + w.o6 * w.p13 + w.o7 * w.p15) * w.ar ∧ (0 + w.o0 * w.p1 + w.o1 * w.p3 + w.o2 * w.p5 + w.o3 * w.p7 + w.o4 * w.p9 + w.o5 * w.p11 + w.o6 * w.p13 + w.o7 * w.p15) * w.ar <= 80000000000000 := (inHw_bd hw).1
   have eH : (sumP w.o w.hi 8 * w.ar + 100000 - 1).tdiv 100000 = inHw w := by
    rw [show sumP w.o w.hi 8 * w.ar + 100000 - 1 = sumP w.o w.hi 8 * w.ar + 99999 by omega]
    rfl
   have t1 : In64 ((sumP w.o w.lo 8 * w.ar).tdiv 100000) := in64_of (x := inLw w) ⟨(inLw_bd hw).2.1, by have := (inLw_bd hw).2.2; omega⟩
   have t2 : In64 ((sumP w.o w.hi 8 * w.ar + 100000 - 1).tdiv 100000) := by
    rw [eH]
    exact in64_of ⟨(inHw_bd hw).2.1, by have := (inHw_bd hw).2.2; omega⟩
   refine ⟨(by omega), (by omega), (by omega), (by omega), (by unfold In64; omega), (by unfold In64; omega), (by omega), (by omega), (by unfold In64; omega), (by unfold In64; omega), (by unfold In64; omega), (by omega), (by omega), (by omega), (by omega), (by unfold In64; omega), (by unfold In64; omega), (by omega), (by omega), (by unfold In64; omega), (by unfold In64; omega), (by unfold In64; omega), (by omega), (by omega), (by omega), (by omega), (by unfold In64; omega), (by unfold In64; omega), (by omega), (by omega), (by unfold In64; omega), (by unfold In64; omega), (by unfold In64; omega), (by omega), (by omega), (by omega), (by omega), (by unfold In64; omega), (by unfold In64; omega), (by omega), (by omega), (by unfold In64; omega), (by unfold In64; omega), (by unfold In64; omega), (by omega), (by omega), (by omega), (by omega), (by unfold In64; omega), (by unfold In64; omega), (by omega), (by omega), (by unfold In64; omega), (by unfold In64; omega), (by unfold In64; omega), (by omega), (by omega), (by omega), (by omega), (by unfold In64; omega), (by unfold In64; omega), (by omega), (by omega), (by unfold In64; omega), (by unfold In64; omega), (by unfold In64; omega), (by omega), (by omega), (by omega), (by omega), (by unfold In64; omega), (by unfold In64; omega), (by omega), (by omega), (by unfold In64; omega), (by unfold In64; omega), (by unfold In64; omega), (by omega), (by omega), (by omega), (by omega), (by unfold In64; omega), (by unfold In64; omega), (by omega), (by omega), (by unfold In64; omega), (by unfold In64; omega), (by unfold In64; omega), (by unfold In64; omega), ?_, ?_, (by unfold In64; omega), (by unfold In64; omega), (by unfold In64; omega), ?_, ?_, ?_⟩
   · first | rfl | trivial
   · first
      | exact t1
      | exact t2
   · first | rfl | trivial
   · first
      | exact t1
      | exact t2
   · exact congrArg (fun x => AV.agg [AV.i (inLw w), AV.i x]) eH
 exact c_of Tryz.f123 ({ fzB (mkB spW 123 [] noLa) with cl := clL [10] }) (by kernel_rfl) (by kernel_rfl) (by kernel_rfl) (by kernel_rfl) key (by kernel_rfl)
end Go.Proofs.YtfoeefaamjknpaaGreatDoor
namespace Go.Proofs.YtfoeefaamjknpaaGreatDoor
open Go Go.Av Go.RowKit
def spI2 : Nat -> List AV -> Option AV
 | 123, [.agg c] => some (.agg [.i (inLw (decWn c)), .i (inHw (decWn c))])
 | 113, [.agg c] => some (.agg [.i (inLw (decWn c)), .i (inHw (decWn c))])
 | n, x => spW n x
def la100 (l : List Wn) : LA := {
 pre := [.keep [2, 3, 8, 9, 10] [2, 3], .bound 4], post := [.keep [2, 3, 8, 9, 10] [2, 3], .bound 4]
 Gh := Nat
 st := fun i => ⟨[(2, .ptr 2 0), (3, .ptr 3 0), (8, .sl 25 (l.map encWn)), (9, .i (l.map encWn).length), (10, .i i)], [(2, .box [.i 0, .i 0]), (3, .box [.i (inL l i), .i (inH l i)])], 4⟩
 ok := fun i => i <= l.length
 ms := fun i => l.length - i }
theorem c100 (h : Hm) (hl : h.ws.length <= 8) (hw : WsOK h.ws) : PCall Tryz.prog G0 100 [.agg (encHm h)] (.agg [.i (inL h.ws h.ws.length), .i (inH h.ws h.ws.length)]) := by
 have key :
  (∃ (g:Nat), g <= h.ws.length ∧ AS.mk [(2, AV.ptr 2 0), (3, AV.ptr 3 0), (8, AV.sl 25 (List.map encWn h.ws)), (9, AV.i (↑(List.map encWn h.ws).length : Int)), (10, AV.i 0)] [(2, ABlk.box [AV.i 0, AV.i 0]), (3, ABlk.box [AV.i 0,
  AV.i 0])] 4 = AS.mk [(2, AV.ptr 2 0), (3, AV.ptr 3 0), (8, AV.sl 25 (List.map encWn h.ws)), (9, AV.i (↑(List.map encWn h.ws).length : Int)), (10, AV.i (g:Int))] [(2, ABlk.box [AV.i 0, AV.i 0]), (3, ABlk.box [AV.i (inL h.ws g),
  AV.i (inH h.ws g)])] 4) ∧ ∀ (g:Nat), g <= h.ws.length -> (decide ((g:Int) < (↑(List.map encWn h.ws).length : Int)) = true -> (0:Int) <= (g:Int) ∧ (g:Int) < (↑(List.map encWn h.ws).length : Int) ∧ AV.agg (nthR (List.map
  encWn h.ws) (g:Int).toNat) = AV.agg (encWn (h.ws.getD (g:Int).toNat default)) ∧ PCall Tryz.prog G0 123 [AV.agg (encWn (h.ws.getD (g:Int).toNat default))] (AV.agg [AV.i (inLw (decWn (encWn (h.ws.getD (g:Int).toNat
  default)))), AV.i (inHw (decWn (encWn (h.ws.getD (g:Int).toNat default))))]) ∧ In64 (inL h.ws g + inLw (decWn (encWn (h.ws.getD (g:Int).toNat default)))) ∧ In64 (inH h.ws g + inHw (decWn (encWn (h.ws.getD (g:Int).toNat
  default)))) ∧ In64 ((g:Int) + 1) ∧ ∃ (g' : Nat), g' <= h.ws.length ∧ h.ws.length - g' < h.ws.length - g ∧ AS.mk [(2, AV.ptr 2 0), (3, AV.ptr 3 0), (8, AV.sl 25 (List.map encWn h.ws)), (9, AV.i (↑(List.map encWn h.ws).length :
  Int)), (10, AV.i ((g:Int) + 1))] [(2, ABlk.box [AV.i 0, AV.i 0]), (3, ABlk.box [AV.i (inL h.ws g + inLw (decWn (encWn (h.ws.getD (g:Int).toNat default)))), AV.i (inH h.ws g + inHw (decWn (encWn (h.ws.getD (g:Int).toNat
  default))))])] 4 = AS.mk [(2, AV.ptr 2 0), (3, AV.ptr 3 0), (8, AV.sl 25 (List.map encWn h.ws)), (9, AV.i (↑(List.map encWn h.ws).length : Int)), (10, AV.i (↑g' : Int))] [(2, ABlk.box [AV.i 0, AV.i 0]), (3, ABlk.box [AV.i (inL h.ws
  g'), AV.i (inH h.ws g')])] 4) ∧ (decide ((g:Int) < (↑(List.map encWn h.ws).length : Int)) = false -> AV.agg [AV.i (inL h.ws g), AV.i (inH h.ws g)] = AV.agg [AV.i (inL h.ws h.ws.length), AV.i (inH h.ws h.ws.length)]) := by
   have hlm : (List.map encWn h.ws).length = h.ws.length := List.length_map _
   have : (List.map encWn h.ws).length = h.ws.length := by simp only [List.length_map]
   refine ⟨⟨0, by omega, rfl⟩, fun g hg => ⟨fun hd => ?_, fun hd => ?_⟩⟩
   · have hlt : g < h.ws.length := by have h9 := of_decide_eq_true hd; have h8 := hg; (try simp only [List.length_map] at h8 h9); omega
     have hb1 := inL_bd hw g (by omega)
     have hb2 := inH_bd hw g (by omega)
     have hb3 := inLw_bd (hw g hlt)
     have hb4 := inHw_bd (hw g hlt)
     rw [decWn_e]
     try rw [show (g:Int).toNat = g from Int.toNat_natCast g]
     exact ⟨(by omega), (by omega), congrArg AV.agg (row_at encWn hlt), (c123 _ (hw _ hlt)), (by unfold In64; omega), (by unfold In64; omega), (by unfold In64; omega), ⟨g + 1, by omega, by omega, rfl⟩⟩
   · have hge : g = h.ws.length := by have h9 := of_decide_eq_false hd; have h8 := hg; (try simp only [List.length_map] at h8 h9); omega
     subst hge
     first | rfl | trivial
 exact c_of Tryz.f100 (fzB (mkB spI2 100 [(4, 1, rdL 25 encWn h.ws 25 true)] (la0 (la100 h.ws)))) (by kernel_rfl) (by kernel_rfl) (by kernel_rfl) (by kernel_rfl) key (by kernel_rfl)
def inV (h : Hm) : AV := .agg [.i (if (fHm h != 0) = true then 0 else inL h.ws h.ws.length), .i (if (fHm h != 0) = true then 0 else inH h.ws h.ws.length)]
def lvV (h : Hm) : AV := .agg [.i (if (fHm h != 0) = true then 0 else lvl (inL h.ws h.ws.length)), .i (if (fHm h != 0) = true then 0 else lvl (inH h.ws h.ws.length))]
theorem fEn_z {x : Int} (h : 0 <= x ∧ x <= 10000000000000) : fEn x = 0 := within_zero.2 h
theorem c19 (h : Hm) (hn : h.nm.length <= 1000000) (hl : h.ws.length <= 1000) : PCall Tryz.prog G0 19 [.agg (encHm h)] (.tup [inV h, .i (fHm h)]) := by
 have key :
  PCall Tryz.prog G0 38 [AV.agg (encHm h)] (AV.i (fHm h)) ∧ ((fHm h != 0) = true -> AV.tup [AV.agg [AV.i 0, AV.i 0], AV.i (fHm h)] = AV.tup [AV.agg [AV.i (if (fHm h != 0) = true then (0:Int) else inL h.ws h.ws.length), AV.i (if (fHm
  h != 0) = true then (0:Int) else inH h.ws h.ws.length)], AV.i (fHm h)]) ∧ ((fHm h != 0) = false -> PCall Tryz.prog G0 100 [AV.agg (encHm h)] (AV.agg [AV.i (inL h.ws h.ws.length), AV.i (inH h.ws h.ws.length)]) ∧ AV.tup [AV.agg
  [AV.i (inL h.ws h.ws.length), AV.i (inH h.ws h.ws.length)], AV.i 0] = AV.tup [AV.agg [AV.i (if (fHm h != 0) = true then (0:Int) else inL h.ws h.ws.length), AV.i (if (fHm h != 0) = true then (0:Int) else inH h.ws h.ws.length)],
  AV.i (fHm h)]) := by
   refine ⟨(c38 h hn hl), fun h1 => ?_, fun h1 => ?_⟩
   · rw [if_pos h1, if_pos h1]
   · have hz : fHm h = 0 := bne_f h1
     obtain ⟨z1, z2, z3, z4, z5, z6⟩ := hm_z hz
     refine ⟨(c100 h z3 z6), ?_⟩
     · rw [hz, if_neg (by decide), if_neg (by decide)]
 exact c_of Tryz.f19 (fzB (mkB (sp17 h) 19 [] noLa)) (by kernel_rfl) (by kernel_rfl) (by kernel_rfl) (by kernel_rfl) key (by kernel_rfl)
theorem c20 (h : Hm) (hn : h.nm.length <= 1000000) (hl : h.ws.length <= 1000) : PCall Tryz.prog G0 20 [.agg (encHm h)] (.tup [lvV h, .i (fHm h)]) := by
 have key :
  PCall Tryz.prog G0 38 [AV.agg (encHm h)] (AV.i (fHm h)) ∧ ((fHm h != 0) = true -> AV.tup [AV.agg [AV.i 0, AV.i 0], AV.i (fHm h)] = AV.tup [AV.agg [AV.i (if (fHm h != 0) = true then (0:Int) else lvl (inL h.ws h.ws.length)), AV.i
  (if (fHm h != 0) = true then (0:Int) else lvl (inH h.ws h.ws.length))], AV.i (fHm h)]) ∧ ((fHm h != 0) = false -> PCall Tryz.prog G0 100 [AV.agg (encHm h)] (AV.agg [AV.i (inL h.ws h.ws.length), AV.i (inH h.ws h.ws.length)]) ∧
  PCall Tryz.prog G0 101 [AV.i (inL h.ws h.ws.length)] (AV.i (lvl (inL h.ws h.ws.length))) ∧ PCall Tryz.prog G0 101 [AV.i (inH h.ws h.ws.length)] (AV.i (lvl (inH h.ws h.ws.length))) ∧ AV.tup [AV.agg [AV.i (lvl (inL h.ws
  h.ws.length)), AV.i (lvl (inH h.ws h.ws.length))], AV.i 0] = AV.tup [AV.agg [AV.i (if (fHm h != 0) = true then (0:Int) else lvl (inL h.ws h.ws.length)), AV.i (if (fHm h != 0) = true then (0:Int) else lvl (inH h.ws
  h.ws.length))], AV.i (fHm h)]) := by
   refine ⟨(c38 h hn hl), fun h1 => ?_, fun h1 => ?_⟩
   · rw [if_pos h1, if_pos h1]
   · have hz : fHm h = 0 := bne_f h1
     obtain ⟨z1, z2, z3, z4, z5, z6⟩ := hm_z hz
     have hb1 := inL_bd z6 h.ws.length (Nat.le_refl _)
     have hb2 := inH_bd z6 h.ws.length (Nat.le_refl _)
     refine ⟨(c100 h z3 z6), (c101 _ (fEn_z (by omega))), (c101 _ (fEn_z (by omega))), ?_⟩
     · rw [hz, if_neg (by decide), if_neg (by decide)]
 exact c_of Tryz.f20 (fzB (mkB (sp17 h) 20 [] noLa)) (by kernel_rfl) (by kernel_rfl) (by kernel_rfl) (by kernel_rfl) key (by kernel_rfl)
end Go.Proofs.YtfoeefaamjknpaaGreatDoor
namespace Go.Proofs.YtfoeefaamjknpaaGreatDoor
open Go Go.Av Go.RowKit
end Go.Proofs.YtfoeefaamjknpaaGreatDoor
namespace Go.Proofs.YtfoeefaamjknpaaGreatDoor
open Go Go.Av Go.RowKit
def la18 (h : Hm) : LA := {
 pre := [.reno 3 3, .ownb 3 2 189 25, .renc 3 2 4, .keep [2, 3, 12, 13, 14] [2, 3, 4], .bound 5], post := [.renc 3 2 4, .keep [2, 3, 12, 13, 14] [2, 3, 4], .bound 5]
 Gh := Nat
 st := fun i => ⟨[(2, .ptr 2 0), (3, .ptr 3 0), (12, .sl 25 (h.ws.map encWn)), (13, .i (h.ws.map encWn).length), (14, .i i)], [(2, .box [.str [], .i 0, .ex (.slice none 0 0)]), (3, .box [.str h.nm, .i h.pe, .own 4 ((h.ws.take i).map encWn).length]), (4, .buf 189 25 ((h.ws.take i).map encWn))], 5⟩
 ok := fun i => i <= h.ws.length
 ms := fun i => h.ws.length - i }
theorem c18 (h : Hm) (hl : h.ws.length <= 1000) : PCall Tryz.prog G0 18 [.agg (encHm h)] (.agg (encHm h)) := by
 have key :
  (∃ (g:Nat), g <= h.ws.length ∧ AS.mk [(2, AV.ptr 2 0), (3, AV.ptr 3 0), (12, AV.sl 25 (List.map encWn h.ws)), (13, AV.i (↑(List.map encWn h.ws).length : Int)), (14, AV.i 0)] [(2, ABlk.box [AV.str [], AV.i 0, AV.ex (Value.slice
  none 0 0)]), (3, ABlk.box [AV.str h.nm, AV.i h.pe, AV.own 4 0]), (4, ABlk.buf 189 25 [])] 5 = AS.mk [(2, AV.ptr 2 0), (3, AV.ptr 3 0), (12, AV.sl 25 (List.map encWn h.ws)), (13, AV.i (↑(List.map encWn h.ws).length : Int)), (14,
  AV.i (g:Int))] [(2, ABlk.box [AV.str [], AV.i 0, AV.ex (Value.slice none 0 0)]), (3, ABlk.box [AV.str h.nm, AV.i h.pe, AV.own 4 (List.map encWn (List.take g h.ws)).length]), (4, ABlk.buf 189 25 (List.map encWn (List.take g
  h.ws)))] 5) ∧ ∀ (g:Nat), g <= h.ws.length -> (decide ((g:Int) < (↑(List.map encWn h.ws).length : Int)) = true -> (0:Int) <= (g:Int) ∧ (g:Int) < (↑(List.map encWn h.ws).length : Int) ∧ AV.agg (nthR (List.map encWn h.ws) (↑g
  : Int).toNat) = AV.agg (encWn (h.ws.getD (g:Int).toNat default)) ∧ (List.map encWn (List.take g h.ws)).length + 1 <= 9223372036854775807 ∧ ((List.map encWn (List.take g h.ws)).length + 1) * 200 <= 140737488355328 ∧ In64 ((↑g :
  Int) + 1) ∧ ∃ (g' : Nat), g' <= h.ws.length ∧ h.ws.length - g' < h.ws.length - g ∧ AS.mk [(2, AV.ptr 2 0), (3, AV.ptr 3 0), (12, AV.sl 25 (List.map encWn h.ws)), (13, AV.i (↑(List.map encWn h.ws).length : Int)), (14, AV.i ((↑g :
  Int) + 1))] [(2, ABlk.box [AV.str [], AV.i 0, AV.ex (Value.slice none 0 0)]), (3, ABlk.box [AV.str h.nm, AV.i h.pe, AV.own 4 ((List.map encWn (List.take g h.ws)).length + 1)]), (4, ABlk.buf 189 25 (List.map encWn (List.take g h.ws)
  ++ [(encWn (h.ws.getD (g:Int).toNat default))]))] 5 = AS.mk [(2, AV.ptr 2 0), (3, AV.ptr 3 0), (12, AV.sl 25 (List.map encWn h.ws)), (13, AV.i (↑(List.map encWn h.ws).length : Int)), (14, AV.i (↑g' : Int))] [(2, ABlk.box [AV.str
  [], AV.i 0, AV.ex (Value.slice none 0 0)]), (3, ABlk.box [AV.str h.nm, AV.i h.pe, AV.own 4 (List.map encWn (List.take g' h.ws)).length]), (4, ABlk.buf 189 25 (List.map encWn (List.take g' h.ws)))] 5) ∧ (decide ((g:Int) <
  (↑(List.map encWn h.ws).length : Int)) = false -> AV.agg [AV.str h.nm, AV.i h.pe, AV.sl 25 (List.map encWn (List.take g h.ws))] = AV.agg (encHm h)) := by
   have hlm : (List.map encWn h.ws).length = h.ws.length := List.length_map _
   have : (List.map encWn h.ws).length = h.ws.length := by simp only [List.length_map]
   refine ⟨⟨0, by omega, rfl⟩, fun g hg => ⟨fun hd => ?_, fun hd => ?_⟩⟩
   · have hlt : g < h.ws.length := by have h9 := of_decide_eq_true hd; have h8 := hg; (try simp only [List.length_map] at h8 h9); omega
     have : (List.map encWn (List.take g h.ws)).length = g := by simp only [List.length_map, List.length_take]; omega
     try rw [show (g:Int).toNat = g from Int.toNat_natCast g]
     refine ⟨(by omega), (by omega), congrArg AV.agg (row_at encWn hlt), (by omega), (by omega), (by unfold In64; omega), ⟨g + 1, by omega, by omega, ?_⟩⟩
     · first | (rw [<- take_succ_map _ _ hlt, List.length_append]; rfl) | (rw [<- take_succ _ hlt, List.length_append]; rfl)
   · have hge : g = h.ws.length := by have h9 := of_decide_eq_false hd; have h8 := hg; (try simp only [List.length_map] at h8 h9); omega
     subst hge
     rw [List.take_length]
     rfl
 exact c_of Tryz.f18 ({ modA 5 4 (fun a => { a with fz := false }) (fzB (mkB spW 18 [(4, 1, rdL 25 encWn h.ws 25 true)] (la0 (la18 h)))) with bx := fun i => if i.beq 0 then [.frzc 3 2] else [] }) (by kernel_rfl) (by kernel_rfl) (by kernel_rfl) (by kernel_rfl) key (by kernel_rfl)
def shH (h : Hm) : Bool := if decide ((h.nm.length : Int) <= 40) = true then decide ((h.ws.length : Int) <= 9) else false
theorem c14 (h : Hm)  : PCall Tryz.prog G0 14 [.agg (encHm h)] (.bool (shH h)) := by
 have key :
  (decide ((↑h.nm.length : Int) <= 40) = true -> decide ((↑h.nm.length : Int) <= 40) = true) ∧ (decide ((↑h.nm.length : Int) <= 40) = true -> decide ((↑h.nm.length : Int) <= 40) = true) ∧ (decide ((↑h.nm.length : Int) <= 40) = true -> decide
  ((↑h.nm.length : Int) <= 40) = true) ∧ (decide ((↑h.nm.length : Int) <= 40) = true -> decide ((↑h.nm.length : Int) <= 40) = true) ∧ AV.bool (if decide ((↑h.nm.length : Int) <= 40) = true then decide ((↑(List.map encWn h.ws).length :
  Int) <= 9) else false) = AV.bool (shH h) := by
   have hlm : (List.map encWn h.ws).length = h.ws.length := List.length_map _
   have : (List.map encWn h.ws).length = h.ws.length := by simp only [List.length_map]
   refine ⟨fun h => h, fun h => h, fun h => h, fun h => h, ?_⟩
   · rw [hlm]
     rfl
 exact c_of Tryz.f14 (fzB (mkB spW 14 [] noLa)) (by kernel_rfl) (by kernel_rfl) (by kernel_rfl) (by kernel_rfl) key (by kernel_rfl)
theorem put_nm {ns : List (List UInt8)} {s : List UInt8} (h : hasK (knS ns) (.str s) = false) : mput (.str s) (.bool true) (knS ns) = some (knS (ns ++ [s])) := by
 unfold knS at h ⊢
 rw [has_map (fun s => s)] at h
 rw [put_map (fun s => s) _ _ h, List.map_append]
 rfl
theorem take_nm {α : Type} [Inhabited α] (f : α -> List UInt8) {l : List α} {g : Nat} (h : g < l.length) : (l.take (g + 1)).map f = (l.take g).map f ++ [f (l.getD g default)] := by
 rw [List.take_add_one, List.map_append]
 simp [List.getD_eq_getElem?_getD, h]
end Go.Proofs.YtfoeefaamjknpaaGreatDoor
namespace Go.Proofs.YtfoeefaamjknpaaGreatDoor
open Go Go.Av Go.RowKit
end Go.Proofs.YtfoeefaamjknpaaGreatDoor
namespace Go.Proofs.YtfoeefaamjknpaaGreatDoor
open Go Go.Av Go.RowKit
structure K5 (l : List Zn) (h : Hm) : Prop where
 kl : l.length <= 7
 kn : ∀ x, x ∈ l -> x.nm.length <= 1000
 ko : h.nm.length <= 40
 kw : h.ws.length <= 9
theorem sh_hm {h : Hm} (e : shH h = true) : h.nm.length <= 40 ∧ h.ws.length <= 9 := by
 unfold shH at e
 split at e
 · rename_i h1
   rw [decide_eq_true_eq] at h1
   have := of_decide_eq_true e
   exact ⟨by omega, by omega⟩
 · cases e
end Go.Proofs.YtfoeefaamjknpaaGreatDoor
