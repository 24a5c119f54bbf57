/-
  HomeQuiet returns true. No condition but the theorems' own. What HomeQuiet' row says of the program's text. No condition.
-/
import Derived.Test.YtfoeefaamjknpaaGreatDoorPG
import Derived.Test.YtfoeefaamjknpaaGreatDoorAvD
import Derived.Test.YtfoeefaamjknpaaGreatDoorPB
import Derived.Test.YtfoeefaamjknpaaGreatDoorPE
namespace Go.Proofs.YtfoeefaamjknpaaGreatDoor
open Go Go.Av Go.RowKit
def encPw (w : Wn) : List AV := [.i w.p0, .i w.p1, .i w.p2, .i w.p3, .i w.p4, .i w.p5, .i w.p6, .i w.p7, .i w.p8, .i w.p9, .i w.p10, .i w.p11, .i w.p12, .i w.p13, .i w.p14, .i w.p15]
def rdP (h : Hm) : BL -> List AV -> Option AV := fun _ ins => match ins with
 | [.optr _ i _] => some (.agg (encPw (h.ws.getD i default)))
 | _ => none
def rdA (h : Hm) : BL -> List AV -> Option AV := fun _ ins => match ins with
 | [.optr _ i _] => some (.i (h.ws.getD i default).ar)
 | _ => none
structure K13 (h : Hm) : Prop where
 ko : h.nm.length <= 40
 kz : fHm h = 0
def jV1 (h : Hm) : Int := if (fHm h != 0) = true then 0 else inL h.ws h.ws.length
def jV2 (h : Hm) : Int := if (fHm h != 0) = true then 0 else inH h.ws h.ws.length
def sp13 (h : Hm) : Nat -> List AV -> Option AV
 | 16, _ => some (.bool true)
 | 14, _ => some (.bool (shH h))
 | 26, _ => some (.i (fHm h))
 | 18, [.agg c] => some (.agg c)
 | 19, [.agg [.str s, .int _ p, .sl _ rows]] => some (.tup [.agg [.i (jV1 ⟨s, p, rows.map decWn⟩), .i (jV2 ⟨s, p, rows.map decWn⟩)], .i (fHm ⟨s, p, rows.map decWn⟩)])
 | 20, _ => some (.tup [.agg [.i (lvl (inL h.ws h.ws.length)), .i (lvl (inH h.ws h.ws.length))], .i 0])
 | 92, [.int _ e] => some (.i (lvl e))
 | 94, [.int _ a, .int _ b] => some (.agg [.i a, .i b])
 | 25, [_, _, _, .agg [.int _ a, .int _ b]] => some (.tup [.str (veV h [] [] ⟨a, b⟩), .i (veE h [] [] ⟨a, b⟩)])
 | 85, _ => some (.tup [.str (prS h), .i 0])
 | 86, [.str x] => some (.tup [.agg (encHm (hmV x)), .i (kV x), .i (eV x)])
 | 41, [.agg c] => some (.agg c)
 | 40, _ => some (.bool true)
 | 95, [.str x, _] => some (.sl 1 ((spl 10 x).map encS))
 | n, y => spW n y
def hs13 (h : Hm) : Nat -> List AV -> List ABlk -> Option AV
 | 93, _, _ => some (.gv true (.tup [.ax [.str h.nm, .i h.pe, .own 1 (h.ws.map encWn).length], .fresh 177 25 (h.ws.map encWn)]))
 | _, _, _ => none
def a13 (h : Hm) (n0 n1 n2 : Int) : List (Nat × AV) := [(2, .elt 3 [encHm h] 0 0), (3, .elt 3 [[.int .u16 n0, .int .u16 n1, .int .u16 n2]] 0 0), (5, .elt 2 [[.i (inL h.ws h.ws.length), .i (inH h.ws h.ws.length)]] 0 0)]
def bo (h : Hm) (j:Nat) : ABlk := .box [.str h.nm, .i h.pe, .own j (h.ws.map encWn).length]
def la13 (h : Hm) (n0 n1 n2 : Int) (b:Nat) : Option LA :=
 if b.beq 0 then some {
  pre := [.keep [2, 3, 5, 9, 10, 94, 95] [1, 2, 3, 4], .bound 5], post := [.keep [2, 3, 5, 9, 10, 94, 95] [1, 2, 3, 4], .bound 5]
  Gh := Nat
  st := fun i => ⟨a13 h n0 n1 n2 ++ [(9, .ptr 1 0), (10, .ptr 3 0), (94, .i (h.ws.map encWn).length), (95, .i i)], [(1, bo h 2), (2, .buf 177 25 ((exS h.ws n0 i).map encWn)), (3, bo h 4), (4, .buf 177 25 (h.ws.map encWn))], 5⟩
  ok := fun i => i <= h.ws.length
  ms := fun i => h.ws.length - i }
 else none
def mdB3 (g : List GS) (p : Prop) (l : List (Nat × AV)) (b : BL) (n:Nat) : Option (List GS × AS × Prop) := some (g ++ [.keep (l.map (·.1)) (b.map (·.1)), .bound n], ⟨l, b, n⟩, p)
def m13 (h : Hm) (n0 n1 n2 : Int) : List (Option (List GS × AS × Prop)) :=
 [none, none, none, none, none, none,
  mdB3 [] (K13 h) (a13 h n0 n1 n2) [] 1,
  mdB3 [.reno 9 1, .renc 1 2 2, .reno 10 3, .renc 3 2 4] (K13 h) (a13 h n0 n1 n2 ++ [(9, .ptr 1 0), (10, .ptr 3 0)]) [(1, bo h 2), (2, .buf 177 25 (h.ws.map encWn)), (3, bo h 4), (4, .buf 177 25 (h.ws.map encWn))] 5, none,
  mdB3 [.reno 10 1, .renc 1 2 2] (K13 h) (a13 h n0 n1 n2 ++ [(9, .elt 3 [encHm (exH h n0)] 0 0), (10, .ptr 1 0)]) [(1, bo h 2), (2, .buf 177 25 (h.ws.map encWn))] 3, none, none, none,
  mdB3 [] (K13 h) (a13 h n0 n1 n2 ++ [(9, .elt 3 [encHm (exH h n0)] 0 0), (10, .elt 3 [encHm (lsH h n0 n1 n2)] 0 0)]) [] 1, none, none, none,
  mdB3 [] (K13 h) (a13 h n0 n1 n2 ++ [(20, .elt 2 [[.i (inL (exS h.ws n0 h.ws.length) h.ws.length), .i (inH (exS h.ws n0 h.ws.length) h.ws.length)]] 0 0)]) [] 1, none, none, none,
  mdB3 [] (K13 h) (a13 h n0 n1 n2) [] 1, none,
  mdB3 [] (K13 h) [(2, .elt 3 [encHm h] 0 0)] [] 1, none, none, none,
  mdB3 [] (K13 h) [(2, .elt 3 [encHm h] 0 0), (30, .str (prS h))] [] 1, none, none]
def tk13 (i:Nat) : Nat := if i.beq 5 then 87 else if i.beq 29 then 251 else if i.beq 33 then 289 else if i.beq 37 then 308 else if i.beq 41 then 347 else 0
def ks13 (i:Nat) : List Nat := if i.beq 5 then [2, 3, 5, 87] else if i.beq 29 then [2, 3, 5, 20, 251] else if i.beq 33 then [2, 3, 5, 289] else if i.beq 37 then [2, 308] else if i.beq 41 then [2, 30, 347] else []
def gs13 (i:Nat) : List GS := if i.beq 16 then [.keep [2, 3, 5, 9, 10, 94, 95, 11, 12, 105, 106] [1, 2, 3, 4], .bound 5] else if i.beq 24 then [.keep [2, 3, 5, 9, 10, 16, 150, 151] [1, 2], .bound 3] else if i.beq 26 then [.frzc 1 2, .frzo 10] else if (tk13 i).beq 0 then [] else [.keep (ks13 i) [], .bound 1]
def cut13 (h : Hm) (n0 n1 n2 : Int) (i:Nat) : Option (AS -> AS) :=
 if i.beq 16 then some fun S => match slotF S 11, slotF S 106 with
  | some (.int _ i), some (.int _ b) => ⟨pickL S.s [2, 3, 5, 9, 10, 94, 95, 11, 12, 105, 106], [(1, bo h 2), (2, .buf 177 25 (((exS h.ws n0 i.toNat).set i.toNat (exK (h.ws.getD i.toNat default) n0 i.toNat (b.toNat + 1))).map encWn)), (3, bo h 4), (4, .buf 177 25 (h.ws.map encWn))], 5⟩
  | _, _ => S
 else if i.beq 24 then some fun S => match slotF S 151 with
  | some (.int _ b) => ⟨pickL S.s [2, 3, 5, 9, 10, 16, 150, 151], [(1, bo h 2), (2, .buf 177 25 ((h.ws.set (jX h n1) (lsK (h.ws.getD (jX h n1) default) n2 (b.toNat + 1))).map encWn))], 3⟩
  | _ => S
 else if (tk13 i).beq 0 then none else some (cutA (ks13 i) [] 1 (tk13 i) fun _ => .bool false)
def fz13 (B : BA) : BA := { B with gs := fun i => (if i.beq 7 then [] else (B.ra i).fz.map GS.frzo) ++ B.gs i }
def hmA (h : Hm) : AV := .elt 3 [encHm h] 0 0
def n3A (n0 n1 n2 : Int) : AV := .elt 3 [[.int .u16 n0, .int .u16 n1, .int .u16 n2]] 0 0
def ivA2 (h : Hm) : AV := .elt 2 [[.i (inL h.ws h.ws.length), .i (inH h.ws h.ws.length)]] 0 0
def wI (n:Int) : Int := IntKind.i64.wrap n
def hmD (h : Hm) : Hm := ⟨h.nm, h.pe, (h.ws.map encWn).map decWn⟩
def iY (h : Hm) (n1:Int) : Int := (wI n1).tmod ((h.ws.map encWn).length : Int)
def jY (h : Hm) (n1:Int) : Nat := (iY h n1).toNat
def wJ (h : Hm) (n1:Int) : Wn := h.ws.getD (jY h n1) default
def cutP (h : Hm) : List UInt8 := List.take (((prS h).length : Int) - 1 - 0).toNat (List.drop 0 (prS h))
def eL (h : Hm) (n0:Int) : Int := inL (exS h.ws n0 h.ws.length) h.ws.length
def eH (h : Hm) (n0:Int) : Int := inH (exS h.ws n0 h.ws.length) h.ws.length
def ga1 (h : Hm) : Bool := fHm (hmD h) != (0:Int)
def ga2 (h : Hm) : Bool := if (ga1 h) = true then true else false
def ga3 (h : Hm) : Bool := if (ga2 h) = true then true else decide (jV1 (hmD h) < (0:Int))
def ga4 (h : Hm) : Bool := if (ga3 h) = true then true else decide (jV1 (hmD h) > jV2 (hmD h))
def gb1 (h : Hm) (n0:Int) (n1:Int) (n2:Int) : Bool := if (fHm (hmD (exH h n0)) != (0:Int)) = true then true else fHm (hmD (lsH h n0 n1 n2)) != (0:Int)
def gb2 (h : Hm) (n0:Int) (n1:Int) (n2:Int) : Bool := if (gb1 h n0 n1 n2) = true then true else decide (jV1 (hmD (exH h n0)) < inL h.ws h.ws.length)
def gb3 (h : Hm) (n0:Int) (n1:Int) (n2:Int) : Bool := if (gb2 h n0 n1 n2) = true then true else decide (jV2 (hmD (exH h n0)) > inH h.ws h.ws.length)
def gb4 (h : Hm) (n0:Int) (n1:Int) (n2:Int) : Bool := if (gb3 h n0 n1 n2) = true then true else decide (jV2 (hmD (exH h n0)) - jV1 (hmD (exH h n0)) > (↑(List.map encWn h.ws).length : Int))
def gb5 (h : Hm) (n0:Int) (n1:Int) (n2:Int) : Bool := if (gb4 h n0 n1 n2) = true then true else decide (jV1 (hmD (lsH h n0 n1 n2)) > inL h.ws h.ws.length)
def gc1 (h : Hm) (n0:Int) (n1:Int) : Bool := if (veE h [] [] (Iv.mk (eL h n0) (eH h n0)) != (0:Int)) = true then true else veE h [] [] (Iv.mk (inH h.ws h.ws.length + (1:Int)) (inH h.ws h.ws.length + (1:Int) + wI n1)) != (0:Int)
def gc2 (h : Hm) (n0:Int) (n1:Int) : Bool := if (gc1 h n0 n1) = true then true else !veV h [] [] (Iv.mk (eL h n0) (eH h n0)) == PLA
def gd1 (h : Hm) : Bool := if (eV (prS h) != (0:Int)) = true then true else kV (prS h) != (0:Int)
def gd2 (h : Hm) : Bool := if (gd1 h) = true then true else false
def ge1 (h : Hm) : Bool := if (eV (cutP h) == (25:Int)) = true then kV (cutP h) == (↑(List.map encWn h.ws).length : Int) else false
theorem wI_e {n : Int} (h : 0 <= n ∧ n <= 65535) : wI n = n := in64_wrap (by unfold In64; omega)
theorem hmD_e (h : Hm) : hmD h = h := by unfold hmD; rw [map_dec decWn_e]
theorem guard13 {h : Hm} (q : (if (!shH h) = true then true else fHm h != 0) = false) : K13 h := by
 cases q1 : shH h with
 | false => rw [q1] at q; cases q
 | true =>
  rw [q1] at q
  exact ⟨(sh_hm q1).1, by simpa using q⟩
theorem sh_n {h : Hm} (q : (!!shH h) = true) : h.nm.length <= 40 ∧ h.ws.length <= 9 := sh_hm (by simpa using q)
theorem jV_e {h : Hm} (hz : fHm h = 0) : jV1 h = inL h.ws h.ws.length ∧ jV2 h = inH h.ws h.ws.length := by
 have q : ¬ (fHm h != 0) = true := by rw [hz]; decide
 exact ⟨if_neg q, if_neg q⟩
theorem c19q (h : Hm) (hn : h.nm.length <= 1000000) (hl : h.ws.length <= 1000) : PCall Tryz.prog G0 19 [.agg (encHm h)] (.tup [.agg [.i (jV1 (hmD h)), .i (jV2 (hmD h))], .i (fHm (hmD h))]) := by
 rw [hmD_e]
 exact c19 h hn hl
theorem c20q {h : Hm} (hz : fHm h = 0) (hn : h.nm.length <= 1000000) (hl : h.ws.length <= 1000) : PCall Tryz.prog G0 20 [.agg (encHm h)] (.tup [.agg [.i (lvl (inL h.ws h.ws.length)), .i (lvl (inH h.ws h.ws.length))], .i 0]) := by
 have q : ¬ (fHm h != 0) = true := by rw [hz]; decide
 have e := c20 h hn hl
 unfold lvV at e
 rw [if_neg q, if_neg q, hz] at e
 exact e
theorem x87 {h : Hm} (hz : fHm h = 0) : (if (ga4 h) = true then true else !(lvl (inL h.ws h.ws.length) == lvl (jV1 (hmD h)) && true && (lvl (inH h.ws h.ws.length) == lvl (jV2 (hmD h)) && true && true))) = false := by
 have h1 := in_bd hz
 have h2 := jV_e hz
 unfold ga4 ga3 ga2 ga1
 rw [hmD_e, hz, h2.1, h2.2, decide_eq_false (p := inL h.ws h.ws.length < 0) (by omega), decide_eq_false (p := inL h.ws h.ws.length > inH h.ws h.ws.length) (by omega), beq_self_eq_true, beq_self_eq_true]
 rfl
theorem e87 {h : Hm} (hz : fHm h = 0) : AV.elt 2 [[AV.i (jV1 (hmD h)), AV.i (jV2 (hmD h))]] 0 0 = ivA2 h := by
 have h2 := jV_e hz
 rw [hmD_e, h2.1, h2.2]
 rfl
theorem exH_jV {h : Hm} {n0 : Int} (hz : fHm h = 0) (h0 : 0 <= n0) : fHm (exH h n0) = 0 ∧ jV1 (exH h n0) = eL h n0 ∧ jV2 (exH h n0) = eH h n0 := by
 have h1 := (exH_ok hz h0).1
 have h2 := jV_e h1
 have h3 : (exH h n0).ws.length = h.ws.length := exS_len _ _ _
 rw [h3] at h2
 exact ⟨h1, h2⟩
theorem lsH_jV {h : Hm} {n0 n1 n2 : Int} (hz : fHm h = 0) (h0 : 0 <= n0) (h1 : 0 <= n1) (h2 : 0 <= n2) : fHm (lsH h n0 n1 n2) = 0 ∧ jV1 (lsH h n0 n1 n2) <= inL h.ws h.ws.length ∧ jV2 (lsH h n0 n1 n2) <= inH h.ws h.ws.length := by
 have q := lsH_ok hz h0 h1 h2
 have e := jV_e q.1
 rw [q.2.1] at e
 exact ⟨q.1, by rw [e.1]; exact q.2.2.1, by rw [e.2]; exact q.2.2.2⟩
theorem x251 {h : Hm} {n0 n1 n2 : Int} (hz : fHm h = 0) (h0 : 0 <= n0) (h1 : 0 <= n1) (h2 : 0 <= n2) : (if (gb5 h n0 n1 n2) = true then true else decide (jV2 (hmD (lsH h n0 n1 n2)) > inH h.ws h.ws.length)) = false := by
 obtain ⟨a1, a2, a3⟩ := exH_jV hz h0
 obtain ⟨b1, b2, b3⟩ := lsH_jV hz h0 h1 h2
 obtain ⟨q1, q2, q3, q4, q5⟩ := exH_ok hz h0
 unfold gb5 gb4 gb3 gb2 gb1
 rw [hmD_e, hmD_e, a1, b1, a2, a3, List.length_map, decide_eq_false (p := eL h n0 < _) (by unfold eL; omega), decide_eq_false (p := eH h n0 > _) (by unfold eH; omega), decide_eq_false (p := eH h n0 - eL h n0 > _) (by unfold eH eL; omega), decide_eq_false (p := jV1 _ > _) (by omega), decide_eq_false (p := jV2 _ > _) (by omega)]
 rfl
theorem e251 {h : Hm} {n0 : Int} (hz : fHm h = 0) (h0 : 0 <= n0) : AV.elt 2 [[AV.i (jV1 (hmD (exH h n0))), AV.i (jV2 (hmD (exH h n0)))]] 0 0 = AV.elt 2 [[AV.i (eL h n0), AV.i (eH h n0)]] 0 0 := by
 obtain ⟨a1, a2, a3⟩ := exH_jV hz h0
 rw [hmD_e, a2, a3]
theorem d251 {h : Hm} {n0 : Int} (hz : fHm h = 0) (h0 : 0 <= n0) : In64 (jV2 (hmD (exH h n0)) - jV1 (hmD (exH h n0))) := by
 obtain ⟨a1, a2, a3⟩ := exH_jV hz h0
 obtain ⟨q1, q2, q3, q4, q5⟩ := exH_ok hz h0
 have := in_bd hz
 rw [hmD_e, a2, a3]
 unfold In64 eH eL
 omega
theorem ve_P {h : Hm} {n0 : Int} (hz : fHm h = 0) (h0 : 0 <= n0) : veE h [] [] ⟨eL h n0, eH h n0⟩ = 0 ∧ veV h [] [] ⟨eL h n0, eH h n0⟩ = PLA := by
 obtain ⟨q1, q2, q3, q4, q5⟩ := exH_ok hz h0
 have := in_bd hz
 have e := ve_ok hz (a := eL h n0) (b := eH h n0) (by unfold eL eH; omega)
 refine ⟨e.1, ?_⟩
 rw [e.2]
 unfold vdS
 rw [if_neg (by rw [decide_eq_true_eq]; show ¬ eH h n0 < _; unfold eH; omega), if_neg (by rw [decide_eq_true_eq]; show ¬ eL h n0 > _; unfold eL; omega)]
theorem ve_Q {h : Hm} {n1 : Int} (hz : fHm h = 0) (h1 : 0 <= n1 ∧ n1 <= 65535) : veE h [] [] ⟨inH h.ws h.ws.length + 1, inH h.ws h.ws.length + 1 + wI n1⟩ = 0 ∧ veV h [] [] ⟨inH h.ws h.ws.length + 1, inH h.ws h.ws.length + 1 + wI n1⟩ = WOR := by
 have := in_bd hz
 rw [wI_e h1]
 have e := ve_ok hz (a := inH h.ws h.ws.length + 1) (b := inH h.ws h.ws.length + 1 + n1) (by omega)
 refine ⟨e.1, ?_⟩
 rw [e.2]
 unfold vdS
 rw [if_neg (by rw [decide_eq_true_eq]; show ¬ inH h.ws h.ws.length + 1 + n1 < _; omega), if_pos (by rw [decide_eq_true_eq]; show inH h.ws h.ws.length + 1 > _; omega)]
theorem ve_R {h : Hm} (hz : fHm h = 0) (h1 : inL h.ws h.ws.length > 0) : veE h [] [] ⟨0, inL h.ws h.ws.length - 1⟩ = 0 ∧ veV h [] [] ⟨0, inL h.ws h.ws.length - 1⟩ = BET := by
 have := in_bd hz
 have e := ve_ok hz (a := 0) (b := inL h.ws h.ws.length - 1) (by omega)
 refine ⟨e.1, ?_⟩
 rw [e.2]
 unfold vdS
 rw [if_pos (by rw [decide_eq_true_eq]; show inL h.ws h.ws.length - 1 < _; omega)]
theorem x289 {h : Hm} {n0 n1 : Int} (hz : fHm h = 0) (h0 : 0 <= n0) (h1 : 0 <= n1 ∧ n1 <= 65535) : (if (gc2 h n0 n1) = true then true else !veV h [] [] (Iv.mk (inH h.ws h.ws.length + 1) (inH h.ws h.ws.length + 1 + wI n1)) == WOR) = false := by
 unfold gc2 gc1
 rw [(ve_P hz h0).1, (ve_P hz h0).2, (ve_Q hz h1).1, (ve_Q hz h1).2]
 rfl
theorem x308 {h : Hm} (hz : fHm h = 0) (h1 : inL h.ws h.ws.length > 0) : (if (veE h [] [] (Iv.mk 0 (inL h.ws h.ws.length - 1)) != 0) = true then true else !veV h [] [] (Iv.mk 0 (inL h.ws h.ws.length - 1)) == BET) = false := by
 rw [(ve_R hz h1).1, (ve_R hz h1).2]
 rfl
theorem c25q (h : Hm) (x : Iv) (hn : h.nm.length <= 1000000) (hw : h.ws.length <= 1000) : PCall Tryz.prog G0 25 [.agg (encHm h), .ex (.slice none 0 0), .ex (.slice none 0 0), .agg [.i x.a, .i x.b]] (.tup [.str (veV h [] [] x), .i (veE h [] [] x)]) :=
 nil25 (c25 h [] [] x hn hw (by decide) (fun _ q => nomatch q) (by decide))
theorem tup3 {a b : Hm} {k m e f : Int} (q : AV.tup [.agg (encHm a), .i k, .i e] = .tup [.agg (encHm b), .i m, .i f]) : encHm a = encHm b ∧ k = m ∧ e = f := by
 injection q with q
 injection q with q1 q
 injection q with q2 q
 injection q with q3 q
 injection q1 with q1
 injection q2 with _ q2
 injection q3 with _ q3
 exact ⟨q1, q2, q3⟩
theorem pr_ok {h : Hm} (hz : fHm h = 0) (hn : h.nm.length <= 40) : (encHm (hmV (prS h)) = encHm h ∧ kV (prS h) = 0 ∧ eV (prS h) = 0) ∧ (spl 10 (prS h)).length = h.ws.length + 2 ∧ (prS h).length <= 2500 ∧ prS h ≠ [] := by
 obtain ⟨h1, h2, h3, h4⟩ := back_ok hz hn (s := prS h) (if_neg (by rw [hz]; decide))
 rw [ps_tup] at h1
 exact ⟨tup3 h1, h2, h3, h4⟩
theorem pos_of {s : List UInt8} (h : s ≠ []) : 1 <= s.length := by
 cases s with
 | nil => exact absurd rfl h
 | cons => exact Nat.succ_le_succ (Nat.zero_le _)
theorem cut_n {h : Hm} (hz : fHm h = 0) (hn : h.nm.length <= 40) : cutP h = (prS h).take ((prS h).length - 1) := by
 have := pos_of (pr_ok hz hn).2.2.2
 unfold cutP
 rw [List.drop_zero, show (((prS h).length : Int) - 1 - 0).toNat = (prS h).length - 1 by omega]
theorem cut_ok {h : Hm} (hz : fHm h = 0) (hn : h.nm.length <= 40) : kV (cutP h) = h.ws.length ∧ eV (cutP h) = 25 ∧ (cutP h).length <= 2500 ∧ (spl 10 (cutP h)).length = h.ws.length + 1 := by
 obtain ⟨h1, h2⟩ := back_cut hz hn (s := prS h) (if_neg (by rw [hz]; decide))
 have h3 := (pr_ok hz hn).2.2.1
 rw [ps_tup, <- cut_n hz hn] at h1
 exact ⟨(tup3 h1).2.1, (tup3 h1).2.2, by rw [cut_n hz hn, List.length_take]; omega, by rw [cut_n hz hn]; exact h2⟩
theorem x347 {h : Hm} (hz : fHm h = 0) (hn : h.nm.length <= 40) : (if (gd2 h) = true then true else ((List.map encS (spl 10 (prS h))).length : Int) != ((List.map encWn h.ws).length : Int) + 2) = false := by
 obtain ⟨⟨h1, h2, h3⟩, h4, _⟩ := pr_ok hz hn
 unfold gd2 gd1
 rw [h2, h3, List.length_map, List.length_map, h4, show ((h.ws.length + 2 : Nat) : Int) = (h.ws.length : Int) + 2 by omega]
 show ((h.ws.length : Int) + 2 != (h.ws.length : Int) + 2) = false
 exact bne_self_eq_false _
theorem xend {h : Hm} (hz : fHm h = 0) (hn : h.nm.length <= 40) : AV.bool (if (ge1 h) = true then true else false) = AV.bool true := by
 obtain ⟨h1, h2, _⟩ := cut_ok hz hn
 unfold ge1
 rw [h1, h2, List.length_map, beq_self_eq_true, beq_self_eq_true]
 rfl
theorem c86q (s : List UInt8) (hl : s.length <= 10000) (hs : (spl 10 s).length <= 900) : PCall Tryz.prog G0 86 [.str s] (.tup [.agg (encHm (hmV s)), .i (kV s), .i (eV s)]) := by
 have e := c86 s hl (fun _ => by have q := lns_len s; have : cntR s <= (spl 10 s).length := Nat.sub_le _ _; split at q <;> omega)
 rw [ps_eq, ps_tup] at e
 exact e
theorem c85q {h : Hm} (hz : fHm h = 0) (hn : h.nm.length <= 40) (hw : h.ws.length <= 9) : PCall Tryz.prog G0 85 [.agg (encHm h)] (.tup [.str (prS h), .i 0]) := by
 have e := c85s hn hw
 rw [hz] at e
 exact e
theorem iY_e {h : Hm} {n1 : Int} (hz : fHm h = 0) (h1 : 0 <= n1 ∧ n1 <= 65535) : iY h n1 = (jX h n1 : Int) ∧ jY h n1 = jX h n1 ∧ jX h n1 < h.ws.length := by
 have q := jX_lt hz h1.1
 have e : iY h n1 = (jX h n1 : Int) := by
  unfold iY
  rw [wI_e h1, List.length_map, q.2]
 exact ⟨e, by unfold jY; rw [e]; exact Int.toNat_natCast _, q.1⟩
theorem as4 {s : List (Nat × AV)} {b1 b3 b4 : Nat × ABlk} {x y : List (List AV)} {n : Nat} (e : x = y) : AS.mk s [b1, (2, .buf 177 25 x), b3, b4] n = AS.mk s [b1, (2, .buf 177 25 y), b3, b4] n := by rw [e]
theorem as2 {s : List (Nat × AV)} {b1 : Nat × ABlk} {x y : List (List AV)} {n : Nat} (e : x = y) : AS.mk s [b1, (2, .buf 177 25 x)] n = AS.mk s [b1, (2, .buf 177 25 y)] n := by rw [e]
theorem wn8 {w : Wn} (hw : WnOK w) : (0 <= w.p0 ∧ w.p0 <= w.p1 ∧ w.p1 <= 1000) ∧ (0 <= w.p2 ∧ w.p2 <= w.p3 ∧ w.p3 <= 1000) ∧ (0 <= w.p4 ∧ w.p4 <= w.p5 ∧ w.p5 <= 1000) ∧ (0 <= w.p6 ∧ w.p6 <= w.p7 ∧ w.p7 <= 1000) ∧ (0 <= w.p8 ∧ w.p8 <= w.p9 ∧ w.p9 <= 1000) ∧ (0 <= w.p10 ∧ w.p10 <= w.p11 ∧ w.p11 <= 1000) ∧ (0 <= w.p12 ∧ w.p12 <= w.p13 ∧ w.p13 <= 1000) ∧ (0 <= w.p14 ∧ w.p14 <= w.p15 ∧ w.p15 <= 1000) :=
 ⟨hw.l0 0 (by omega), hw.l0 1 (by omega), hw.l0 2 (by omega), hw.l0 3 (by omega), hw.l0 4 (by omega), hw.l0 5 (by omega), hw.l0 6 (by omega), hw.l0 7 (by omega)⟩
theorem in_x {w : Wn} (hw : WnOK w) {n : Int} (hn : 0 <= n) (i:Nat) {b : Nat} (hb : b < 8) : In64 (exX w n i b) := by
 have h1 := exX_bd hw hn i hb
 have h2 := hw.l0 b hb
 unfold In64
 omega
theorem in_l {w : Wn} (hw : WnOK w) {m : Int} (hm : 0 <= m) {b : Nat} (hb : b < 8) : In64 (w.lo b - lsB w m b) ∧ In64 (w.hi b - lsB w m b) := by
 have h1 := lsB_bd hw hm hb
 have h2 := hw.l0 b hb
 unfold In64
 omega
theorem ar_n {w : Wn} (hw : WnOK w) {n : Int} (hn : 0 <= n) : ¬ w.ar = 0 ∧ In64 (1 + n.tmod w.ar) := by
 have h1 := lsW_a hw hn 0
 have h2 := hw.a0
 have h3 : (lsW w n 0).ar = 1 + n.tmod w.ar := rfl
 rw [h3] at h1
 unfold In64
 omega
theorem set_l {L : List Wn} {i j : Nat} {x : Wn} (h : j < L.length) : j < (List.map encWn (L.set i x)).length := by rw [List.length_map, List.length_set]; exact h
theorem pl_r {ws : List Wn} {n : Int} {g : Nat} (h : g < ws.length) : AV.agg (List.take 16 (List.drop 9 (nthR (List.map encWn (exS ws n g)) g))) = AV.agg (encPw (ws.getD g default)) := by
 rw [row_at encWn (by rw [exS_len]; exact h), exS_ge (Nat.le_refl _) (Nat.le_of_lt h)]
 rfl
def T_c13_8 (h : Hm) (n0 n1 n2 : Int) : Prop :=
      K13 h -> In64 ((↑(prS h).length : Int) - (1:Int)) ∧ (0:Int) <= (0:Int) ∧ (0:Int) <= (↑(prS h).length : Int) - (1:Int) ∧ (↑(prS h).length : Int) - (1:Int) <= (↑(prS h).length : Int) ∧ PCall
      Tryz.prog G0 86 [AV.str (cutP h)] (AV.tup [AV.agg (encHm (hmV (cutP h))), AV.i (kV (cutP h)), AV.i (eV (cutP h))]) ∧ ((eV (cutP h) == (25:Int)) = true -> (eV (cutP h) == (25:Int)) = true) ∧ ((eV
      (cutP h) == (25:Int)) = true -> (eV (cutP h) == (25:Int)) = true) ∧ ((eV (cutP h) == (25:Int)) = true -> (eV (cutP h) == (25:Int)) = true) ∧ ((eV (cutP h) == (25:Int)) = true -> (eV (cutP h) ==
      (25:Int)) = true) ∧ ((eV (cutP h) == (25:Int)) = true -> (eV (cutP h) == (25:Int)) = true) ∧ ((ge1 h) = true -> (ge1 h) = true) ∧ impB (ge1 h) (PCall Tryz.prog G0 16 [] (AV.bool true)) ∧ AV.bool
      (if (ge1 h) = true then true else false) = AV.bool true
theorem t_c13_8 (h : Hm) (n0 n1 n2 : Int) (hA : PCall Tryz.prog G0 16 [] (.bool true)) (hn0 : 0 <= n0 ∧ n0 <= 65535) (hn1 : 0 <= n1 ∧ n1 <= 65535) (hn2 : 0 <= n2 ∧ n2 <= 65535) : T_c13_8 h n0 n1 n2 := by
 unfold T_c13_8
 refine fun h1 => ?_
 · have hK := h1
   have k1 := h1.ko
   have k2 := h1.kz
   obtain ⟨z1, z2, z3, z4, z5, z6⟩ := hm_z k2
   have zb := in_bd k2
   have w0 := wI_e hn0
   have w1 := wI_e hn1
   have w2 := wI_e hn2
   obtain ⟨y2, y1, yl⟩ := iY_e k2 hn1
   have wz := z6 _ yl
   have yw : wJ h n1 = h.ws.getD (jX h n1) default := by unfold wJ; rw [y1]
   try rw [yw]
   try rw [y2]
   try rw [y1]
   try rw [w0]
   try rw [w2]
   refine ⟨?_, (by omega), ?_, (by omega), (c86q _ (by have := (cut_ok k2 k1).2.2; omega) (by have := (cut_ok k2 k1).2.2; omega)), fun h => h, fun h => h, fun h => h, fun h => h, fun h => h, fun h => h, impB_iff.2 fun hb => hA, (xend k2 k1)⟩
   · have := pos_of (pr_ok k2 k1).2.2.2
     have := (pr_ok k2 k1).2.2.1
     unfold In64
     omega
   · have := pos_of (pr_ok k2 k1).2.2.2
     omega
def T_c13_7 (h : Hm) (n0 n1 n2 : Int) : Prop :=
      K13 h -> PCall Tryz.prog G0 18 [AV.agg (encHm h)] (AV.agg (encHm h)) ∧ PCall Tryz.prog G0 85 [AV.agg (encHm h)] (AV.tup [AV.str (prS h), AV.i 0]) ∧ PCall Tryz.prog G0 86 [AV.str (prS h)] (AV.tup [AV.agg
      (encHm (hmV (prS h))), AV.i (kV (prS h)), AV.i (eV (prS h))]) ∧ ((true = true -> true = true) ∧ (false = false -> true = true) ∧ ((!eV (prS h) != (0:Int)) = true -> (!eV (prS h) != (0:Int)) = true) ∧
      ((eV (prS h) != (0:Int)) = false -> (!eV (prS h) != (0:Int)) = true) ∧ ((!gd1 h) = true -> (!gd1 h) = true) ∧ ((!gd1 h) = true -> (!gd1 h) = true) ∧ ((!gd1 h) = true -> (!gd1 h) = true) ∧ ((!gd1 h) =
      true -> (!gd1 h) = true) ∧ ((gd1 h) = false -> (!gd1 h) = true) ∧ ((!gd2 h) = true -> (!gd2 h) = true) ∧ ((!gd2 h) = true -> (!gd2 h) = true) ∧ ((!gd2 h) = true -> (!gd2 h) = true) ∧ ((!gd2 h) = true →
      (!gd2 h) = true) ∧ ((!gd2 h) = true -> (!gd2 h) = true) ∧ ((!gd2 h) = true -> In64 ((↑(List.map encWn h.ws).length : Int) + (2:Int))) ∧ ((!gd2 h) = true -> (!gd2 h) = true) ∧ ((!gd2 h) = true -> (!gd2 h)
      = true) ∧ ((gd2 h) = false -> (!gd2 h) = true) ∧ impB (!gd1 h) (PCall Tryz.prog G0 41 [AV.agg (encHm (hmV (prS h)))] (AV.agg (encHm (hmV (prS h))))) ∧ impB (!gd1 h) (PCall Tryz.prog G0 40 [AV.agg (encHm
      (hmV (prS h))), AV.agg (encHm h)] (AV.bool true)) ∧ impB (!gd2 h) (PCall Tryz.prog G0 95 [AV.str (prS h), AV.int IntKind.u8 (10:Int)] (AV.sl 1 (List.map encS (spl (10:UInt8) (prS h))))) ∧ AS.mk
      [(2, hmA h), (30, AV.str (prS h)), (347, AV.bool (if (gd2 h) = true then true else (↑(List.map encS (spl (10:UInt8) (prS h))).length : Int) != (↑(List.map encWn h.ws).length : Int) + (2:Int)))] []
      1 = AS.mk [(2, hmA h), (30, AV.str (prS h)), (347, AV.bool false)] [] 1) ∧ (AS.mk [(2, hmA h), (30, AV.str (prS h))] [] 1 = AS.mk [(2, hmA h), (30, AV.str (prS h))] [] 1 ∧ K13 h) ∧ (T_c13_8 h n0 n1 n2)
theorem t_c13_7 (h : Hm) (n0 n1 n2 : Int) (hA : PCall Tryz.prog G0 16 [] (.bool true)) (hn0 : 0 <= n0 ∧ n0 <= 65535) (hn1 : 0 <= n1 ∧ n1 <= 65535) (hn2 : 0 <= n2 ∧ n2 <= 65535) : T_c13_7 h n0 n1 n2 := by
 unfold T_c13_7
 have : (List.map encWn h.ws).length = h.ws.length := by simp only [List.length_map]
 have : (List.map encS (spl (10:UInt8) (prS h))).length = (spl (10:UInt8) (prS h)).length := by simp only [List.length_map]
 refine fun h1 => ?_
 · have hK := h1
   have k1 := h1.ko
   have k2 := h1.kz
   obtain ⟨z1, z2, z3, z4, z5, z6⟩ := hm_z k2
   have zb := in_bd k2
   have w0 := wI_e hn0
   have w1 := wI_e hn1
   have w2 := wI_e hn2
   obtain ⟨y2, y1, yl⟩ := iY_e k2 hn1
   have wz := z6 _ yl
   have yw : wJ h n1 = h.ws.getD (jX h n1) default := by unfold wJ; rw [y1]
   try rw [yw]
   try rw [y2]
   try rw [y1]
   try rw [w0]
   try rw [w2]
   exact ⟨(c18 h (by omega)), (c85q k2 k1 (by omega)), (c86q _ (by have := (pr_ok k2 k1).2.2.1; omega) (by have := (pr_ok k2 k1).2.1; omega)), ⟨fun h => h, fun h => by first | exact h | (rw [h]; rfl) | simp_all, fun h => h, fun h => by first | exact h | (rw [h]; rfl) | simp_all, fun h => h, fun h => h, fun h => h, fun h => h, fun h => by first | exact h | (rw [h]; rfl) | simp_all, fun h => h, fun h => h, fun h => h, fun h => h, fun h => h, fun _ => by unfold In64; omega, fun h => h, fun h => h, fun h => by first | exact h | (rw [h]; rfl) | simp_all, impB_iff.2 fun hb => ((by rw [(pr_ok k2 k1).1.1]; exact c41 h (by omega))), impB_iff.2 fun hb => ((by rw [(pr_ok k2 k1).1.1]; exact c40 h (by omega))), impB_iff.2 fun hb => (c95 (prS h) 10 (by have := (pr_ok k2 k1).2.2.1; omega) (by omega)), (congrArg (fun b => AS.mk [_, _, (347, AV.bool b)] [] 1) (x347 k2 k1))⟩, ⟨rfl, hK⟩, t_c13_8 h n0 n1 n2 hA hn0 hn1 hn2⟩
def T_c13_6 (h : Hm) (n0 n1 n2 : Int) : Prop :=
      K13 h -> ((decide (inL h.ws h.ws.length > (0:Int)) = true -> In64 (inL h.ws h.ws.length - (1:Int)) ∧ PCall Tryz.prog G0 18 [AV.agg (encHm h)] (AV.agg (encHm h)) ∧ PCall Tryz.prog G0 94 [AV.i 0, AV.i
      (inL h.ws h.ws.length - (1:Int))] (AV.agg [AV.i 0, AV.i (inL h.ws h.ws.length - (1:Int))]) ∧ PCall Tryz.prog G0 25 [AV.agg (encHm h), AV.ex (Value.slice none 0 0), AV.ex (Value.slice none 0 0),
      AV.agg [AV.i 0, AV.i (inL h.ws h.ws.length - (1:Int))]] (AV.tup [AV.str (veV h [] [] (Iv.mk (0:Int) (inL h.ws h.ws.length - (1:Int)))), AV.i (veE h [] [] (Iv.mk (0:Int) (inL h.ws h.ws.length -
      (1:Int))))]) ∧ (((!veE h [] [] (Iv.mk (0:Int) (inL h.ws h.ws.length - (1:Int))) != (0:Int)) = true -> (!veE h [] [] (Iv.mk (0:Int) (inL h.ws h.ws.length - (1:Int))) != (0:Int)) = true) ∧
      ((veE h [] [] (Iv.mk (0:Int) (inL h.ws h.ws.length - (1:Int))) != (0:Int)) = false -> (!veE h [] [] (Iv.mk (0:Int) (inL h.ws h.ws.length - (1:Int))) != (0:Int)) = true) ∧ AS.mk [(2, hmA h),
      (308, AV.bool (if (veE h [] [] (Iv.mk (0:Int) (inL h.ws h.ws.length - (1:Int))) != (0:Int)) = true then true else !veV h [] [] (Iv.mk (0:Int) (inL h.ws h.ws.length - (1:Int))) == BET))] [] 1
      = AS.mk [(2, hmA h), (308, AV.bool false)] [] 1) ∧ AS.mk [(2, hmA h)] [] 1 = AS.mk [(2, hmA h)] [] 1 ∧ K13 h) ∧ (decide (inL h.ws h.ws.length > (0:Int)) = false -> AS.mk [(2, hmA h)] [] 1 = AS.mk [(2,
      hmA h)] [] 1 ∧ K13 h)) ∧ (T_c13_7 h n0 n1 n2)
theorem t_c13_6 (h : Hm) (n0 n1 n2 : Int) (hA : PCall Tryz.prog G0 16 [] (.bool true)) (hn0 : 0 <= n0 ∧ n0 <= 65535) (hn1 : 0 <= n1 ∧ n1 <= 65535) (hn2 : 0 <= n2 ∧ n2 <= 65535) : T_c13_6 h n0 n1 n2 := by
 unfold T_c13_6
 refine fun h1 => ?_
 · have hK := h1
   have k1 := h1.ko
   have k2 := h1.kz
   obtain ⟨z1, z2, z3, z4, z5, z6⟩ := hm_z k2
   have zb := in_bd k2
   have w0 := wI_e hn0
   have w1 := wI_e hn1
   have w2 := wI_e hn2
   obtain ⟨y2, y1, yl⟩ := iY_e k2 hn1
   have wz := z6 _ yl
   have yw : wJ h n1 = h.ws.getD (jX h n1) default := by unfold wJ; rw [y1]
   try rw [yw]
   try rw [y2]
   try rw [y1]
   try rw [w0]
   try rw [w2]
   refine ⟨⟨fun h2 => ?_, fun h2 => ⟨rfl, hK⟩⟩, t_c13_7 h n0 n1 n2 hA hn0 hn1 hn2⟩
   · have hp := of_decide_eq_true h2
     exact ⟨(by unfold In64; omega), (c18 h (by omega)), (c94 _ _), (c25q h (Iv.mk _ _) (by omega) (by omega)), ⟨fun h => h, fun h => by first | exact h | (rw [h]; rfl) | simp_all, (congrArg (fun b => AS.mk [_, (308, AV.bool b)] [] 1) (x308 k2 hp))⟩, rfl, hK⟩
def T_c13_5 (h : Hm) (n0 n1 n2 : Int) : Prop :=
      K13 h -> PCall Tryz.prog G0 18 [AV.agg (encHm h)] (AV.agg (encHm h)) ∧ PCall Tryz.prog G0 25 [AV.agg (encHm h), AV.ex (Value.slice none 0 0), AV.ex (Value.slice none 0 0), AV.agg [AV.i (eL h n0), AV.i
      (eH h n0)]] (AV.tup [AV.str (veV h [] [] (Iv.mk (eL h n0) (eH h n0))), AV.i (veE h [] [] (Iv.mk (eL h n0) (eH h n0)))]) ∧ In64 (inH h.ws h.ws.length + (1:Int)) ∧ In64 (inH h.ws h.ws.length + (1 :
      Int)) ∧ (0:Int) <= (1:Int) ∧ (1:Int) < (3:Int) ∧ In64 (inH h.ws h.ws.length + (1:Int) + wI n1) ∧ PCall Tryz.prog G0 18 [AV.agg (encHm h)] (AV.agg (encHm h)) ∧ PCall Tryz.prog G0 94 [AV.i (inH
      h.ws h.ws.length + (1:Int)), AV.i (inH h.ws h.ws.length + (1:Int) + wI n1)] (AV.agg [AV.i (inH h.ws h.ws.length + (1:Int)), AV.i (inH h.ws h.ws.length + (1:Int) + wI n1)]) ∧ PCall Tryz.prog G0
      25 [AV.agg (encHm h), AV.ex (Value.slice none 0 0), AV.ex (Value.slice none 0 0), AV.agg [AV.i (inH h.ws h.ws.length + (1:Int)), AV.i (inH h.ws h.ws.length + (1:Int) + wI n1)]] (AV.tup [AV.str (veV
      h [] [] (Iv.mk (inH h.ws h.ws.length + (1:Int)) (inH h.ws h.ws.length + (1:Int) + wI n1))), AV.i (veE h [] [] (Iv.mk (inH h.ws h.ws.length + (1:Int)) (inH h.ws h.ws.length + (1:Int) + wI
      n1)))]) ∧ (((!veE h [] [] (Iv.mk (eL h n0) (eH h n0)) != (0:Int)) = true -> (!veE h [] [] (Iv.mk (eL h n0) (eH h n0)) != (0:Int)) = true) ∧ ((veE h [] [] (Iv.mk (eL h n0) (eH h n0)) != (0:Int)) =
      false -> (!veE h [] [] (Iv.mk (eL h n0) (eH h n0)) != (0:Int)) = true) ∧ ((!gc1 h n0 n1) = true -> (!gc1 h n0 n1) = true) ∧ ((gc1 h n0 n1) = false -> (!gc1 h n0 n1) = true) ∧ ((!gc2 h n0 n1) = true →
      (!gc2 h n0 n1) = true) ∧ ((gc2 h n0 n1) = false -> (!gc2 h n0 n1) = true) ∧ AS.mk [(2, hmA h), (3, n3A n0 n1 n2), (5, ivA2 h), (289, AV.bool (if (gc2 h n0 n1) = true then true else !veV h [] [] (Iv.mk
      (inH h.ws h.ws.length + (1:Int)) (inH h.ws h.ws.length + (1:Int) + wI n1)) == WOR))] [] 1 = AS.mk [(2, hmA h), (3, n3A n0 n1 n2), (5, ivA2 h), (289, AV.bool false)] [] 1) ∧ (AS.mk [(2, hmA h), (3,
      n3A n0 n1 n2), (5, ivA2 h)] [] 1 = AS.mk [(2, hmA h), (3, n3A n0 n1 n2), (5, ivA2 h)] [] 1 ∧ K13 h) ∧ (T_c13_6 h n0 n1 n2)
theorem t_c13_5 (h : Hm) (n0 n1 n2 : Int) (hA : PCall Tryz.prog G0 16 [] (.bool true)) (hn0 : 0 <= n0 ∧ n0 <= 65535) (hn1 : 0 <= n1 ∧ n1 <= 65535) (hn2 : 0 <= n2 ∧ n2 <= 65535) : T_c13_5 h n0 n1 n2 := by
 unfold T_c13_5
 refine fun h1 => ?_
 · have hK := h1
   have k1 := h1.ko
   have k2 := h1.kz
   obtain ⟨z1, z2, z3, z4, z5, z6⟩ := hm_z k2
   have zb := in_bd k2
   have w0 := wI_e hn0
   have w1 := wI_e hn1
   have w2 := wI_e hn2
   obtain ⟨y2, y1, yl⟩ := iY_e k2 hn1
   have wz := z6 _ yl
   have yw : wJ h n1 = h.ws.getD (jX h n1) default := by unfold wJ; rw [y1]
   try rw [yw]
   try rw [y2]
   try rw [y1]
   try rw [w0]
   try rw [w2]
   exact ⟨(c18 h (by omega)), (c25q h (Iv.mk _ _) (by omega) (by omega)), (by unfold In64; omega), (by unfold In64; omega), (by omega), (by omega), (by unfold In64; omega), (c18 h (by omega)), (c94 _ _), (c25q h (Iv.mk _ _) (by omega) (by omega)), ⟨fun h => h, fun h => by first | exact h | (rw [h]; rfl) | simp_all, fun h => h, fun h => by first | exact h | (rw [h]; rfl) | simp_all, fun h => h, fun h => by first | exact h | (rw [h]; rfl) | simp_all, (congrArg (fun b => AS.mk [_, _, _, (289, AV.bool b)] [] 1) (x289 k2 hn0.1 hn1))⟩, ⟨rfl, hK⟩, t_c13_6 h n0 n1 n2 hA hn0 hn1 hn2⟩
def T_c13_4 (h : Hm) (n0 n1 n2 : Int) : Prop :=
      K13 h -> PCall Tryz.prog G0 18 [AV.agg [AV.str h.nm, AV.i h.pe, AV.sl 25 (List.map encWn (exS h.ws n0 h.ws.length))]] (AV.agg [AV.str h.nm, AV.i h.pe, AV.sl 25 (List.map encWn (exS h.ws n0
      h.ws.length))]) ∧ PCall Tryz.prog G0 19 [AV.agg [AV.str h.nm, AV.i h.pe, AV.sl 25 (List.map encWn (exS h.ws n0 h.ws.length))]] (AV.tup [AV.agg [AV.i (jV1 (hmD (exH h n0))), AV.i (jV2 (hmD (exH h
      n0)))], AV.i (fHm (hmD (exH h n0)))]) ∧ PCall Tryz.prog G0 18 [AV.agg [AV.str h.nm, AV.i h.pe, AV.sl 25 (List.map encWn (h.ws.set (jX h n1) (lsW (h.ws.getD (jX h n1) default) n0 n2)))]] (AV.agg [AV.str
      h.nm, AV.i h.pe, AV.sl 25 (List.map encWn (h.ws.set (jX h n1) (lsW (h.ws.getD (jX h n1) default) n0 n2)))]) ∧ PCall Tryz.prog G0 19 [AV.agg [AV.str h.nm, AV.i h.pe, AV.sl 25 (List.map encWn (h.ws.set
      (jX h n1) (lsW (h.ws.getD (jX h n1) default) n0 n2)))]] (AV.tup [AV.agg [AV.i (jV1 (hmD (lsH h n0 n1 n2))), AV.i (jV2 (hmD (lsH h n0 n1 n2)))], AV.i (fHm (hmD (lsH h n0 n1 n2)))]) ∧ (((!fHm (hmD (exH h
      n0)) != (0:Int)) = true -> (!fHm (hmD (exH h n0)) != (0:Int)) = true) ∧ ((fHm (hmD (exH h n0)) != (0:Int)) = false -> (!fHm (hmD (exH h n0)) != (0:Int)) = true) ∧ ((!gb1 h n0 n1 n2) = true →
      (!gb1 h n0 n1 n2) = true) ∧ ((!gb1 h n0 n1 n2) = true -> (!gb1 h n0 n1 n2) = true) ∧ ((!gb1 h n0 n1 n2) = true -> (!gb1 h n0 n1 n2) = true) ∧ ((!gb1 h n0 n1 n2) = true -> (!gb1 h n0 n1 n2) = true) ∧ ((gb1
      h n0 n1 n2) = false -> (!gb1 h n0 n1 n2) = true) ∧ ((!gb2 h n0 n1 n2) = true -> (!gb2 h n0 n1 n2) = true) ∧ ((!gb2 h n0 n1 n2) = true -> (!gb2 h n0 n1 n2) = true) ∧ ((!gb2 h n0 n1 n2) = true -> (!gb2 h n0
      n1 n2) = true) ∧ ((!gb2 h n0 n1 n2) = true -> (!gb2 h n0 n1 n2) = true) ∧ ((gb2 h n0 n1 n2) = false -> (!gb2 h n0 n1 n2) = true) ∧ ((!gb3 h n0 n1 n2) = true -> (!gb3 h n0 n1 n2) = true) ∧ ((!gb3 h n0 n1
      n2) = true -> (!gb3 h n0 n1 n2) = true) ∧ ((!gb3 h n0 n1 n2) = true -> (!gb3 h n0 n1 n2) = true) ∧ ((!gb3 h n0 n1 n2) = true -> (!gb3 h n0 n1 n2) = true) ∧ ((!gb3 h n0 n1 n2) = true -> In64 (jV2 (hmD (exH
      h n0)) - jV1 (hmD (exH h n0)))) ∧ ((!gb3 h n0 n1 n2) = true -> (!gb3 h n0 n1 n2) = true) ∧ ((!gb3 h n0 n1 n2) = true -> (!gb3 h n0 n1 n2) = true) ∧ ((!gb3 h n0 n1 n2) = true -> (!gb3 h n0 n1 n2) = true) ∧
      ((!gb3 h n0 n1 n2) = true -> (!gb3 h n0 n1 n2) = true) ∧ ((gb3 h n0 n1 n2) = false -> (!gb3 h n0 n1 n2) = true) ∧ ((!gb4 h n0 n1 n2) = true -> (!gb4 h n0 n1 n2) = true) ∧ ((!gb4 h n0 n1 n2) = true -> (!gb4
      h n0 n1 n2) = true) ∧ ((!gb4 h n0 n1 n2) = true -> (!gb4 h n0 n1 n2) = true) ∧ ((!gb4 h n0 n1 n2) = true -> (!gb4 h n0 n1 n2) = true) ∧ ((gb4 h n0 n1 n2) = false -> (!gb4 h n0 n1 n2) = true) ∧ ((!gb5 h n0
      n1 n2) = true -> (!gb5 h n0 n1 n2) = true) ∧ ((!gb5 h n0 n1 n2) = true -> (!gb5 h n0 n1 n2) = true) ∧ ((!gb5 h n0 n1 n2) = true -> (!gb5 h n0 n1 n2) = true) ∧ ((!gb5 h n0 n1 n2) = true -> (!gb5 h n0 n1 n2)
      = true) ∧ ((gb5 h n0 n1 n2) = false -> (!gb5 h n0 n1 n2) = true) ∧ AS.mk [(2, hmA h), (3, n3A n0 n1 n2), (5, ivA2 h), (20, AV.elt 2 [[AV.i (jV1 (hmD (exH h n0))), AV.i (jV2 (hmD (exH h n0)))]] 0 0),
      (251, AV.bool (if (gb5 h n0 n1 n2) = true then true else decide (jV2 (hmD (lsH h n0 n1 n2)) > inH h.ws h.ws.length)))] [] 1 = AS.mk [(2, hmA h), (3, n3A n0 n1 n2), (5, ivA2 h), (20, AV.elt 2 [[AV.i
      (jV1 (hmD (exH h n0))), AV.i (jV2 (hmD (exH h n0)))]] 0 0), (251, AV.bool false)] [] 1) ∧ (AS.mk [(2, hmA h), (3, n3A n0 n1 n2), (5, ivA2 h), (20, AV.elt 2 [[AV.i (jV1 (hmD (exH h n0))), AV.i (jV2 (hmD
      (exH h n0)))]] 0 0)] [] 1 = AS.mk [(2, hmA h), (3, n3A n0 n1 n2), (5, ivA2 h), (20, AV.elt 2 [[AV.i (eL h n0), AV.i (eH h n0)]] 0 0)] [] 1 ∧ K13 h) ∧ (T_c13_5 h n0 n1 n2)
theorem t_c13_4 (h : Hm) (n0 n1 n2 : Int) (hA : PCall Tryz.prog G0 16 [] (.bool true)) (hn0 : 0 <= n0 ∧ n0 <= 65535) (hn1 : 0 <= n1 ∧ n1 <= 65535) (hn2 : 0 <= n2 ∧ n2 <= 65535) : T_c13_4 h n0 n1 n2 := by
 unfold T_c13_4
 refine fun h1 => ?_
 · have hK := h1
   have k1 := h1.ko
   have k2 := h1.kz
   obtain ⟨z1, z2, z3, z4, z5, z6⟩ := hm_z k2
   have zb := in_bd k2
   have w0 := wI_e hn0
   have w1 := wI_e hn1
   have w2 := wI_e hn2
   obtain ⟨y2, y1, yl⟩ := iY_e k2 hn1
   have wz := z6 _ yl
   have yw : wJ h n1 = h.ws.getD (jX h n1) default := by unfold wJ; rw [y1]
   try rw [yw]
   try rw [y2]
   try rw [y1]
   try rw [w0]
   try rw [w2]
   exact ⟨(c18 (exH h n0) (by show (exS h.ws n0 h.ws.length).length <= 1000; rw [exS_len]; omega)), (c19q (exH h n0) (by show h.nm.length <= 1000000; omega) (by show (exS h.ws n0 h.ws.length).length <= 1000; rw [exS_len]; omega)), (c18 (lsH h n0 n1 n2) (by have := (lsH_ok k2 hn0.1 hn1.1 hn2.1).2.1; omega)), (c19q (lsH h n0 n1 n2) (by show h.nm.length <= 1000000; omega) (by have := (lsH_ok k2 hn0.1 hn1.1 hn2.1).2.1; omega)), ⟨fun h => h, fun h => by first | exact h | (rw [h]; rfl) | simp_all, fun h => h, fun h => h, fun h => h, fun h => h, fun h => by first | exact h | (rw [h]; rfl) | simp_all, fun h => h, fun h => h, fun h => h, fun h => h, fun h => by first | exact h | (rw [h]; rfl) | simp_all, fun h => h, fun h => h, fun h => h, fun h => h, (fun _ => d251 k2 hn0.1), fun h => h, fun h => h, fun h => h, fun h => h, fun h => by first | exact h | (rw [h]; rfl) | simp_all, fun h => h, fun h => h, fun h => h, fun h => h, fun h => by first | exact h | (rw [h]; rfl) | simp_all, fun h => h, fun h => h, fun h => h, fun h => h, fun h => by first | exact h | (rw [h]; rfl) | simp_all, (congrArg (fun b => AS.mk [_, _, _, _, (251, AV.bool b)] [] 1) (x251 k2 hn0.1 hn1.1 hn2.1))⟩, ⟨(congrArg (fun b => AS.mk [_, _, _, (20, b)] [] 1) (e251 k2 hn0.1)), hK⟩, t_c13_5 h n0 n1 n2 hA hn0 hn1 hn2⟩
def T_c13_3 (h : Hm) (n0 n1 n2 : Int) : Prop :=
      K13 h -> (0:Int) <= (1:Int) ∧ (1:Int) < (3:Int) ∧ ¬(↑(List.map encWn h.ws).length : Int) = (0:Int) ∧ (0:Int) <= iY h n1 ∧ iY h n1 < (↑(List.map encWn h.ws).length : Int) ∧ (jY h n1) <
      (List.map encWn h.ws).length ∧ AV.agg (List.take 16 (List.drop 9 (nthR (List.map encWn h.ws) (jY h n1)))) = AV.agg (encPw (wJ h n1)) ∧ (0:Int) <= (0:Int) ∧ (0:Int) < (8:Int) ∧ (0:Int) <= (2 :
      Int) ∧ (2:Int) < (3:Int) ∧ In64 ((wJ h n1).p0 + (1:Int)) ∧ ¬(wJ h n1).p0 + (1:Int) = (0:Int) ∧ (In64 ((wJ h n1).p0 - lsB (wJ h n1) (wI n2) 0) ∧ In64 ((wJ h n1).p1 - lsB (wJ h n1) (wI n2) 0)
      ∧ (0:Int) <= iY h n1 ∧ iY h n1 < (↑(List.map encWn h.ws).length : Int) ∧ (0:Int) <= (0:Int) ∧ (0:Int) < (8:Int) ∧ (jY h n1) < (List.map encWn h.ws).length ∧ PCall Tryz.prog G0 94 [AV.i ((wJ h
      n1).p0 - lsB (wJ h n1) (wI n2) 0), AV.i ((wJ h n1).p1 - lsB (wJ h n1) (wI n2) 0)] (AV.agg [AV.i ((wJ h n1).p0 - lsB (wJ h n1) (wI n2) 0), AV.i ((wJ h n1).p1 - lsB (wJ h n1) (wI n2) 0)]) ∧ AS.mk [(2,
      hmA h), (3, n3A n0 n1 n2), (5, ivA2 h), (9, AV.elt 3 [[AV.str h.nm, AV.i h.pe, AV.sl 25 (List.map encWn (exS h.ws n0 h.ws.length))]] 0 0), (10, AV.ptr 1 0), (16, AV.i (iY h n1)), (150, AV.agg (encPw
      (wJ h n1))), (151, AV.i 0)] [(1, bo h 2), (2, ABlk.buf 177 25 (putRow (List.map encWn h.ws) (jY h n1) 9 [AV.i ((wJ h n1).p0 - lsB (wJ h n1) (wI n2) 0), AV.i ((wJ h n1).p1 - lsB (wJ h n1) (wI n2) 0)]))]
      3 = AS.mk [(2, hmA h), (3, n3A n0 n1 n2), (5, ivA2 h), (9, AV.elt 3 [[AV.str h.nm, AV.i h.pe, AV.sl 25 (List.map encWn (exS h.ws n0 h.ws.length))]] 0 0), (10, AV.ptr 1 0), (16, AV.i (iY h n1)), (150,
      AV.agg (encPw (wJ h n1))), (151, AV.i 0)] [(1, bo h 2), (2, ABlk.buf 177 25 (List.map encWn (h.ws.set (jX h n1) (lsK (h.ws.getD (jX h n1) default) n2 1))))] 3) ∧ In64 (1:Int) ∧ (0:Int) <= (1:Int)
      ∧ (1:Int) < (8:Int) ∧ (0:Int) <= (2:Int) ∧ (2:Int) < (3:Int) ∧ In64 ((wJ h n1).p2 + (1:Int)) ∧ ¬(wJ h n1).p2 + (1:Int) = (0:Int) ∧ (In64 ((wJ h n1).p2 - lsB (wJ h n1) (wI n2) 1) ∧
      In64 ((wJ h n1).p3 - lsB (wJ h n1) (wI n2) 1) ∧ (0:Int) <= iY h n1 ∧ iY h n1 < (↑(List.map encWn h.ws).length : Int) ∧ (0:Int) <= (1:Int) ∧ (1:Int) < (8:Int) ∧ (jY h n1) < (List.map encWn
      (h.ws.set (jX h n1) (lsK (h.ws.getD (jX h n1) default) n2 1))).length ∧ PCall Tryz.prog G0 94 [AV.i ((wJ h n1).p2 - lsB (wJ h n1) (wI n2) 1), AV.i ((wJ h n1).p3 - lsB (wJ h n1) (wI n2) 1)] (AV.agg
      [AV.i ((wJ h n1).p2 - lsB (wJ h n1) (wI n2) 1), AV.i ((wJ h n1).p3 - lsB (wJ h n1) (wI n2) 1)]) ∧ AS.mk [(2, hmA h), (3, n3A n0 n1 n2), (5, ivA2 h), (9, AV.elt 3 [[AV.str h.nm, AV.i h.pe, AV.sl 25
      (List.map encWn (exS h.ws n0 h.ws.length))]] 0 0), (10, AV.ptr 1 0), (16, AV.i (iY h n1)), (150, AV.agg (encPw (wJ h n1))), (151, AV.i (1:Int))] [(1, bo h 2), (2, ABlk.buf 177 25 (putRow (List.map
      encWn (h.ws.set (jX h n1) (lsK (h.ws.getD (jX h n1) default) n2 1))) (jY h n1) 11 [AV.i ((wJ h n1).p2 - lsB (wJ h n1) (wI n2) 1), AV.i ((wJ h n1).p3 - lsB (wJ h n1) (wI n2) 1)]))] 3 = AS.mk [(2, hmA
      h), (3, n3A n0 n1 n2), (5, ivA2 h), (9, AV.elt 3 [[AV.str h.nm, AV.i h.pe, AV.sl 25 (List.map encWn (exS h.ws n0 h.ws.length))]] 0 0), (10, AV.ptr 1 0), (16, AV.i (iY h n1)), (150, AV.agg (encPw (wJ h
      n1))), (151, AV.i (1:Int))] [(1, bo h 2), (2, ABlk.buf 177 25 (List.map encWn (h.ws.set (jX h n1) (lsK (h.ws.getD (jX h n1) default) n2 2))))] 3) ∧ In64 (2:Int) ∧ (0:Int) <= (2:Int) ∧ (2:Int)
      < (8:Int) ∧ (0:Int) <= (2:Int) ∧ (2:Int) < (3:Int) ∧ In64 ((wJ h n1).p4 + (1:Int)) ∧ ¬(wJ h n1).p4 + (1:Int) = (0:Int) ∧ (In64 ((wJ h n1).p4 - lsB (wJ h n1) (wI n2) 2) ∧ In64 ((wJ h
      n1).p5 - lsB (wJ h n1) (wI n2) 2) ∧ (0:Int) <= iY h n1 ∧ iY h n1 < (↑(List.map encWn h.ws).length : Int) ∧ (0:Int) <= (2:Int) ∧ (2:Int) < (8:Int) ∧ (jY h n1) < (List.map encWn (h.ws.set (jX h
      n1) (lsK (h.ws.getD (jX h n1) default) n2 2))).length ∧ PCall Tryz.prog G0 94 [AV.i ((wJ h n1).p4 - lsB (wJ h n1) (wI n2) 2), AV.i ((wJ h n1).p5 - lsB (wJ h n1) (wI n2) 2)] (AV.agg [AV.i ((wJ h n1).p4
      - lsB (wJ h n1) (wI n2) 2), AV.i ((wJ h n1).p5 - lsB (wJ h n1) (wI n2) 2)]) ∧ AS.mk [(2, hmA h), (3, n3A n0 n1 n2), (5, ivA2 h), (9, AV.elt 3 [[AV.str h.nm, AV.i h.pe, AV.sl 25 (List.map encWn (exS
      h.ws n0 h.ws.length))]] 0 0), (10, AV.ptr 1 0), (16, AV.i (iY h n1)), (150, AV.agg (encPw (wJ h n1))), (151, AV.i (2:Int))] [(1, bo h 2), (2, ABlk.buf 177 25 (putRow (List.map encWn (h.ws.set (jX h
      n1) (lsK (h.ws.getD (jX h n1) default) n2 2))) (jY h n1) 13 [AV.i ((wJ h n1).p4 - lsB (wJ h n1) (wI n2) 2), AV.i ((wJ h n1).p5 - lsB (wJ h n1) (wI n2) 2)]))] 3 = AS.mk [(2, hmA h), (3, n3A n0 n1 n2),
      (5, ivA2 h), (9, AV.elt 3 [[AV.str h.nm, AV.i h.pe, AV.sl 25 (List.map encWn (exS h.ws n0 h.ws.length))]] 0 0), (10, AV.ptr 1 0), (16, AV.i (iY h n1)), (150, AV.agg (encPw (wJ h n1))), (151, AV.i (2 :
      Int))] [(1, bo h 2), (2, ABlk.buf 177 25 (List.map encWn (h.ws.set (jX h n1) (lsK (h.ws.getD (jX h n1) default) n2 3))))] 3) ∧ In64 (3:Int) ∧ (0:Int) <= (3:Int) ∧ (3:Int) < (8:Int) ∧ (0 :
      Int) <= (2:Int) ∧ (2:Int) < (3:Int) ∧ In64 ((wJ h n1).p6 + (1:Int)) ∧ ¬(wJ h n1).p6 + (1:Int) = (0:Int) ∧ (In64 ((wJ h n1).p6 - lsB (wJ h n1) (wI n2) 3) ∧ In64 ((wJ h n1).p7 - lsB (wJ h n1)
      (wI n2) 3) ∧ (0:Int) <= iY h n1 ∧ iY h n1 < (↑(List.map encWn h.ws).length : Int) ∧ (0:Int) <= (3:Int) ∧ (3:Int) < (8:Int) ∧ (jY h n1) < (List.map encWn (h.ws.set (jX h n1) (lsK (h.ws.getD (jX
      h n1) default) n2 3))).length ∧ PCall Tryz.prog G0 94 [AV.i ((wJ h n1).p6 - lsB (wJ h n1) (wI n2) 3), AV.i ((wJ h n1).p7 - lsB (wJ h n1) (wI n2) 3)] (AV.agg [AV.i ((wJ h n1).p6 - lsB (wJ h n1) (wI n2)
      3), AV.i ((wJ h n1).p7 - lsB (wJ h n1) (wI n2) 3)]) ∧ AS.mk [(2, hmA h), (3, n3A n0 n1 n2), (5, ivA2 h), (9, AV.elt 3 [[AV.str h.nm, AV.i h.pe, AV.sl 25 (List.map encWn (exS h.ws n0 h.ws.length))]] 0
      0), (10, AV.ptr 1 0), (16, AV.i (iY h n1)), (150, AV.agg (encPw (wJ h n1))), (151, AV.i (3:Int))] [(1, bo h 2), (2, ABlk.buf 177 25 (putRow (List.map encWn (h.ws.set (jX h n1) (lsK (h.ws.getD (jX h
      n1) default) n2 3))) (jY h n1) 15 [AV.i ((wJ h n1).p6 - lsB (wJ h n1) (wI n2) 3), AV.i ((wJ h n1).p7 - lsB (wJ h n1) (wI n2) 3)]))] 3 = AS.mk [(2, hmA h), (3, n3A n0 n1 n2), (5, ivA2 h), (9, AV.elt 3
      [[AV.str h.nm, AV.i h.pe, AV.sl 25 (List.map encWn (exS h.ws n0 h.ws.length))]] 0 0), (10, AV.ptr 1 0), (16, AV.i (iY h n1)), (150, AV.agg (encPw (wJ h n1))), (151, AV.i (3:Int))] [(1, bo h 2), (2,
      ABlk.buf 177 25 (List.map encWn (h.ws.set (jX h n1) (lsK (h.ws.getD (jX h n1) default) n2 4))))] 3) ∧ In64 (4:Int) ∧ (0:Int) <= (4:Int) ∧ (4:Int) < (8:Int) ∧ (0:Int) <= (2:Int) ∧ (2:Int)
      < (3:Int) ∧ In64 ((wJ h n1).p8 + (1:Int)) ∧ ¬(wJ h n1).p8 + (1:Int) = (0:Int) ∧ (In64 ((wJ h n1).p8 - lsB (wJ h n1) (wI n2) 4) ∧ In64 ((wJ h n1).p9 - lsB (wJ h n1) (wI n2) 4) ∧ (0:Int) <= iY
      h n1 ∧ iY h n1 < (↑(List.map encWn h.ws).length : Int) ∧ (0:Int) <= (4:Int) ∧ (4:Int) < (8:Int) ∧ (jY h n1) < (List.map encWn (h.ws.set (jX h n1) (lsK (h.ws.getD (jX h n1) default) n2
      4))).length ∧ PCall Tryz.prog G0 94 [AV.i ((wJ h n1).p8 - lsB (wJ h n1) (wI n2) 4), AV.i ((wJ h n1).p9 - lsB (wJ h n1) (wI n2) 4)] (AV.agg [AV.i ((wJ h n1).p8 - lsB (wJ h n1) (wI n2) 4), AV.i ((wJ h
      n1).p9 - lsB (wJ h n1) (wI n2) 4)]) ∧ AS.mk [(2, hmA h), (3, n3A n0 n1 n2), (5, ivA2 h), (9, AV.elt 3 [[AV.str h.nm, AV.i h.pe, AV.sl 25 (List.map encWn (exS h.ws n0 h.ws.length))]] 0 0), (10, AV.ptr 1
      0), (16, AV.i (iY h n1)), (150, AV.agg (encPw (wJ h n1))), (151, AV.i (4:Int))] [(1, bo h 2), (2, ABlk.buf 177 25 (putRow (List.map encWn (h.ws.set (jX h n1) (lsK (h.ws.getD (jX h n1) default) n2
      4))) (jY h n1) 17 [AV.i ((wJ h n1).p8 - lsB (wJ h n1) (wI n2) 4), AV.i ((wJ h n1).p9 - lsB (wJ h n1) (wI n2) 4)]))] 3 = AS.mk [(2, hmA h), (3, n3A n0 n1 n2), (5, ivA2 h), (9, AV.elt 3 [[AV.str h.nm,
      AV.i h.pe, AV.sl 25 (List.map encWn (exS h.ws n0 h.ws.length))]] 0 0), (10, AV.ptr 1 0), (16, AV.i (iY h n1)), (150, AV.agg (encPw (wJ h n1))), (151, AV.i (4:Int))] [(1, bo h 2), (2, ABlk.buf 177 25
      (List.map encWn (h.ws.set (jX h n1) (lsK (h.ws.getD (jX h n1) default) n2 5))))] 3) ∧ In64 (5:Int) ∧ (0:Int) <= (5:Int) ∧ (5:Int) < (8:Int) ∧ (0:Int) <= (2:Int) ∧ (2:Int) < (3:Int) ∧
      In64 ((wJ h n1).p10 + (1:Int)) ∧ ¬(wJ h n1).p10 + (1:Int) = (0:Int) ∧ (In64 ((wJ h n1).p10 - lsB (wJ h n1) (wI n2) 5) ∧ In64 ((wJ h n1).p11 - lsB (wJ h n1) (wI n2) 5) ∧ (0:Int) <= iY h n1 ∧ iY h
      n1 < (↑(List.map encWn h.ws).length : Int) ∧ (0:Int) <= (5:Int) ∧ (5:Int) < (8:Int) ∧ (jY h n1) < (List.map encWn (h.ws.set (jX h n1) (lsK (h.ws.getD (jX h n1) default) n2 5))).length ∧ PCall
      Tryz.prog G0 94 [AV.i ((wJ h n1).p10 - lsB (wJ h n1) (wI n2) 5), AV.i ((wJ h n1).p11 - lsB (wJ h n1) (wI n2) 5)] (AV.agg [AV.i ((wJ h n1).p10 - lsB (wJ h n1) (wI n2) 5), AV.i ((wJ h n1).p11 - lsB (wJ h
      n1) (wI n2) 5)]) ∧ AS.mk [(2, hmA h), (3, n3A n0 n1 n2), (5, ivA2 h), (9, AV.elt 3 [[AV.str h.nm, AV.i h.pe, AV.sl 25 (List.map encWn (exS h.ws n0 h.ws.length))]] 0 0), (10, AV.ptr 1 0), (16, AV.i (iY
      h n1)), (150, AV.agg (encPw (wJ h n1))), (151, AV.i (5:Int))] [(1, bo h 2), (2, ABlk.buf 177 25 (putRow (List.map encWn (h.ws.set (jX h n1) (lsK (h.ws.getD (jX h n1) default) n2 5))) (jY h n1) 19
      [AV.i ((wJ h n1).p10 - lsB (wJ h n1) (wI n2) 5), AV.i ((wJ h n1).p11 - lsB (wJ h n1) (wI n2) 5)]))] 3 = AS.mk [(2, hmA h), (3, n3A n0 n1 n2), (5, ivA2 h), (9, AV.elt 3 [[AV.str h.nm, AV.i h.pe, AV.sl
      25 (List.map encWn (exS h.ws n0 h.ws.length))]] 0 0), (10, AV.ptr 1 0), (16, AV.i (iY h n1)), (150, AV.agg (encPw (wJ h n1))), (151, AV.i (5:Int))] [(1, bo h 2), (2, ABlk.buf 177 25 (List.map encWn
      (h.ws.set (jX h n1) (lsK (h.ws.getD (jX h n1) default) n2 6))))] 3) ∧ In64 (6:Int) ∧ (0:Int) <= (6:Int) ∧ (6:Int) < (8:Int) ∧ (0:Int) <= (2:Int) ∧ (2:Int) < (3:Int) ∧ In64 ((wJ h
      n1).p12 + (1:Int)) ∧ ¬(wJ h n1).p12 + (1:Int) = (0:Int) ∧ (In64 ((wJ h n1).p12 - lsB (wJ h n1) (wI n2) 6) ∧ In64 ((wJ h n1).p13 - lsB (wJ h n1) (wI n2) 6) ∧ (0:Int) <= iY h n1 ∧ iY h n1 <
      (↑(List.map encWn h.ws).length : Int) ∧ (0:Int) <= (6:Int) ∧ (6:Int) < (8:Int) ∧ (jY h n1) < (List.map encWn (h.ws.set (jX h n1) (lsK (h.ws.getD (jX h n1) default) n2 6))).length ∧ PCall
      Tryz.prog G0 94 [AV.i ((wJ h n1).p12 - lsB (wJ h n1) (wI n2) 6), AV.i ((wJ h n1).p13 - lsB (wJ h n1) (wI n2) 6)] (AV.agg [AV.i ((wJ h n1).p12 - lsB (wJ h n1) (wI n2) 6), AV.i ((wJ h n1).p13 - lsB (wJ h
      n1) (wI n2) 6)]) ∧ AS.mk [(2, hmA h), (3, n3A n0 n1 n2), (5, ivA2 h), (9, AV.elt 3 [[AV.str h.nm, AV.i h.pe, AV.sl 25 (List.map encWn (exS h.ws n0 h.ws.length))]] 0 0), (10, AV.ptr 1 0), (16, AV.i (iY
      h n1)), (150, AV.agg (encPw (wJ h n1))), (151, AV.i (6:Int))] [(1, bo h 2), (2, ABlk.buf 177 25 (putRow (List.map encWn (h.ws.set (jX h n1) (lsK (h.ws.getD (jX h n1) default) n2 6))) (jY h n1) 21
      [AV.i ((wJ h n1).p12 - lsB (wJ h n1) (wI n2) 6), AV.i ((wJ h n1).p13 - lsB (wJ h n1) (wI n2) 6)]))] 3 = AS.mk [(2, hmA h), (3, n3A n0 n1 n2), (5, ivA2 h), (9, AV.elt 3 [[AV.str h.nm, AV.i h.pe, AV.sl
      25 (List.map encWn (exS h.ws n0 h.ws.length))]] 0 0), (10, AV.ptr 1 0), (16, AV.i (iY h n1)), (150, AV.agg (encPw (wJ h n1))), (151, AV.i (6:Int))] [(1, bo h 2), (2, ABlk.buf 177 25 (List.map encWn
      (h.ws.set (jX h n1) (lsK (h.ws.getD (jX h n1) default) n2 7))))] 3) ∧ In64 (7:Int) ∧ (0:Int) <= (7:Int) ∧ (7:Int) < (8:Int) ∧ (0:Int) <= (2:Int) ∧ (2:Int) < (3:Int) ∧ In64 ((wJ h
      n1).p14 + (1:Int)) ∧ ¬(wJ h n1).p14 + (1:Int) = (0:Int) ∧ (In64 ((wJ h n1).p14 - lsB (wJ h n1) (wI n2) 7) ∧ In64 ((wJ h n1).p15 - lsB (wJ h n1) (wI n2) 7) ∧ (0:Int) <= iY h n1 ∧ iY h n1 <
      (↑(List.map encWn h.ws).length : Int) ∧ (0:Int) <= (7:Int) ∧ (7:Int) < (8:Int) ∧ (jY h n1) < (List.map encWn (h.ws.set (jX h n1) (lsK (h.ws.getD (jX h n1) default) n2 7))).length ∧ PCall
      Tryz.prog G0 94 [AV.i ((wJ h n1).p14 - lsB (wJ h n1) (wI n2) 7), AV.i ((wJ h n1).p15 - lsB (wJ h n1) (wI n2) 7)] (AV.agg [AV.i ((wJ h n1).p14 - lsB (wJ h n1) (wI n2) 7), AV.i ((wJ h n1).p15 - lsB (wJ h
      n1) (wI n2) 7)]) ∧ AS.mk [(2, hmA h), (3, n3A n0 n1 n2), (5, ivA2 h), (9, AV.elt 3 [[AV.str h.nm, AV.i h.pe, AV.sl 25 (List.map encWn (exS h.ws n0 h.ws.length))]] 0 0), (10, AV.ptr 1 0), (16, AV.i (iY
      h n1)), (150, AV.agg (encPw (wJ h n1))), (151, AV.i (7:Int))] [(1, bo h 2), (2, ABlk.buf 177 25 (putRow (List.map encWn (h.ws.set (jX h n1) (lsK (h.ws.getD (jX h n1) default) n2 7))) (jY h n1) 23
      [AV.i ((wJ h n1).p14 - lsB (wJ h n1) (wI n2) 7), AV.i ((wJ h n1).p15 - lsB (wJ h n1) (wI n2) 7)]))] 3 = AS.mk [(2, hmA h), (3, n3A n0 n1 n2), (5, ivA2 h), (9, AV.elt 3 [[AV.str h.nm, AV.i h.pe, AV.sl
      25 (List.map encWn (exS h.ws n0 h.ws.length))]] 0 0), (10, AV.ptr 1 0), (16, AV.i (iY h n1)), (150, AV.agg (encPw (wJ h n1))), (151, AV.i (7:Int))] [(1, bo h 2), (2, ABlk.buf 177 25 (List.map encWn
      (h.ws.set (jX h n1) (lsK (h.ws.getD (jX h n1) default) n2 8))))] 3) ∧ In64 (8:Int) ∧ ((0:Int) <= (0:Int) ∧ (0:Int) < (3:Int) ∧ (0:Int) <= iY h n1 ∧ iY h n1 < (↑(List.map encWn h.ws).length :
      Int) ∧ (jY h n1) < (List.map encWn (h.ws.set (jX h n1) (lsK (h.ws.getD (jX h n1) default) n2 8))).length ∧ ¬(wJ h n1).ar = (0:Int) ∧ In64 ((1:Int) + (wI n0).tmod (wJ h n1).ar) ∧ (0:Int) <= iY h n1
      ∧ iY h n1 < (↑(List.map encWn h.ws).length : Int) ∧ (jY h n1) < (List.map encWn (h.ws.set (jX h n1) (lsK (h.ws.getD (jX h n1) default) n2 8))).length ∧ nth (nthR (List.map encWn (h.ws.set (jX h n1)
      (lsK (h.ws.getD (jX h n1) default) n2 8))) (jY h n1)) 8 = AV.i (wJ h n1).ar ∧ AS.mk [(2, hmA h), (3, n3A n0 n1 n2), (5, ivA2 h), (9, AV.elt 3 [[AV.str h.nm, AV.i h.pe, AV.sl 25 (List.map encWn (exS
      h.ws n0 h.ws.length))]] 0 0), (10, AV.elt 3 [[AV.str h.nm, AV.i h.pe, AV.sl 25 (putRow (List.map encWn (h.ws.set (jX h n1) (lsK (h.ws.getD (jX h n1) default) n2 8))) (jY h n1) 8 [AV.i ((1:Int) + (wI
      n0).tmod (wJ h n1).ar)])]] 0 0)] [] 1 = AS.mk [(2, hmA h), (3, n3A n0 n1 n2), (5, ivA2 h), (9, AV.elt 3 [[AV.str h.nm, AV.i h.pe, AV.sl 25 (List.map encWn (exS h.ws n0 h.ws.length))]] 0 0), (10, AV.elt
      3 [[AV.str h.nm, AV.i h.pe, AV.sl 25 (List.map encWn (h.ws.set (jX h n1) (lsW (h.ws.getD (jX h n1) default) n0 n2)))]] 0 0)] [] 1 ∧ K13 h) ∧ (T_c13_4 h n0 n1 n2)
theorem t_c13_3 (h : Hm) (n0 n1 n2 : Int) (hA : PCall Tryz.prog G0 16 [] (.bool true)) (hn0 : 0 <= n0 ∧ n0 <= 65535) (hn1 : 0 <= n1 ∧ n1 <= 65535) (hn2 : 0 <= n2 ∧ n2 <= 65535) : T_c13_3 h n0 n1 n2 := by
 unfold T_c13_3
 have : (List.map encWn h.ws).length = h.ws.length := by simp only [List.length_map]
 refine fun h1 => ?_
 · have hK := h1
   have k1 := h1.ko
   have k2 := h1.kz
   obtain ⟨z1, z2, z3, z4, z5, z6⟩ := hm_z k2
   have zb := in_bd k2
   have w0 := wI_e hn0
   have w1 := wI_e hn1
   have w2 := wI_e hn2
   obtain ⟨y2, y1, yl⟩ := iY_e k2 hn1
   have wz := z6 _ yl
   have yw : wJ h n1 = h.ws.getD (jX h n1) default := by unfold wJ; rw [y1]
   try rw [yw]
   try rw [y2]
   try rw [y1]
   try rw [w0]
   try rw [w2]
   refine ⟨(by omega), (by omega), (by omega), (by omega), (by omega), (by rw [List.length_map]; exact yl), (by rw [row_at encWn yl]; rfl), (by omega), (by omega), (by omega), (by omega), ?_, ?_, ⟨(in_l wz hn2.1 (b := 0) (by omega)).1, (in_l wz hn2.1 (b := 0) (by omega)).2, (by omega), (by omega), (by omega), (by omega), (by rw [List.length_map]; exact yl), (c94 _ _), (as2 (ls_p0 yl))⟩, (by unfold In64; omega), (by omega), (by omega), (by omega), (by omega), ?_, ?_, ⟨(in_l wz hn2.1 (b := 1) (by omega)).1, (in_l wz hn2.1 (b := 1) (by omega)).2, (by omega), (by omega), (by omega), (by omega), (set_l yl), (c94 _ _), (as2 (ls_p1 yl))⟩, (by unfold In64; omega), (by omega), (by omega), (by omega), (by omega), ?_, ?_, ⟨(in_l wz hn2.1 (b := 2) (by omega)).1, (in_l wz hn2.1 (b := 2) (by omega)).2, (by omega), (by omega), (by omega), (by omega), (set_l yl), (c94 _ _), (as2 (ls_p2 yl))⟩, (by unfold In64; omega), (by omega), (by omega), (by omega), (by omega), ?_, ?_, ⟨(in_l wz hn2.1 (b := 3) (by omega)).1, (in_l wz hn2.1 (b := 3) (by omega)).2, (by omega), (by omega), (by omega), (by omega), (set_l yl), (c94 _ _), (as2 (ls_p3 yl))⟩, (by unfold In64; omega), (by omega), (by omega), (by omega), (by omega), ?_, ?_, ⟨(in_l wz hn2.1 (b := 4) (by omega)).1, (in_l wz hn2.1 (b := 4) (by omega)).2, (by omega), (by omega), (by omega), (by omega), (set_l yl), (c94 _ _), (as2 (ls_p4 yl))⟩, (by unfold In64; omega), (by omega), (by omega), (by omega), (by omega), ?_, ?_, ⟨(in_l wz hn2.1 (b := 5) (by omega)).1, (in_l wz hn2.1 (b := 5) (by omega)).2, (by omega), (by omega), (by omega), (by omega), (set_l yl), (c94 _ _), (as2 (ls_p5 yl))⟩, (by unfold In64; omega), (by omega), (by omega), (by omega), (by omega), ?_, ?_, ⟨(in_l wz hn2.1 (b := 6) (by omega)).1, (in_l wz hn2.1 (b := 6) (by omega)).2, (by omega), (by omega), (by omega), (by omega), (set_l yl), (c94 _ _), (as2 (ls_p6 yl))⟩, (by unfold In64; omega), (by omega), (by omega), (by omega), (by omega), ?_, ?_, ⟨(in_l wz hn2.1 (b := 7) (by omega)).1, (in_l wz hn2.1 (b := 7) (by omega)).2, (by omega), (by omega), (by omega), (by omega), (set_l yl), (c94 _ _), (as2 (ls_p7 yl))⟩, (by unfold In64; omega), ⟨(by omega), (by omega), (by omega), (by omega), (set_l yl), (ar_n wz hn0.1).1, (ar_n wz hn0.1).2, (by omega), (by omega), (set_l yl), (ls_8 yl), (congrArg (fun b => AS.mk [_, _, _, _, (10, AV.elt 3 [[_, _, AV.sl 25 b]] 0 0)] [] 1) (ls_ar yl)), hK⟩, t_c13_4 h n0 n1 n2 hA hn0 hn1 hn2⟩
   · have := wn8 wz
     unfold In64
     omega
   · have := wn8 wz
     omega
   · have := wn8 wz
     unfold In64
     omega
   · have := wn8 wz
     omega
   · have := wn8 wz
     unfold In64
     omega
   · have := wn8 wz
     omega
   · have := wn8 wz
     unfold In64
     omega
   · have := wn8 wz
     omega
   · have := wn8 wz
     unfold In64
     omega
   · have := wn8 wz
     omega
   · have := wn8 wz
     unfold In64
     omega
   · have := wn8 wz
     omega
   · have := wn8 wz
     unfold In64
     omega
   · have := wn8 wz
     omega
   · have := wn8 wz
     unfold In64
     omega
   · have := wn8 wz
     omega
def T_c13_2 (h : Hm) (n0 n1 n2 : Int) : Prop :=
      K13 h -> ((∃ (g:Nat), g <= h.ws.length ∧ AS.mk [(2, hmA h), (3, n3A n0 n1 n2), (5, ivA2 h), (9, AV.ptr 1 0), (10, AV.ptr 3 0), (94, AV.i (↑(List.map encWn h.ws).length : Int)), (95, AV.i 0)] [(1, bo h
      2), (2, ABlk.buf 177 25 (List.map encWn h.ws)), (3, bo h 4), (4, ABlk.buf 177 25 (List.map encWn h.ws))] 5 = AS.mk [(2, hmA h), (3, n3A n0 n1 n2), (5, ivA2 h), (9, AV.ptr 1 0), (10, AV.ptr 3 0), (94,
      AV.i (↑(List.map encWn h.ws).length : Int)), (95, AV.i (g:Int))] [(1, bo h 2), (2, ABlk.buf 177 25 (List.map encWn (exS h.ws n0 g))), (3, bo h 4), (4, ABlk.buf 177 25 (List.map encWn h.ws))] 5) ∧ ∀
      (g:Nat), g <= h.ws.length -> (decide ((g:Int) < (↑(List.map encWn h.ws).length : Int)) = true -> (0:Int) <= (g:Int) ∧ (g:Int) < (↑(List.map encWn h.ws).length : Int) ∧ g < (List.map encWn (exS
      h.ws n0 g)).length ∧ AV.agg (List.take 16 (List.drop 9 (nthR (List.map encWn (exS h.ws n0 g)) g))) = AV.agg (encPw (h.ws.getD g default)) ∧ (0:Int) <= (0:Int) ∧ (0:Int) < (8:Int) ∧ (0:Int) ≤
      (0:Int) ∧ (0:Int) < (3:Int) ∧ In64 ((3:Int) * (0:Int)) ∧ In64 (wI n0 + (3:Int) * (0:Int)) ∧ In64 (wI n0 + (3:Int) * (0:Int) + (g:Int)) ∧ In64 ((h.ws.getD g default).p1 -
      (h.ws.getD g default).p0) ∧ In64 ((h.ws.getD g default).p1 - (h.ws.getD g default).p0 + (1:Int)) ∧ ¬(h.ws.getD g default).p1 - (h.ws.getD g default).p0 + (1:Int) = (0:Int) ∧ In64 (exX (h.ws.getD
      g default) (wI n0) g 0) ∧ ((0:Int) <= (0:Int) ∧ (0:Int) < (8:Int) ∧ g < (List.map encWn (exS h.ws n0 g)).length ∧ PCall Tryz.prog G0 94 [AV.i (exX (h.ws.getD g default) (wI n0) g 0), AV.i (exX
      (h.ws.getD g default) (wI n0) g 0)] (AV.agg [AV.i (exX (h.ws.getD g default) (wI n0) g 0), AV.i (exX (h.ws.getD g default) (wI n0) g 0)]) ∧ AS.mk [(2, hmA h), (3, n3A n0 n1 n2), (5, ivA2 h), (9, AV.ptr
      1 0), (10, AV.ptr 3 0), (94, AV.i (↑(List.map encWn h.ws).length : Int)), (95, AV.i (g:Int)), (11, AV.i (g:Int)), (12, AV.optr 2 g 0), (105, AV.agg (encPw (h.ws.getD g default))), (106, AV.i 0)]
      [(1, bo h 2), (2, ABlk.buf 177 25 (putRow (List.map encWn (exS h.ws n0 g)) g 9 [AV.i (exX (h.ws.getD g default) (wI n0) g 0), AV.i (exX (h.ws.getD g default) (wI n0) g 0)])), (3, bo h 4), (4, ABlk.buf
      177 25 (List.map encWn h.ws))] 5 = AS.mk [(2, hmA h), (3, n3A n0 n1 n2), (5, ivA2 h), (9, AV.ptr 1 0), (10, AV.ptr 3 0), (94, AV.i (↑(List.map encWn h.ws).length : Int)), (95, AV.i (g:Int)), (11,
      AV.i (g:Int)), (12, AV.optr 2 g 0), (105, AV.agg (encPw (h.ws.getD g default))), (106, AV.i 0)] [(1, bo h 2), (2, ABlk.buf 177 25 (List.map encWn ((exS h.ws n0 g).set g (exK (h.ws.getD g default) n0
      g 1)))), (3, bo h 4), (4, ABlk.buf 177 25 (List.map encWn h.ws))] 5) ∧ In64 (1:Int) ∧ (0:Int) <= (1:Int) ∧ (1:Int) < (8:Int) ∧ (0:Int) <= (0:Int) ∧ (0:Int) < (3:Int) ∧ In64 ((3:Int)
      * (1:Int)) ∧ In64 (wI n0 + (3:Int) * (1:Int)) ∧ In64 (wI n0 + (3:Int) * (1:Int) + (g:Int)) ∧ In64 ((h.ws.getD g default).p3 - (h.ws.getD g default).p2) ∧ In64 ((h.ws.getD g default).p3 -
      (h.ws.getD g default).p2 + (1:Int)) ∧ ¬(h.ws.getD g default).p3 - (h.ws.getD g default).p2 + (1:Int) = (0:Int) ∧ In64 (exX (h.ws.getD g default) (wI n0) g 1) ∧ ((0:Int) <= (1:Int) ∧ (1:Int)
      < (8:Int) ∧ g < (List.map encWn ((exS h.ws n0 g).set g (exK (h.ws.getD g default) n0 g 1))).length ∧ PCall Tryz.prog G0 94 [AV.i (exX (h.ws.getD g default) (wI n0) g 1), AV.i (exX (h.ws.getD g
      default) (wI n0) g 1)] (AV.agg [AV.i (exX (h.ws.getD g default) (wI n0) g 1), AV.i (exX (h.ws.getD g default) (wI n0) g 1)]) ∧ AS.mk [(2, hmA h), (3, n3A n0 n1 n2), (5, ivA2 h), (9, AV.ptr 1 0), (10,
      AV.ptr 3 0), (94, AV.i (↑(List.map encWn h.ws).length : Int)), (95, AV.i (g:Int)), (11, AV.i (g:Int)), (12, AV.optr 2 g 0), (105, AV.agg (encPw (h.ws.getD g default))), (106, AV.i (1:Int))]
      [(1, bo h 2), (2, ABlk.buf 177 25 (putRow (List.map encWn ((exS h.ws n0 g).set g (exK (h.ws.getD g default) n0 g 1))) g 11 [AV.i (exX (h.ws.getD g default) (wI n0) g 1), AV.i (exX (h.ws.getD g default)
      (wI n0) g 1)])), (3, bo h 4), (4, ABlk.buf 177 25 (List.map encWn h.ws))] 5 = AS.mk [(2, hmA h), (3, n3A n0 n1 n2), (5, ivA2 h), (9, AV.ptr 1 0), (10, AV.ptr 3 0), (94, AV.i (↑(List.map encWn
      h.ws).length : Int)), (95, AV.i (g:Int)), (11, AV.i (g:Int)), (12, AV.optr 2 g 0), (105, AV.agg (encPw (h.ws.getD g default))), (106, AV.i (1:Int))] [(1, bo h 2), (2, ABlk.buf 177 25 (List.map
      encWn ((exS h.ws n0 g).set g (exK (h.ws.getD g default) n0 g 2)))), (3, bo h 4), (4, ABlk.buf 177 25 (List.map encWn h.ws))] 5) ∧ In64 (2:Int) ∧ (0:Int) <= (2:Int) ∧ (2:Int) < (8:Int) ∧ (0 :
      Int) <= (0:Int) ∧ (0:Int) < (3:Int) ∧ In64 ((3:Int) * (2:Int)) ∧ In64 (wI n0 + (3:Int) * (2:Int)) ∧ In64 (wI n0 + (3:Int) * (2:Int) + (g:Int)) ∧ In64 ((h.ws.getD g default).p5 -
      (h.ws.getD g default).p4) ∧ In64 ((h.ws.getD g default).p5 - (h.ws.getD g default).p4 + (1:Int)) ∧ ¬(h.ws.getD g default).p5 - (h.ws.getD g default).p4 + (1:Int) = (0:Int) ∧ In64 (exX (h.ws.getD
      g default) (wI n0) g 2) ∧ ((0:Int) <= (2:Int) ∧ (2:Int) < (8:Int) ∧ g < (List.map encWn ((exS h.ws n0 g).set g (exK (h.ws.getD g default) n0 g 2))).length ∧ PCall Tryz.prog G0 94 [AV.i (exX
      (h.ws.getD g default) (wI n0) g 2), AV.i (exX (h.ws.getD g default) (wI n0) g 2)] (AV.agg [AV.i (exX (h.ws.getD g default) (wI n0) g 2), AV.i (exX (h.ws.getD g default) (wI n0) g 2)]) ∧ AS.mk [(2, hmA
      h), (3, n3A n0 n1 n2), (5, ivA2 h), (9, AV.ptr 1 0), (10, AV.ptr 3 0), (94, AV.i (↑(List.map encWn h.ws).length : Int)), (95, AV.i (g:Int)), (11, AV.i (g:Int)), (12, AV.optr 2 g 0), (105, AV.agg
      (encPw (h.ws.getD g default))), (106, AV.i (2:Int))] [(1, bo h 2), (2, ABlk.buf 177 25 (putRow (List.map encWn ((exS h.ws n0 g).set g (exK (h.ws.getD g default) n0 g 2))) g 13 [AV.i (exX (h.ws.getD g
      default) (wI n0) g 2), AV.i (exX (h.ws.getD g default) (wI n0) g 2)])), (3, bo h 4), (4, ABlk.buf 177 25 (List.map encWn h.ws))] 5 = AS.mk [(2, hmA h), (3, n3A n0 n1 n2), (5, ivA2 h), (9, AV.ptr 1 0),
      (10, AV.ptr 3 0), (94, AV.i (↑(List.map encWn h.ws).length : Int)), (95, AV.i (g:Int)), (11, AV.i (g:Int)), (12, AV.optr 2 g 0), (105, AV.agg (encPw (h.ws.getD g default))), (106, AV.i (2 :
      Int))] [(1, bo h 2), (2, ABlk.buf 177 25 (List.map encWn ((exS h.ws n0 g).set g (exK (h.ws.getD g default) n0 g 3)))), (3, bo h 4), (4, ABlk.buf 177 25 (List.map encWn h.ws))] 5) ∧ In64 (3:Int) ∧ (0
      : Int) <= (3:Int) ∧ (3:Int) < (8:Int) ∧ (0:Int) <= (0:Int) ∧ (0:Int) < (3:Int) ∧ In64 ((3:Int) * (3:Int)) ∧ In64 (wI n0 + (3:Int) * (3:Int)) ∧ In64 (wI n0 + (3:Int) * (3:Int)
      + (g:Int)) ∧ In64 ((h.ws.getD g default).p7 - (h.ws.getD g default).p6) ∧ In64 ((h.ws.getD g default).p7 - (h.ws.getD g default).p6 + (1:Int)) ∧ ¬(h.ws.getD g default).p7 - (h.ws.getD g
      default).p6 + (1:Int) = (0:Int) ∧ In64 (exX (h.ws.getD g default) (wI n0) g 3) ∧ ((0:Int) <= (3:Int) ∧ (3:Int) < (8:Int) ∧ g < (List.map encWn ((exS h.ws n0 g).set g (exK (h.ws.getD g
      default) n0 g 3))).length ∧ PCall Tryz.prog G0 94 [AV.i (exX (h.ws.getD g default) (wI n0) g 3), AV.i (exX (h.ws.getD g default) (wI n0) g 3)] (AV.agg [AV.i (exX (h.ws.getD g default) (wI n0) g 3),
      AV.i (exX (h.ws.getD g default) (wI n0) g 3)]) ∧ AS.mk [(2, hmA h), (3, n3A n0 n1 n2), (5, ivA2 h), (9, AV.ptr 1 0), (10, AV.ptr 3 0), (94, AV.i (↑(List.map encWn h.ws).length : Int)), (95, AV.i (↑g :
      Int)), (11, AV.i (g:Int)), (12, AV.optr 2 g 0), (105, AV.agg (encPw (h.ws.getD g default))), (106, AV.i (3:Int))] [(1, bo h 2), (2, ABlk.buf 177 25 (putRow (List.map encWn ((exS h.ws n0 g).set g
      (exK (h.ws.getD g default) n0 g 3))) g 15 [AV.i (exX (h.ws.getD g default) (wI n0) g 3), AV.i (exX (h.ws.getD g default) (wI n0) g 3)])), (3, bo h 4), (4, ABlk.buf 177 25 (List.map encWn h.ws))] 5 =
      AS.mk [(2, hmA h), (3, n3A n0 n1 n2), (5, ivA2 h), (9, AV.ptr 1 0), (10, AV.ptr 3 0), (94, AV.i (↑(List.map encWn h.ws).length : Int)), (95, AV.i (g:Int)), (11, AV.i (g:Int)), (12, AV.optr 2 g
      0), (105, AV.agg (encPw (h.ws.getD g default))), (106, AV.i (3:Int))] [(1, bo h 2), (2, ABlk.buf 177 25 (List.map encWn ((exS h.ws n0 g).set g (exK (h.ws.getD g default) n0 g 4)))), (3, bo h 4), (4,
      ABlk.buf 177 25 (List.map encWn h.ws))] 5) ∧ In64 (4:Int) ∧ (0:Int) <= (4:Int) ∧ (4:Int) < (8:Int) ∧ (0:Int) <= (0:Int) ∧ (0:Int) < (3:Int) ∧ In64 ((3:Int) * (4:Int)) ∧ In64 (wI
      n0 + (3:Int) * (4:Int)) ∧ In64 (wI n0 + (3:Int) * (4:Int) + (g:Int)) ∧ In64 ((h.ws.getD g default).p9 - (h.ws.getD g default).p8) ∧ In64 ((h.ws.getD g default).p9 - (h.ws.getD g default).p8
      + (1:Int)) ∧ ¬(h.ws.getD g default).p9 - (h.ws.getD g default).p8 + (1:Int) = (0:Int) ∧ In64 (exX (h.ws.getD g default) (wI n0) g 4) ∧ ((0:Int) <= (4:Int) ∧ (4:Int) < (8:Int) ∧ g <
      (List.map encWn ((exS h.ws n0 g).set g (exK (h.ws.getD g default) n0 g 4))).length ∧ PCall Tryz.prog G0 94 [AV.i (exX (h.ws.getD g default) (wI n0) g 4), AV.i (exX (h.ws.getD g default) (wI n0) g 4)]
      (AV.agg [AV.i (exX (h.ws.getD g default) (wI n0) g 4), AV.i (exX (h.ws.getD g default) (wI n0) g 4)]) ∧ AS.mk [(2, hmA h), (3, n3A n0 n1 n2), (5, ivA2 h), (9, AV.ptr 1 0), (10, AV.ptr 3 0), (94, AV.i
      (↑(List.map encWn h.ws).length : Int)), (95, AV.i (g:Int)), (11, AV.i (g:Int)), (12, AV.optr 2 g 0), (105, AV.agg (encPw (h.ws.getD g default))), (106, AV.i (4:Int))] [(1, bo h 2), (2, ABlk.buf
      177 25 (putRow (List.map encWn ((exS h.ws n0 g).set g (exK (h.ws.getD g default) n0 g 4))) g 17 [AV.i (exX (h.ws.getD g default) (wI n0) g 4), AV.i (exX (h.ws.getD g default) (wI n0) g 4)])), (3, bo h
      4), (4, ABlk.buf 177 25 (List.map encWn h.ws))] 5 = AS.mk [(2, hmA h), (3, n3A n0 n1 n2), (5, ivA2 h), (9, AV.ptr 1 0), (10, AV.ptr 3 0), (94, AV.i (↑(List.map encWn h.ws).length : Int)), (95, AV.i (↑g
      : Int)), (11, AV.i (g:Int)), (12, AV.optr 2 g 0), (105, AV.agg (encPw (h.ws.getD g default))), (106, AV.i (4:Int))] [(1, bo h 2), (2, ABlk.buf 177 25 (List.map encWn ((exS h.ws n0 g).set g (exK
      (h.ws.getD g default) n0 g 5)))), (3, bo h 4), (4, ABlk.buf 177 25 (List.map encWn h.ws))] 5) ∧ In64 (5:Int) ∧ (0:Int) <= (5:Int) ∧ (5:Int) < (8:Int) ∧ (0:Int) <= (0:Int) ∧ (0:Int) < (↑3
      : Int) ∧ In64 ((3:Int) * (5:Int)) ∧ In64 (wI n0 + (3:Int) * (5:Int)) ∧ In64 (wI n0 + (3:Int) * (5:Int) + (g:Int)) ∧ In64 ((h.ws.getD g default).p11 - (h.ws.getD g default).p10) ∧ In64
      ((h.ws.getD g default).p11 - (h.ws.getD g default).p10 + (1:Int)) ∧ ¬(h.ws.getD g default).p11 - (h.ws.getD g default).p10 + (1:Int) = (0:Int) ∧ In64 (exX (h.ws.getD g default) (wI n0) g 5) ∧ ((0
      : Int) <= (5:Int) ∧ (5:Int) < (8:Int) ∧ g < (List.map encWn ((exS h.ws n0 g).set g (exK (h.ws.getD g default) n0 g 5))).length ∧ PCall Tryz.prog G0 94 [AV.i (exX (h.ws.getD g default) (wI n0) g
      5), AV.i (exX (h.ws.getD g default) (wI n0) g 5)] (AV.agg [AV.i (exX (h.ws.getD g default) (wI n0) g 5), AV.i (exX (h.ws.getD g default) (wI n0) g 5)]) ∧ AS.mk [(2, hmA h), (3, n3A n0 n1 n2), (5, ivA2
      h), (9, AV.ptr 1 0), (10, AV.ptr 3 0), (94, AV.i (↑(List.map encWn h.ws).length : Int)), (95, AV.i (g:Int)), (11, AV.i (g:Int)), (12, AV.optr 2 g 0), (105, AV.agg (encPw (h.ws.getD g default))),
      (106, AV.i (5:Int))] [(1, bo h 2), (2, ABlk.buf 177 25 (putRow (List.map encWn ((exS h.ws n0 g).set g (exK (h.ws.getD g default) n0 g 5))) g 19 [AV.i (exX (h.ws.getD g default) (wI n0) g 5), AV.i
      (exX (h.ws.getD g default) (wI n0) g 5)])), (3, bo h 4), (4, ABlk.buf 177 25 (List.map encWn h.ws))] 5 = AS.mk [(2, hmA h), (3, n3A n0 n1 n2), (5, ivA2 h), (9, AV.ptr 1 0), (10, AV.ptr 3 0), (94, AV.i
      (↑(List.map encWn h.ws).length : Int)), (95, AV.i (g:Int)), (11, AV.i (g:Int)), (12, AV.optr 2 g 0), (105, AV.agg (encPw (h.ws.getD g default))), (106, AV.i (5:Int))] [(1, bo h 2), (2, ABlk.buf
      177 25 (List.map encWn ((exS h.ws n0 g).set g (exK (h.ws.getD g default) n0 g 6)))), (3, bo h 4), (4, ABlk.buf 177 25 (List.map encWn h.ws))] 5) ∧ In64 (6:Int) ∧ (0:Int) <= (6:Int) ∧ (6:Int) <
      (8:Int) ∧ (0:Int) <= (0:Int) ∧ (0:Int) < (3:Int) ∧ In64 ((3:Int) * (6:Int)) ∧ In64 (wI n0 + (3:Int) * (6:Int)) ∧ In64 (wI n0 + (3:Int) * (6:Int) + (g:Int)) ∧ In64 ((h.ws.getD
      g default).p13 - (h.ws.getD g default).p12) ∧ In64 ((h.ws.getD g default).p13 - (h.ws.getD g default).p12 + (1:Int)) ∧ ¬(h.ws.getD g default).p13 - (h.ws.getD g default).p12 + (1:Int) = (0:Int) ∧
      In64 (exX (h.ws.getD g default) (wI n0) g 6) ∧ ((0:Int) <= (6:Int) ∧ (6:Int) < (8:Int) ∧ g < (List.map encWn ((exS h.ws n0 g).set g (exK (h.ws.getD g default) n0 g 6))).length ∧ PCall Tryz.prog
      G0 94 [AV.i (exX (h.ws.getD g default) (wI n0) g 6), AV.i (exX (h.ws.getD g default) (wI n0) g 6)] (AV.agg [AV.i (exX (h.ws.getD g default) (wI n0) g 6), AV.i (exX (h.ws.getD g default) (wI n0) g 6)])
      ∧ AS.mk [(2, hmA h), (3, n3A n0 n1 n2), (5, ivA2 h), (9, AV.ptr 1 0), (10, AV.ptr 3 0), (94, AV.i (↑(List.map encWn h.ws).length : Int)), (95, AV.i (g:Int)), (11, AV.i (g:Int)), (12, AV.optr 2 g
      0), (105, AV.agg (encPw (h.ws.getD g default))), (106, AV.i (6:Int))] [(1, bo h 2), (2, ABlk.buf 177 25 (putRow (List.map encWn ((exS h.ws n0 g).set g (exK (h.ws.getD g default) n0 g 6))) g 21 [AV.i
      (exX (h.ws.getD g default) (wI n0) g 6), AV.i (exX (h.ws.getD g default) (wI n0) g 6)])), (3, bo h 4), (4, ABlk.buf 177 25 (List.map encWn h.ws))] 5 = AS.mk [(2, hmA h), (3, n3A n0 n1 n2), (5, ivA2 h),
      (9, AV.ptr 1 0), (10, AV.ptr 3 0), (94, AV.i (↑(List.map encWn h.ws).length : Int)), (95, AV.i (g:Int)), (11, AV.i (g:Int)), (12, AV.optr 2 g 0), (105, AV.agg (encPw (h.ws.getD g default))),
      (106, AV.i (6:Int))] [(1, bo h 2), (2, ABlk.buf 177 25 (List.map encWn ((exS h.ws n0 g).set g (exK (h.ws.getD g default) n0 g 7)))), (3, bo h 4), (4, ABlk.buf 177 25 (List.map encWn h.ws))] 5) ∧ In64
      (7:Int) ∧ (0:Int) <= (7:Int) ∧ (7:Int) < (8:Int) ∧ (0:Int) <= (0:Int) ∧ (0:Int) < (3:Int) ∧ In64 ((3:Int) * (7:Int)) ∧ In64 (wI n0 + (3:Int) * (7:Int)) ∧ In64 (wI n0 + (3 :
      Int) * (7:Int) + (g:Int)) ∧ In64 ((h.ws.getD g default).p15 - (h.ws.getD g default).p14) ∧ In64 ((h.ws.getD g default).p15 - (h.ws.getD g default).p14 + (1:Int)) ∧ ¬(h.ws.getD g default).p15 -
      (h.ws.getD g default).p14 + (1:Int) = (0:Int) ∧ In64 (exX (h.ws.getD g default) (wI n0) g 7) ∧ ((0:Int) <= (7:Int) ∧ (7:Int) < (8:Int) ∧ g < (List.map encWn ((exS h.ws n0 g).set g (exK
      (h.ws.getD g default) n0 g 7))).length ∧ PCall Tryz.prog G0 94 [AV.i (exX (h.ws.getD g default) (wI n0) g 7), AV.i (exX (h.ws.getD g default) (wI n0) g 7)] (AV.agg [AV.i (exX (h.ws.getD g default) (wI
      n0) g 7), AV.i (exX (h.ws.getD g default) (wI n0) g 7)]) ∧ AS.mk [(2, hmA h), (3, n3A n0 n1 n2), (5, ivA2 h), (9, AV.ptr 1 0), (10, AV.ptr 3 0), (94, AV.i (↑(List.map encWn h.ws).length : Int)), (95,
      AV.i (g:Int)), (11, AV.i (g:Int)), (12, AV.optr 2 g 0), (105, AV.agg (encPw (h.ws.getD g default))), (106, AV.i (7:Int))] [(1, bo h 2), (2, ABlk.buf 177 25 (putRow (List.map encWn ((exS h.ws n0
      g).set g (exK (h.ws.getD g default) n0 g 7))) g 23 [AV.i (exX (h.ws.getD g default) (wI n0) g 7), AV.i (exX (h.ws.getD g default) (wI n0) g 7)])), (3, bo h 4), (4, ABlk.buf 177 25 (List.map encWn
      h.ws))] 5 = AS.mk [(2, hmA h), (3, n3A n0 n1 n2), (5, ivA2 h), (9, AV.ptr 1 0), (10, AV.ptr 3 0), (94, AV.i (↑(List.map encWn h.ws).length : Int)), (95, AV.i (g:Int)), (11, AV.i (g:Int)), (12,
      AV.optr 2 g 0), (105, AV.agg (encPw (h.ws.getD g default))), (106, AV.i (7:Int))] [(1, bo h 2), (2, ABlk.buf 177 25 (List.map encWn ((exS h.ws n0 g).set g (exK (h.ws.getD g default) n0 g 8)))), (3,
      bo h 4), (4, ABlk.buf 177 25 (List.map encWn h.ws))] 5) ∧ In64 (8:Int) ∧ In64 ((g:Int) + (1:Int)) ∧ ∃ (g' : Nat), g' <= h.ws.length ∧ h.ws.length - g' < h.ws.length - g ∧ AS.mk [(2, hmA h), (3,
      n3A n0 n1 n2), (5, ivA2 h), (9, AV.ptr 1 0), (10, AV.ptr 3 0), (94, AV.i (↑(List.map encWn h.ws).length : Int)), (95, AV.i ((g:Int) + (1:Int)))] [(1, bo h 2), (2, ABlk.buf 177 25 (List.map encWn
      ((exS h.ws n0 g).set g (exK (h.ws.getD g default) n0 g 8)))), (3, bo h 4), (4, ABlk.buf 177 25 (List.map encWn h.ws))] 5 = AS.mk [(2, hmA h), (3, n3A n0 n1 n2), (5, ivA2 h), (9, AV.ptr 1 0), (10,
      AV.ptr 3 0), (94, AV.i (↑(List.map encWn h.ws).length : Int)), (95, AV.i (↑g' : Int))] [(1, bo h 2), (2, ABlk.buf 177 25 (List.map encWn (exS h.ws n0 g'))), (3, bo h 4), (4, ABlk.buf 177 25 (List.map
      encWn h.ws))] 5) ∧ (decide ((g:Int) < (↑(List.map encWn h.ws).length : Int)) = false -> AS.mk [(2, hmA h), (3, n3A n0 n1 n2), (5, ivA2 h), (9, AV.elt 3 [[AV.str h.nm, AV.i h.pe, AV.sl 25 (List.map
      encWn (exS h.ws n0 g))]] 0 0), (10, AV.ptr 1 0)] [(1, bo h 2), (2, ABlk.buf 177 25 (List.map encWn h.ws))] 3 = AS.mk [(2, hmA h), (3, n3A n0 n1 n2), (5, ivA2 h), (9, AV.elt 3 [[AV.str h.nm, AV.i h.pe,
      AV.sl 25 (List.map encWn (exS h.ws n0 h.ws.length))]] 0 0), (10, AV.ptr 1 0)] [(1, bo h 2), (2, ABlk.buf 177 25 (List.map encWn h.ws))] 3 ∧ K13 h)) ∧ (T_c13_3 h n0 n1 n2)
theorem t_c13_2 (h : Hm) (n0 n1 n2 : Int) (hA : PCall Tryz.prog G0 16 [] (.bool true)) (hn0 : 0 <= n0 ∧ n0 <= 65535) (hn1 : 0 <= n1 ∧ n1 <= 65535) (hn2 : 0 <= n2 ∧ n2 <= 65535) : T_c13_2 h n0 n1 n2 := by
 unfold T_c13_2
 have : (List.map encWn h.ws).length = h.ws.length := by simp only [List.length_map]
 refine fun h1 => ?_
 · have hK := h1
   have k1 := h1.ko
   have k2 := h1.kz
   obtain ⟨z1, z2, z3, z4, z5, z6⟩ := hm_z k2
   have zb := in_bd k2
   have w0 := wI_e hn0
   have w1 := wI_e hn1
   have w2 := wI_e hn2
   obtain ⟨y2, y1, yl⟩ := iY_e k2 hn1
   have wz := z6 _ yl
   have yw : wJ h n1 = h.ws.getD (jX h n1) default := by unfold wJ; rw [y1]
   try rw [yw]
   try rw [y2]
   try rw [y1]
   try rw [w0]
   try rw [w2]
   refine ⟨⟨⟨0, by omega, rfl⟩, fun g hg => ⟨fun hd => ?_, fun hd => ?_⟩⟩, t_c13_3 h n0 n1 n2 hA hn0 hn1 hn2⟩
   · have hlt : g < h.ws.length := by have h9 := of_decide_eq_true hd; have h8 := hg; (try simp only [List.length_map] at h8 h9); omega
     have wg := z6 g hlt
     have l8 := wn8 wg
     exact ⟨(by omega), (by omega), (by rw [List.length_map, exS_len]; exact hlt), (pl_r hlt), (by omega), (by omega), (by omega), (by omega), (by unfold In64; omega), (by unfold In64; omega), (by unfold In64; omega), (by unfold In64; omega), (by unfold In64; omega), (by omega), (in_x wg hn0.1 g (b := 0) (by omega)), ⟨(by omega), (by omega), (by rw [List.length_map, exS_len]; exact hlt), (c94 _ _), (as4 (ex_p0 hlt))⟩, (by unfold In64; omega), (by omega), (by omega), (by omega), (by omega), (by unfold In64; omega), (by unfold In64; omega), (by unfold In64; omega), (by unfold In64; omega), (by unfold In64; omega), (by omega), (in_x wg hn0.1 g (b := 1) (by omega)), ⟨(by omega), (by omega), (set_l (by rw [exS_len]; exact hlt)), (c94 _ _), (as4 (ex_p1 hlt))⟩, (by unfold In64; omega), (by omega), (by omega), (by omega), (by omega), (by unfold In64; omega), (by unfold In64; omega), (by unfold In64; omega), (by unfold In64; omega), (by unfold In64; omega), (by omega), (in_x wg hn0.1 g (b := 2) (by omega)), ⟨(by omega), (by omega), (set_l (by rw [exS_len]; exact hlt)), (c94 _ _), (as4 (ex_p2 hlt))⟩, (by unfold In64; omega), (by omega), (by omega), (by omega), (by omega), (by unfold In64; omega), (by unfold In64; omega), (by unfold In64; omega), (by unfold In64; omega), (by unfold In64; omega), (by omega), (in_x wg hn0.1 g (b := 3) (by omega)), ⟨(by omega), (by omega), (set_l (by rw [exS_len]; exact hlt)), (c94 _ _), (as4 (ex_p3 hlt))⟩, (by unfold In64; omega), (by omega), (by omega), (by omega), (by omega), (by unfold In64; omega), (by unfold In64; omega), (by unfold In64; omega), (by unfold In64; omega), (by unfold In64; omega), (by omega), (in_x wg hn0.1 g (b := 4) (by omega)), ⟨(by omega), (by omega), (set_l (by rw [exS_len]; exact hlt)), (c94 _ _), (as4 (ex_p4 hlt))⟩, (by unfold In64; omega), (by omega), (by omega), (by omega), (by omega), (by unfold In64; omega), (by unfold In64; omega), (by unfold In64; omega), (by unfold In64; omega), (by unfold In64; omega), (by omega), (in_x wg hn0.1 g (b := 5) (by omega)), ⟨(by omega), (by omega), (set_l (by rw [exS_len]; exact hlt)), (c94 _ _), (as4 (ex_p5 hlt))⟩, (by unfold In64; omega), (by omega), (by omega), (by omega), (by omega), (by unfold In64; omega), (by unfold In64; omega), (by unfold In64; omega), (by unfold In64; omega), (by unfold In64; omega), (by omega), (in_x wg hn0.1 g (b := 6) (by omega)), ⟨(by omega), (by omega), (set_l (by rw [exS_len]; exact hlt)), (c94 _ _), (as4 (ex_p6 hlt))⟩, (by unfold In64; omega), (by omega), (by omega), (by omega), (by omega), (by unfold In64; omega), (by unfold In64; omega), (by unfold In64; omega), (by unfold In64; omega), (by unfold In64; omega), (by omega), (in_x wg hn0.1 g (b := 7) (by omega)), ⟨(by omega), (by omega), (set_l (by rw [exS_len]; exact hlt)), (c94 _ _), (as4 (ex_p7 hlt))⟩, (by unfold In64; omega), (by unfold In64; omega), ⟨g + 1, by omega, by omega, rfl⟩⟩
   · have hge : g = h.ws.length := by have h9 := of_decide_eq_false hd; have h8 := hg; (try simp only [List.length_map] at h8 h9); omega
     subst hge
     exact ⟨rfl, hK⟩
def T_c13_1 (h : Hm) (n0 n1 n2 : Int) : Prop :=
      K13 h -> (WCall Tryz.prog G0 93 [AV.agg (encHm h)] [] (AV.ax [AV.str h.nm, AV.i h.pe, AV.own 1 (List.map encWn h.ws).length]) [ABlk.buf 177 25 (List.map encWn h.ws)] ∧ WCall Tryz.prog G0 93 [AV.agg
      (encHm h)] [] (AV.ax [AV.str h.nm, AV.i h.pe, AV.own 1 (List.map encWn h.ws).length]) [ABlk.buf 177 25 (List.map encWn h.ws)] ∧ AS.mk [(2, hmA h), (3, n3A n0 n1 n2), (5, ivA2 h), (9, AV.ptr 1 0), (10,
      AV.ptr 3 0)] [(1, bo h 2), (2, ABlk.buf 177 25 (List.map encWn h.ws)), (3, bo h 4), (4, ABlk.buf 177 25 (List.map encWn h.ws))] 5 = AS.mk [(2, hmA h), (3, n3A n0 n1 n2), (5, ivA2 h), (9, AV.ptr 1 0),
      (10, AV.ptr 3 0)] [(1, bo h 2), (2, ABlk.buf 177 25 (List.map encWn h.ws)), (3, bo h 4), (4, ABlk.buf 177 25 (List.map encWn h.ws))] 5 ∧ K13 h) ∧ (T_c13_2 h n0 n1 n2)
theorem t_c13_1 (h : Hm) (n0 n1 n2 : Int) (hA : PCall Tryz.prog G0 16 [] (.bool true)) (hn0 : 0 <= n0 ∧ n0 <= 65535) (hn1 : 0 <= n1 ∧ n1 <= 65535) (hn2 : 0 <= n2 ∧ n2 <= 65535) : T_c13_1 h n0 n1 n2 := by
 unfold T_c13_1
 have : (List.map encWn h.ws).length = h.ws.length := by simp only [List.length_map]
 refine fun h1 => ?_
 · have hK := h1
   have k1 := h1.ko
   have k2 := h1.kz
   obtain ⟨z1, z2, z3, z4, z5, z6⟩ := hm_z k2
   have zb := in_bd k2
   have w0 := wI_e hn0
   have w1 := wI_e hn1
   have w2 := wI_e hn2
   obtain ⟨y2, y1, yl⟩ := iY_e k2 hn1
   have wz := z6 _ yl
   have yw : wJ h n1 = h.ws.getD (jX h n1) default := by unfold wJ; rw [y1]
   try rw [yw]
   try rw [y2]
   try rw [y1]
   try rw [w0]
   try rw [w2]
   exact ⟨⟨(w93 h (by omega)), (w93 h (by omega)), rfl, hK⟩, t_c13_2 h n0 n1 n2 hA hn0 hn1 hn2⟩
set_option maxHeartbeats 4000000 in
theorem c13 (h : Hm) (n0 n1 n2 : Int) (hA : PCall Tryz.prog G0 16 [] (.bool true)) (hn0 : 0 <= n0 ∧ n0 <= 65535) (hn1 : 0 <= n1 ∧ n1 <= 65535) (hn2 : 0 <= n2 ∧ n2 <= 65535) : PCall Tryz.prog G0 13 [.agg (encHm h), .agg [.int .u16 n0, .int .u16 n1, .int .u16 n2]] (.bool true) := by
 have key :
  ((!!shH h) = true -> (!!shH h) = true) ∧ ((!!shH h) = true -> (!!shH h) = true) ∧ ((!shH h) = false -> (!!shH h) = true) ∧ PCall Tryz.prog G0 14 [AV.agg (encHm h)] (AV.bool (shH h)) ∧ impB (!!shH h) (PCall Tryz.prog G0 26 [AV.agg
  (encHm h)] (AV.i (fHm h))) ∧ ((if (!shH h) = true then true else fHm h != 0) = true -> PCall Tryz.prog G0 16 [] (AV.bool true) ∧ AV.bool true = AV.bool true) ∧ ((if (!shH h) = true then true else fHm h != 0) = false -> PCall
  Tryz.prog G0 18 [AV.agg (encHm h)] (AV.agg (encHm h)) ∧ PCall Tryz.prog G0 19 [AV.agg (encHm h)] (AV.tup [AV.agg [AV.i (jV1 (hmD h)), AV.i (jV2 (hmD h))], AV.i (fHm (hmD h))]) ∧ PCall Tryz.prog G0 18 [AV.agg (encHm h)] (AV.agg
  (encHm h)) ∧ PCall Tryz.prog G0 20 [AV.agg (encHm h)] (AV.tup [AV.agg [AV.i (lvl (inL h.ws h.ws.length)), AV.i (lvl (inH h.ws h.ws.length))], AV.i 0]) ∧ (((!ga1 h) = true -> (!ga1 h) = true) ∧ ((ga1 h) = false -> (!ga1 h) = true) ∧
  ((!ga2 h) = true -> (!ga2 h) = true) ∧ ((!ga2 h) = true -> (!ga2 h) = true) ∧ ((ga2 h) = false -> (!ga2 h) = true) ∧ ((!ga3 h) = true -> (!ga3 h) = true) ∧ ((!ga3 h) = true -> (!ga3 h) = true) ∧ ((!ga3 h) = true -> (!ga3 h) = true) ∧
  ((!ga3 h) = true -> (!ga3 h) = true) ∧ ((ga3 h) = false -> (!ga3 h) = true) ∧ ((!ga4 h) = true -> (!ga4 h) = true) ∧ ((!ga4 h) = true -> (!ga4 h) = true) ∧ ((!ga4 h) = true -> (!ga4 h) = true) ∧ ((!ga4 h) = true -> (!ga4 h) = true) ∧
  ((!ga4 h) = true -> (!ga4 h) = true) ∧ ((!ga4 h) = true -> (!ga4 h) = true) ∧ ((!ga4 h) = true -> (!ga4 h) = true) ∧ ((!ga4 h) = true -> (!ga4 h) = true) ∧ ((ga4 h) = false -> (!ga4 h) = true) ∧ impB (!ga4 h) (PCall Tryz.prog G0 92
  [AV.i (jV1 (hmD h))] (AV.i (lvl (jV1 (hmD h))))) ∧ impB (!ga4 h) (PCall Tryz.prog G0 92 [AV.i (jV2 (hmD h))] (AV.i (lvl (jV2 (hmD h))))) ∧ AS.mk [(2, hmA h), (3, n3A n0 n1 n2), (5, AV.elt 2 [[AV.i (jV1 (hmD h)), AV.i (jV2 (hmD
  h))]] 0 0), (87, AV.bool (if (ga4 h) = true then true else !(lvl (inL h.ws h.ws.length) == lvl (jV1 (hmD h)) && true && (lvl (inH h.ws h.ws.length) == lvl (jV2 (hmD h)) && true && true))))] [] 1 = AS.mk [(2, hmA h), (3, n3A n0 n1
  n2), (5, AV.elt 2 [[AV.i (jV1 (hmD h)), AV.i (jV2 (hmD h))]] 0 0), (87, AV.bool false)] [] 1) ∧ (AS.mk [(2, hmA h), (3, n3A n0 n1 n2), (5, AV.elt 2 [[AV.i (jV1 (hmD h)), AV.i (jV2 (hmD h))]] 0 0)] [] 1 = AS.mk [(2, hmA h), (3, n3A
  n0 n1 n2), (5, ivA2 h)] [] 1 ∧ K13 h) ∧ (T_c13_1 h n0 n1 n2)) := by
   refine ⟨fun h => h, fun h => h, fun h => by first | exact h | (rw [h]; rfl) | simp_all, (c14 h), impB_iff.2 fun hb => (c26 h (by have := sh_n hb; omega) (by have := sh_n hb; omega)), fun h1 => ⟨hA, rfl⟩, fun h1 => ?_⟩
   · have hK := guard13 h1
     have k1 := hK.ko
     have k2 := hK.kz
     obtain ⟨z1, z2, z3, z4, z5, z6⟩ := hm_z k2
     exact ⟨(c18 h (by omega)), (c19q h (by omega) (by omega)), (c18 h (by omega)), (c20q k2 (by omega) (by omega)), ⟨fun h => h, fun h => by first | exact h | (rw [h]; rfl) | simp_all, fun h => h, fun h => h, fun h => by first | exact h | (rw [h]; rfl) | simp_all, fun h => h, fun h => h, fun h => h, fun h => h, fun h => by first | exact h | (rw [h]; rfl) | simp_all, fun h => h, fun h => h, fun h => h, fun h => h, fun h => h, fun h => h, fun h => h, fun h => h, fun h => by first | exact h | (rw [h]; rfl) | simp_all, impB_iff.2 fun hb => (c92 _), impB_iff.2 fun hb => (c92 _), (congrArg (fun b => AS.mk [_, _, _, (87, AV.bool b)] [] 1) (x87 k2))⟩, ⟨(congrArg (fun b => AS.mk [_, _, (5, b)] [] 1) (e87 k2)), hK⟩, t_c13_1 h n0 n1 n2 hA hn0 hn1 hn2⟩
 exact c_ofH Tryz.f13 ({ gsB gs13 (fz13 (modA 12 3 (fun a => { a with rdb := rdP h }) (modA 20 5 (fun a => { a with rdb := rdP h }) (modA 26 11 (fun a => { a with rdb := rdA h }) (mkB (sp13 h) 13 [] (la13 h n0 n1 n2)))))) with hs := hs13 h, cl := clL [107, 152, 87, 251, 289, 308, 347], bx := fun i => if i.beq 0 then [.frzc 1 2, .frzo 9] else [], cut := cut13 h n0 n1 n2 }) (m13 h n0 n1 n2) (by kernel_rfl) (by kernel_rfl) (by kernel_rfl) (by kernel_rfl) key (by kernel_rfl)
end Go.Proofs.YtfoeefaamjknpaaGreatDoor
namespace Go.Proofs.YtfoeefaamjknpaaGreatDoor
open Go Go.Av Go.RowKit Go.ChangeShapes Go.WideShapes
theorem jp0_13 : (Rows.homeQuietRow.inPlace == Tryz.prog.inPlace 13) = true := by kernel_rfl
theorem jp1_13 : (Rows.homeQuietRow.unfollowed == Tryz.prog.unfollowed 13) = true := by kernel_rfl
theorem jp2_13 : (Rows.homeQuietRow.recurses == Tryz.prog.recurses 13) = true := by kernel_rfl
theorem jp3_13 : (Rows.homeQuietRow.named == Tryz.prog.varsNamed 13) = true := by kernel_rfl
theorem jfacts_13 : joinedFacts Tryz.prog 13 Tryz.f13 Rows.homeQuietSpec Rows.homeQuietRow = true := by
 unfold joinedFacts
 rw [jp0_13, jp1_13, jp2_13, jp3_13]
 kernel_rfl
end Go.Proofs.YtfoeefaamjknpaaGreatDoor
