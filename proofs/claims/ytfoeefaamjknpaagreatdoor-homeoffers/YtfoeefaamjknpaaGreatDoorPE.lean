/-
  The cheapest set and the bound of the sum: the source's, the reference's bound. The cheapest set: the reference's. Complaints, the reference's: those that are counted, tied and due. No condition but the theorems' own.
-/
import Derived.Test.YtfoeefaamjknpaaGreatDoorPD
import Derived.Test.YtfoeefaamjknpaaGreatDoorAvD
namespace Go.Proofs.YtfoeefaamjknpaaGreatDoor
open Go Go.Av Go.RowKit
def cW (h:Hm) (l:List Ms) (o:Option Nat):AV:=.tup [.sl 1 ((chO h l o).s.map encI),.i (chO h l o).c,.i (if o.isSome=true then 0 else 18)]
theorem none_of {α:Type} {o:Option α} (h:(!o.isSome)=true):o=none:=by cases o <;> simp_all
end Go.Proofs.YtfoeefaamjknpaaGreatDoor
namespace Go.Proofs.YtfoeefaamjknpaaGreatDoor
open Go Go.Av Go.RowKit
def bsN (h:Hm) (l:List Ms) (t:Int) (k:Nat):Option Nat:=((List.range k).filter (okM l)).foldl (stB h l t) none
theorem bsN_pos {h:Hm} {l:List Ms} {t:Int} {k:Nat} (e:okM l k=true):bsN h l t (k+1)=stB h l t (bsN h l t k) k:=by
 unfold bsN
 rw [List.range_succ,List.filter_append,List.foldl_append]
 simp [e]
theorem bsN_neg {h:Hm} {l:List Ms} {t:Int} {k:Nat} (e:okM l k=false):bsN h l t (k+1)=bsN h l t k:=by
 unfold bsN
 rw [List.range_succ,List.filter_append,List.foldl_append]
 simp [e]
theorem ok_e (l:List Ms) (b:Nat):okM l b=(fSet l (bsM l b) == 0):=by
 unfold okM
 rw [hd_encI]
theorem bit_mod (m i:Nat):((((m / 2 ^ i:Nat):Int)).tmod 2 == 1)=m.testBit i:=by
 rw [Nat.testBit,Nat.and_comm,Nat.and_one_is_mod,Nat.shiftRight_eq_div_pow]
 have e:(((m / 2 ^ i:Nat):Int)).tmod 2=(((m / 2 ^ i) % 2:Nat):Int):=by
  rw [Int.tmod_eq_emod_of_nonneg (Int.natCast_nonneg _)]
  norm_cast
 rw [e]
 rcases Nat.mod_two_eq_zero_or_one (m / 2 ^ i) with h | h <;> rw [h] <;> rfl
theorem half (m i:Nat):(((m / 2 ^ i:Nat):Int)).tdiv 2=((m / 2 ^ (i+1):Nat):Int):=by
 rw [Int.tdiv_eq_ediv_of_nonneg (Int.natCast_nonneg _),Nat.pow_succ,<- Nat.div_div_eq_div_mul]
 norm_cast
def sp45 (h:Hm) (l:List Ms) (t:Int):Nat->List AV->Option AV
 | 31,[_,.sl _ r]=>some (.i (fSet l (r.map hdI)))
 | 36,[_,_,.sl _ r,_]=>some (.bool (decide (afU h l (r.map hdI)<=t)))
 | 124,[_,.sl _ r]=>some (.i (costN l (r.map hdI)))
 | 35,[_,_,.sl _ r]=>some (.agg (encHm (afH h l (r.map hdI))))
 | 29,[.agg [_,_,.sl _ rows]]=>some (.agg [.i (inL (rows.map decWn) rows.length),.i (inH (rows.map decWn) rows.length)])
 | 125,[.sl _ a,.sl _ b]=>some (.bool (lx (a.map hdI) (b.map hdI)))
 | n,z=>spW n z
def la45 (h:Hm) (l:List Ms) (t:Int) (b:Nat):Option LA :=
 if b.beq 0 then some {
  pre:=[.nil 9 1,.keep [1,2,3,9,10,11,12] [],.bound 1],post:=[.keep [1,2,3,9,10,11,12] [],.bound 1]
  Gh:=Nat
  st:=fun i=>⟨[(1,.sl 19 (l.map encMs)),(2,.i t),(3,.elt 3 [encHm h] 0 0),(9,.sl 1 []),(10,.bool false),(11,.i (pwN i:Nat)),(12,.i i)],[],1⟩
  ok:=fun i=>i<=l.length
  ms:=fun i=>l.length-i }
 else if b.beq 2 then some {
  pre:=[.keep [1,2,3,9,10,11,13] [],.bound 1],post:=[.keep [1,2,3,9,10,11,13] [],.bound 1]
  Gh:=Nat
  st:=fun i=>⟨[(1,.sl 19 (l.map encMs)),(2,.i t),(3,.elt 3 [encHm h] 0 0),(9,.sl 1 ((chO h l (bsN h l t i)).s.map encI)),(10,.bool (bsN h l t i).isSome),(11,.i (pwN l.length:Nat)),(13,.i i)],[],1⟩
  ok:=fun i=>i<=pwN l.length
  ms:=fun i=>pwN l.length-i }
 else some {
  pre:=[.own 14 3 1,.reno 14 1,.keep [1,2,3,9,10,11,13,14,15,16] [1],.bound 2],post:=[.reno 14 1,.keep [1,2,3,9,10,11,13,14,15,16] [1],.bound 2]
  Gh:=Nat × Nat
  st:=fun q=>⟨[(1,.sl 19 (l.map encMs)),(2,.i t),(3,.elt 3 [encHm h] 0 0),(9,.sl 1 ((chO h l (bsN h l t q.1)).s.map encI)),(10,.bool (bsN h l t q.1).isSome),(11,.i (pwN l.length:Nat)),(13,.i q.1),(14,.own 1 ((bitsM q.1 q.2).map encI).length),(15,.i (q.1 / 2 ^ q.2:Nat)),(16,.i q.2)],[(1,.buf 3 1 ((bitsM q.1 q.2).map encI))],2⟩
  ok:=fun q=>q.1 < pwN l.length∧q.2<=l.length
  rel:=some fun q0 q=>q.1=q0.1
  ms:=fun q=>l.length-q.2 }
theorem bsM_e (l:List Ms) (b:Nat):bsM l b=bitsM b l.length:=by
 unfold bsM
 rw [List.length_map]
theorem bst_e (h:Hm) (l:List Ms) (t:Int):bst h l t=bsN h l t (pwN l.length):=by
 unfold bst bsN msk
 rw [List.length_map]
theorem fold_ok {h:Hm} {l:List Ms} {t:Int}:∀ (xs:List Nat) (o:Option Nat),(∀ x,x ∈ xs->okM l x=true)->(∀ a,o=some a->okM l a=true)->∀ a,xs.foldl (stB h l t) o=some a->okM l a=true
 | [],_,_,ho,a,e=>ho a e
 | x::xs,o,hx,ho,a,e=>by
  refine fold_ok xs (stB h l t o x) (fun y hy=>hx y (List.mem_cons_of_mem _ hy)) (fun b hb=>?_) a e
  unfold stB at hb
  split at hb
  · injection hb with hb
    rw [<- hb]
    exact hx x (List.mem_cons_self ..)
  · exact ho b hb
theorem bs_ok {h:Hm} {l:List Ms} {t:Int} {k:Nat} (e:(bsN h l t k).isSome=true):fSet l (chO h l (bsN h l t k)).s=0:=by
 cases q:bsN h l t k with
 | none=>rw [q] at e;cases e
 | some a=>exact ok_z (fold_ok _ none (fun x hx=>(List.mem_filter.1 hx).2) (fun a e=>by cases e) a q)
theorem afH_ws (h:Hm) (l:List Ms) (g:List Int):(afH h l g).ws=aft h.ws l g:=rfl
theorem afU_e (h:Hm) (l:List Ms) (g:List Int):inH ((List.map encWn (aft h.ws l g)).map decWn) (List.map encWn (aft h.ws l g)).length=afU h l g:=by
 rw [ws_dec,List.length_map,show (aft h.ws l g).length=h.ws.length from aft_len h.ws l g g.length]
 rfl
theorem chO_c {h:Hm} {l:List Ms} {o:Option Nat} (e:o.isSome=true):costN l (chO h l o).s=(chO h l o).c∧afU h l (chO h l o).s=(chO h l o).u:=by
 cases o with
 | none=>cases e
 | some a=>exact ⟨rfl,rfl⟩
def rcB (x y:Ch):Bool:=if decide (x.c < y.c)=true then true else if (x.c == y.c)=true then if decide (x.u < y.u)=true then true else if (x.u == y.u)=true then lx x.s y.s else false else false
theorem cmI_c (x y:Int):(x < y∧cmI x y = -1) ∨ (x=y∧cmI x y=0) ∨ (y < x∧cmI x y=1):=by
 unfold cmI
 by_cases h:x < y
 · exact .inl ⟨h,if_pos (decide_eq_true h)⟩
 · by_cases h2:y < x
   · exact .inr (.inr ⟨h2,by rw [if_neg (by simpa using h),if_pos (decide_eq_true h2)]⟩)
   · exact .inr (.inl ⟨by omega,by rw [if_neg (by simpa using h),if_neg (by simpa using h2)]⟩)
theorem cmC_r (x y:Ch):decide (cmC x y < 0)=rcB x y:=by
 unfold cmC rcB
 rcases cmI_c x.c y.c with ⟨h,e⟩ | ⟨h,e⟩ | ⟨h,e⟩
 · rw [e,if_pos (decide_eq_true h)]
   rfl
 · rw [e,if_neg (by simp [h]),if_pos (by simp [h])]
   rcases cmI_c x.u y.u with ⟨h2,e2⟩ | ⟨h2,e2⟩ | ⟨h2,e2⟩
   · rw [e2,if_pos (decide_eq_true h2)]
     rfl
   · rw [e2,if_neg (by simp [h2]),if_pos (by simp [h2])]
     have hl:=(cmL_lx x.s y.s).1
     have e3:sFirst [0,0,cmL x.s y.s]=cmL x.s y.s:=by simp [sFirst];exact fun h=>h.symm
     rw [e3]
     cases q:lx x.s y.s with
     | true=>exact decide_eq_true (hl.2 q)
     | false=>exact decide_eq_false (fun hh=>by rw [hl.1 hh] at q;cases q)
   · rw [e2,if_neg (by simp;omega),if_neg (by simp;omega)]
     rfl
 · rw [e,if_neg (by simp;omega),if_neg (by simp;omega)]
   rfl
theorem ta_none {h:Hm} {l:List Ms} {t:Int} {o:Option Nat} {b:Nat} (hu:decide (afU h l (bsM l b)<=t)=true) (ho:(!o.isSome)=true):taB h l t o b=true:=by
 unfold taB
 rw [if_pos hu,if_pos ho]
theorem ta_some {h:Hm} {l:List Ms} {t:Int} {o:Option Nat} {b:Nat} (hu:decide (afU h l (bsM l b)<=t)=true) (ho:(!o.isSome)=false):taB h l t o b=rcB (chM h l (bsM l b)) (chO h l o):=by
 unfold taB
 rw [if_pos hu,if_neg (by rw [ho];decide),cmC_r]
theorem skip_e {h:Hm} {l:List Ms} {t:Int} {b:Nat} (e:(if (fSet l (bsM l b) != 0)=true then true else !decide (afU h l (bsM l b)<=t))=true):bsN h l t (b+1)=bsN h l t b:=by
 cases q:okM l b with
 | false=>exact bsN_neg q
 | true =>
  rw [bsN_pos q]
  rw [ok_e] at q
  rw [if_neg (by rw [eq_of_beq q];decide)] at e
  have e2:decide (afU h l (bsM l b)<=t)=false:=by simpa using e
  exact if_neg (by unfold taB;rw [if_neg (by rw [e2];decide)];decide)
theorem keep_z {h:Hm} {l:List Ms} {t:Int} {b:Nat} (e:(if (fSet l (bsM l b) != 0)=true then true else !decide (afU h l (bsM l b)<=t))=false):fSet l (bsM l b)=0∧decide (afU h l (bsM l b)<=t)=true:=by
 by_cases q:fSet l (bsM l b)=0
 · rw [if_neg (by rw [q];decide)] at e
   exact ⟨q,by simpa using e⟩
 · rw [if_pos (by simpa using q)] at e
   cases e
theorem take_e {h:Hm} {l:List Ms} {t:Int} {b:Nat} (q:fSet l (bsM l b)=0) (e:taB h l t (bsN h l t b) b=true):bsN h l t (b+1)=some b:=by
 rw [bsN_pos (by rw [ok_e,q];rfl)]
 exact if_pos e
theorem stay_e {h:Hm} {l:List Ms} {t:Int} {b:Nat} (q:fSet l (bsM l b)=0) (e:taB h l t (bsN h l t b) b=false):bsN h l t (b+1)=bsN h l t b:=by
 rw [bsN_pos (by rw [ok_e,q];rfl)]
 exact if_neg (by rw [e];decide)
theorem p29 {h:Hm} {l:List Ms} {g:List Int} (q1:fMs h l=0) (q2:fSet l g=0):PCall Tryz.prog G0 29 [.agg [.str h.nm,.i h.pe,.sl 25 (List.map encWn (aft h.ws l g))]] (.agg [.i (inL ((List.map encWn (aft h.ws l g)).map decWn) (List.map encWn (aft h.ws l g)).length),.i (inH ((List.map encWn (aft h.ws l g)).map decWn) (List.map encWn (aft h.ws l g)).length)]):=by
 obtain ⟨a1,a2,a3,a4⟩:=af_ok q1 q2
 rw [ws_dec,List.length_map]
 exact c29 (afH h l g) (show (aft h.ws l g).length<=8 by omega) (show WsOK (aft h.ws l g) from a1)
abbrev zc45k (g_1:Nat × Nat):=List.map encI (bitsM g_1.fst g_1.snd)
abbrev zc45b (g_1:Nat × Nat):=List.map hdI (zc45k g_1)
abbrev zc45c (h:Hm) (l:List Ms) (t:Int) (g_1:Nat × Nat):=List.map hdI (List.map encI (chO h l (bsN h l t g_1.fst)).s)
abbrev zc45a (h:Hm) (l:List Ms) (g_1:Nat × Nat) (t:Int):=inH (List.map decWn (List.map encWn (afH h l (zc45b g_1)).ws)) (List.map encWn (afH h l (zc45b g_1)).ws).length < inH (List.map decWn (List.map encWn (afH h l (zc45c h l t g_1)).ws)) (List.map encWn (afH h l (zc45c h l t g_1)).ws).length
abbrev zc45i (l:List Ms) (g_1:Nat × Nat) (h:Hm) (t:Int):=costN l (zc45b g_1) < costN l (zc45c h l t g_1)
abbrev zc45m (h:Hm) (l:List Ms) (g_1:Nat × Nat):=List.map encWn (aft h.ws l (zc45b g_1))
abbrev zc45l (h:Hm) (l:List Ms) (t:Int) (g_1:Nat × Nat):=List.map encWn (aft h.ws l (zc45c h l t g_1))
abbrev zc45d (l:List Ms) (g_1:Nat × Nat) (h:Hm) (t:Int):=!decide (zc45i l g_1 h t) && costN l (zc45b g_1) == costN l (zc45c h l t g_1) && !decide (zc45a h l g_1 t) && inH (List.map decWn (zc45m h l g_1)) (zc45m h l g_1).length == inH (List.map decWn (zc45l h l t g_1)) (zc45l h l t g_1).length
abbrev zc45e (l:List Ms) (g_1:Nat × Nat) (h:Hm) (t:Int):=!decide (zc45i l g_1 h t) && costN l (zc45b g_1) == costN l (zc45c h l t g_1) && !decide (zc45a h l g_1 t)
abbrev zc45f (l:List Ms) (g_1:Nat × Nat) (h:Hm) (t:Int):=!decide (zc45i l g_1 h t) && costN l (zc45b g_1) == costN l (zc45c h l t g_1)
abbrev zc45g (l:List Ms) (t:Int) (h:Hm) (g':Nat):=[(1,AV.sl 19 (List.map encMs l)),(2,AV.i t),(3,AV.elt 3 [(encHm h)] 0 0),(9,AV.sl 1 (List.map encI (chO h l (bsN h l t g')).s)),(10,AV.bool (bsN h l t g').isSome),(11,AV.i (↑(pwN l.length):Int)),(13,AV.i (↑g':Int))]
abbrev zc45h (l:List Ms) (g_1:Nat × Nat) (h:Hm) (t:Int):=if decide (zc45i l g_1 h t)=true then true else if (costN l (zc45b g_1) == costN l (zc45c h l t g_1))=true then if decide (zc45a h l g_1 t)=true then true else if (inH (List.map decWn (zc45m h l g_1)) (zc45m h l g_1).length == inH (List.map decWn (zc45l h l t g_1)) (zc45l h l t g_1).length)=true then lx (zc45b g_1) (zc45c h l t g_1) else false else false
abbrev zc45j (l:List Ms) (t:Int) (h:Hm) (g':Nat × Nat):=[(1,AV.sl 19 (List.map encMs l)),(2,AV.i t),(3,AV.elt 3 [(encHm h)] 0 0),(9,AV.sl 1 (List.map encI (chO h l (bsN h l t g'.fst)).s)),(10,AV.bool (bsN h l t g'.fst).isSome),(11,AV.i (↑(pwN l.length):Int)),(13,AV.i (↑g'.fst:Int)),(14,AV.own 1 (List.map encI (bitsM g'.fst g'.snd)).length),(15,AV.i (↑(g'.fst / 2 ^ g'.snd):Int)),(16,AV.i (↑g'.snd:Int))]
abbrev zc45n (l:List Ms) (g_1:Nat × Nat):=(!fSet l (zc45b g_1) != 0)=true->(!fSet l (zc45b g_1) != 0)=true
abbrev zc45o (l:List Ms) (t:Int) (h:Hm) (g_1:Nat × Nat):=[(1,AV.sl 19 (List.map encMs l)),(2,AV.i t),(3,AV.elt 3 [(encHm h)] 0 0),(9,AV.sl 1 (List.map encI (chO h l (bsN h l t g_1.fst)).s)),(10,AV.bool (bsN h l t g_1.fst).isSome),(11,AV.i (↑(pwN l.length):Int)),(13,AV.i ((↑g_1.fst:Int)+1))]
theorem c45 (h:Hm) (l:List Ms) (t:Int) (q1:fMs h l=0):PCall Tryz.prog G0 45 [.agg (encHm h),.sl 19 (l.map encMs),.i t] (cW h l (bst h l t)):=by
 have key :
  (∃ (g:Nat),g<=l.length∧AS.mk [(1,AV.sl 19 (List.map encMs l)),(2,AV.i t),(3,AV.elt 3 [(encHm h)] 0 0),(9,AV.sl 1 []),(10,AV.bool false),(11,AV.i 1),(12,AV.i 0)] [] 1=AS.mk [(1,AV.sl 19 (List.map encMs l)),(2,
  AV.i t),(3,AV.elt 3 [(encHm h)] 0 0),(9,AV.sl 1 []),(10,AV.bool false),(11,AV.i (↑(pwN g):Int)),(12,AV.i (g:Int))] [] 1)∧∀ (g:Nat),g<=l.length->(decide ((g:Int) < (↑(List.map encMs l).length:Int))=true
  → In64 ((2:Int) * (↑(pwN g):Int))∧In64 ((g:Int)+1)∧∃ (g':Nat),g'<=l.length∧l.length-g' < l.length-g∧AS.mk [(1,AV.sl 19 (List.map encMs l)),(2,AV.i t),(3,AV.elt 3 [(encHm h)] 0 0),(9,AV.sl 1 []),(10,
  AV.bool false),(11,AV.i ((2:Int) * (↑(pwN g):Int))),(12,AV.i ((g:Int)+1))] [] 1=AS.mk [(1,AV.sl 19 (List.map encMs l)),(2,AV.i t),(3,AV.elt 3 [(encHm h)] 0 0),(9,AV.sl 1 []),(10,AV.bool false),(11,AV.i
  (↑(pwN g'):Int)),(12,AV.i (↑g':Int))] [] 1)∧(decide ((g:Int) < (↑(List.map encMs l).length:Int))=false->(∃ (g_1:Nat),g_1<=pwN l.length∧AS.mk [(1,AV.sl 19 (List.map encMs l)),(2,AV.i t),(3,AV.elt 3 [(encHm
  h)] 0 0),(9,AV.sl 1 []),(10,AV.bool false),(11,AV.i (↑(pwN g):Int)),(13,AV.i 0)] [] 1=AS.mk [(1,AV.sl 19 (List.map encMs l)),(2,AV.i t),(3,AV.elt 3 [(encHm h)] 0 0),(9,AV.sl 1 (List.map encI (chO h l (bsN h l t
  g_1)).s)),(10,AV.bool (bsN h l t g_1).isSome),(11,AV.i (↑(pwN l.length):Int)),(13,AV.i (g_1:Int))] [] 1)∧∀ (g:Nat),g<=pwN l.length->(decide ((g:Int) < (↑(pwN l.length):Int))=true->∃ (g0:Nat × Nat),
  (g0.fst < pwN l.length∧g0.snd<=l.length)∧g0.fst=g0.fst∧AS.mk [(1,AV.sl 19 (List.map encMs l)),(2,AV.i t),(3,AV.elt 3 [(encHm h)] 0 0),(9,AV.sl 1 (List.map encI (chO h l (bsN h l t g)).s)),(10,AV.bool (bsN h l t
  g).isSome),(11,AV.i (↑(pwN l.length):Int)),(13,AV.i (g:Int)),(14,AV.own 1 0),(15,AV.i (g:Int)),(16,AV.i 0)] [(1,ABlk.buf 3 1 [])] 2=AS.mk [(1,AV.sl 19 (List.map encMs l)),(2,AV.i t),(3,AV.elt 3 [(encHm h)]
  0 0),(9,AV.sl 1 (List.map encI (chO h l (bsN h l t g0.fst)).s)),(10,AV.bool (bsN h l t g0.fst).isSome),(11,AV.i (↑(pwN l.length):Int)),(13,AV.i (↑g0.fst:Int)),(14,AV.own 1 (List.map encI (bitsM g0.fst
  g0.snd)).length),(15,AV.i (↑(g0.fst / 2 ^ g0.snd):Int)),(16,AV.i (↑g0.snd:Int))] [(1,ABlk.buf 3 1 (List.map encI (bitsM g0.fst g0.snd)))] 2∧∀ (g_1:Nat × Nat),g_1.fst < pwN l.length∧g_1.snd<=l.length->g_1.fst =
  g0.fst->(decide ((↑g_1.snd:Int) < (↑(List.map encMs l).length:Int))=true->¬(2:Int)=(0:Int)∧(((↑(g_1.fst / 2 ^ g_1.snd):Int).tmod (2:Int) == 1)=true->(zc45k g_1).length+1<=9223372036854775807∧((zc45k
  g_1).length+1) * 8<=140737488355328∧¬(2:Int)=(0:Int)∧In64 ((↑(g_1.fst / 2 ^ g_1.snd):Int).tdiv 2)∧In64 ((↑g_1.snd:Int)+1)∧∃ (g':Nat × Nat),(g'.fst < pwN l.length∧g'.snd<=l.length)∧g'.fst=g0.fst ∧
  l.length-g'.snd < l.length-g_1.snd∧AS.mk [(1,AV.sl 19 (List.map encMs l)),(2,AV.i t),(3,AV.elt 3 [(encHm h)] 0 0),(9,AV.sl 1 (List.map encI (chO h l (bsN h l t g_1.fst)).s)),(10,AV.bool (bsN h l t g_1.fst).isSome),
  (11,AV.i (↑(pwN l.length):Int)),(13,AV.i (↑g_1.fst:Int)),(14,AV.own 1 ((zc45k g_1).length+1)),(15,AV.i ((↑(g_1.fst / 2 ^ g_1.snd):Int).tdiv 2)),(16,AV.i ((↑g_1.snd:Int)+1))] [(1,ABlk.buf 3 1 (List.map encI
  (bitsM g_1.fst g_1.snd)++[[AV.i (↑g_1.snd:Int)]]))] 2=AS.mk (zc45j l t h g') [(1,ABlk.buf 3 1 (List.map encI (bitsM g'.fst g'.snd)))] 2)∧(((↑(g_1.fst / 2 ^ g_1.snd):Int).tmod (2:Int) == 1)=false->¬(2:Int)=(0 :
  Int)∧In64 ((↑(g_1.fst / 2 ^ g_1.snd):Int).tdiv 2)∧In64 ((↑g_1.snd:Int)+1)∧∃ (g':Nat × Nat),(g'.fst < pwN l.length∧g'.snd<=l.length)∧g'.fst=g0.fst∧l.length-g'.snd < l.length-g_1.snd∧AS.mk [(1,AV.sl 19
  (List.map encMs l)),(2,AV.i t),(3,AV.elt 3 [(encHm h)] 0 0),(9,AV.sl 1 (List.map encI (chO h l (bsN h l t g_1.fst)).s)),(10,AV.bool (bsN h l t g_1.fst).isSome),(11,AV.i (↑(pwN l.length):Int)),(13,AV.i (↑g_1.fst :
  Int)),(14,AV.own 1 (zc45k g_1).length),(15,AV.i ((↑(g_1.fst / 2 ^ g_1.snd):Int).tdiv 2)),(16,AV.i ((↑g_1.snd:Int)+1))] [(1,ABlk.buf 3 1 (zc45k g_1))] 2=AS.mk (zc45j l t h g') [(1,ABlk.buf 3 1 (List.map encI (bitsM
  g'.fst g'.snd)))] 2))∧(decide ((↑g_1.snd:Int) < (↑(List.map encMs l).length:Int))=false->(zc45n l g_1)∧(zc45n l g_1)∧(zc45n l g_1)∧(zc45n l g_1)∧(zc45n l g_1)∧((fSet l (zc45b g_1) != 0)=false->(!fSet l (zc45b
  g_1) != 0)=true)∧PCall Tryz.prog G0 31 [AV.sl 19 (List.map encMs l),AV.sl 1 (zc45k g_1)] (AV.i (fSet l (zc45b g_1)))∧impB (!fSet l (zc45b g_1) != 0) (PCall Tryz.prog G0 36 [AV.agg (encHm h),AV.sl 19 (List.map encMs l),
  AV.sl 1 (zc45k g_1),AV.i t] (AV.bool (decide (afU h l (zc45b g_1)<=t))))∧((if (fSet l (zc45b g_1) != 0)=true then true else !decide (afU h l (zc45b g_1)<=t))=true->In64 ((↑g_1.fst:Int)+1)∧∃ (g':Nat),g'<=pwN
  l.length∧pwN l.length-g' < pwN l.length-g∧AS.mk (zc45o l t h g_1) [] 1=AS.mk (zc45g l t h g') [] 1)∧((if (fSet l (zc45b g_1) != 0)=true then true else !decide (afU h l (zc45b g_1)<=t))=false->((!(bsN h l t
  g_1.fst).isSome)=true->In64 ((↑g_1.fst:Int)+1)∧∃ (g':Nat),g'<=pwN l.length∧pwN l.length-g' < pwN l.length-g∧AS.mk [(1,AV.sl 19 (List.map encMs l)),(2,AV.i t),(3,AV.elt 3 [(encHm h)] 0 0),(9,AV.sl 1
  (zc45k g_1)),(10,AV.bool true),(11,AV.i (↑(pwN l.length):Int)),(13,AV.i ((↑g_1.fst:Int)+1))] [] 1=AS.mk (zc45g l t h g') [] 1)∧((!(bsN h l t g_1.fst).isSome)=false->PCall Tryz.prog G0 124 [AV.sl 19 (List.map
  encMs l),AV.sl 1 (zc45k g_1)] (AV.i (costN l (zc45b g_1)))∧PCall Tryz.prog G0 124 [AV.sl 19 (List.map encMs l),AV.sl 1 (List.map encI (chO h l (bsN h l t g_1.fst)).s)] (AV.i (costN l (zc45c h l t g_1)))∧PCall Tryz.prog G0 35
  [AV.agg (encHm h),AV.sl 19 (List.map encMs l),AV.sl 1 (zc45k g_1)] (AV.agg [AV.str h.nm,AV.i h.pe,AV.sl 25 (zc45m h l g_1)])∧PCall Tryz.prog G0 29 [AV.agg [AV.str h.nm,AV.i h.pe,AV.sl 25 (zc45m h l g_1)]] (AV.agg [AV.i (inL
  (List.map decWn (zc45m h l g_1)) (zc45m h l g_1).length),AV.i (inH (List.map decWn (zc45m h l g_1)) (zc45m h l g_1).length)])∧PCall Tryz.prog G0 35 [AV.agg (encHm h),AV.sl 19 (List.map encMs l),AV.sl 1 (List.map encI (chO h l
  (bsN h l t g_1.fst)).s)] (AV.agg [AV.str h.nm,AV.i h.pe,AV.sl 25 (zc45l h l t g_1)])∧PCall Tryz.prog G0 29 [AV.agg [AV.str h.nm,AV.i h.pe,AV.sl 25 (zc45l h l t g_1)]] (AV.agg [AV.i (inL (List.map decWn (zc45l h l t g_1))
  (zc45l h l t g_1).length),AV.i (inH (List.map decWn (zc45l h l t g_1)) (zc45l h l t g_1).length)])∧((!decide (zc45i l g_1 h t))=true->(!decide (zc45i l g_1 h t))=true)∧((!decide (zc45i l g_1 h t))=true->(!decide (zc45i
  l g_1 h t))=true)∧((!decide (zc45i l g_1 h t))=true->(!decide (zc45i l g_1 h t))=true)∧((zc45f l g_1 h t)=true->(zc45f l g_1 h t)=true)∧((zc45f l g_1 h t)=true->(zc45f l g_1 h t)=true)∧((zc45f l g_1 h t) =
  true->(zc45f l g_1 h t)=true)∧((zc45e l g_1 h t)=true->(zc45e l g_1 h t)=true)∧((zc45e l g_1 h t)=true->(zc45e l g_1 h t)=true)∧((zc45e l g_1 h t)=true->(zc45e l g_1 h t)=true)∧((zc45d l g_1 h t)=true →
  (zc45d l g_1 h t)=true)∧((zc45d l g_1 h t)=true->(zc45d l g_1 h t)=true)∧((zc45e l g_1 h t)=true->(zc45e l g_1 h t)=true)∧((zc45e l g_1 h t)=true->(inH (List.map decWn (zc45m h l g_1)) (zc45m h l g_1).length ==
  inH (List.map decWn (zc45l h l t g_1)) (zc45l h l t g_1).length)=true->(zc45d l g_1 h t)=true)∧((zc45f l g_1 h t)=true->(zc45f l g_1 h t)=true)∧((zc45f l g_1 h t)=true->decide (zc45a h l g_1 t)=false->(zc45e l
  g_1 h t)=true)∧((!decide (zc45i l g_1 h t))=true->(!decide (zc45i l g_1 h t))=true)∧((!decide (zc45i l g_1 h t))=true->(costN l (zc45b g_1) == costN l (zc45c h l t g_1))=true->(zc45f l g_1 h t)=true)∧(decide
  (zc45i l g_1 h t)=false->(!decide (zc45i l g_1 h t))=true)∧impB (zc45d l g_1 h t) (PCall Tryz.prog G0 125 [AV.sl 1 (zc45k g_1),AV.sl 1 (List.map encI (chO h l (bsN h l t g_1.fst)).s)] (AV.bool (lx (zc45b g_1) (zc45c h l t
  g_1))))∧((zc45h l g_1 h t)=true->In64 ((↑g_1.fst:Int)+1)∧∃ (g':Nat),g'<=pwN l.length∧pwN l.length-g' < pwN l.length-g∧AS.mk [(1,AV.sl 19 (List.map encMs l)),(2,AV.i t),(3,AV.elt 3 [(encHm h)] 0 0),(9,
  AV.sl 1 (zc45k g_1)),(10,AV.bool (bsN h l t g_1.fst).isSome),(11,AV.i (↑(pwN l.length):Int)),(13,AV.i ((↑g_1.fst:Int)+1))] [] 1=AS.mk (zc45g l t h g') [] 1)∧((zc45h l g_1 h t)=false->In64 ((↑g_1.fst:Int)+1) ∧
  ∃ (g':Nat),g'<=pwN l.length∧pwN l.length-g' < pwN l.length-g∧AS.mk (zc45o l t h g_1) [] 1=AS.mk (zc45g l t h g') [] 1)))))∧(decide ((g:Int) < (↑(pwN l.length):Int))=false->((!(bsN h l t g).isSome)=true →
  AV.tup [AV.sl 1 [],AV.i 0,AV.i 18]=AV.tup [AV.sl 1 (List.map encI (chO h l (bst h l t)).s),AV.i (chO h l (bst h l t)).c,AV.i (if (bst h l t).isSome=true then (0:Int) else (18:Int))])∧((!(bsN h l t g).isSome)=false →
  PCall Tryz.prog G0 124 [AV.sl 19 (List.map encMs l),AV.sl 1 (List.map encI (chO h l (bsN h l t g)).s)] (AV.i (costN l (List.map hdI (List.map encI (chO h l (bsN h l t g)).s))))∧AV.tup [AV.sl 1 (List.map encI (chO h l (bsN h l t
  g)).s),AV.i (costN l (List.map hdI (List.map encI (chO h l (bsN h l t g)).s))),AV.i 0]=AV.tup [AV.sl 1 (List.map encI (chO h l (bst h l t)).s),AV.i (chO h l (bst h l t)).c,AV.i (if (bst h l t).isSome=true then (0:Int)
  else (18:Int))]))):=by
   delta zc45a zc45b zc45c zc45d zc45e zc45f zc45g zc45h zc45i zc45j zc45k zc45l zc45m zc45n zc45o
   obtain ⟨y1,y2,y3⟩:=ms_z q1
   have hlm:(List.map encMs l).length=l.length:=List.length_map _
   have hpw:∀ k,k<=l.length->pwN k<=256:=fun k hk=>Nat.le_trans (Nat.pow_le_pow_right (by decide) (show k<=8 by omega)) (by decide)
   have:(List.map encMs l).length=l.length:=by simp only [List.length_map]
   refine ⟨⟨0,by omega,rfl⟩,fun g hg=>⟨fun hd=>?_,fun hd=>?_⟩⟩
   · have hlt:g < l.length:=by have h9:=of_decide_eq_true hd;have h8:=hg;(try simp only [List.length_map] at h8);(try simp only [List.length_map] at h9);omega
     have hp1:=hpw g (by omega)
     refine ⟨(by unfold In64;omega),(by unfold In64;omega),⟨g+1,by omega,by omega,?_⟩⟩
     · rw [show ((pwN (g+1):Nat):Int)=2 * ((pwN g:Nat):Int) by unfold pwN;rw [Nat.pow_succ];omega]
       rfl
   · have hge:g=l.length:=by have h9:=of_decide_eq_false hd;have h8:=hg;(try simp only [List.length_map] at h8);(try simp only [List.length_map] at h9);omega
     subst hge
     refine ⟨⟨0,by omega,rfl⟩,fun g hg2=>⟨fun hd2=>?_,fun hd2=>?_⟩⟩
     · have hlt2:g < pwN l.length:=by have h9:=of_decide_eq_true hd2;have h8:=hg2;(try simp only [List.length_map] at h8);(try simp only [List.length_map] at h9);omega
       have hbl2:=bits_len g l.length
       have hcb:=bs_len l g
       have hcl0:=ch_len h l (bsN h l t g)
       have hp2:=hpw l.length (Nat.le_refl _)
       refine ⟨(g,0),⟨by (try dsimp only);omega,by (try dsimp only);omega⟩,rfl,(by dsimp only;rw [Nat.pow_zero,Nat.div_one];rfl),fun g_1 hok3 hr3=>?_⟩
       · obtain ⟨i2,j2⟩:=g_1
         dsimp only at hok3 hr3 ⊢
         obtain ⟨hi2,hg3⟩:=hok3
         have hr4:g=i2:=hr3.symm
         subst hr4
         refine ⟨fun hd3=>?_,fun hd3=>?_⟩
         · have hlt3:j2 < l.length:=by have h9:=of_decide_eq_true hd3;have h8:=hg3;(try simp only [List.length_map] at h8);(try simp only [List.length_map] at h9);omega
           try rw [show (g:Int).toNat=g from Int.toNat_natCast g]
           have hbl:=bits_len g j2
           have hbm:(List.map encI (bitsM g j2)).length=(bitsM g j2).length:=List.length_map _
           have hdv:=Nat.div_le_self g (2 ^ j2)
           have hdv2:=half g j2
           have hdv4:=Int.natCast_nonneg (g / 2 ^ (j2+1))
           have hdv5:=Int.natCast_nonneg (g / 2 ^ j2)
           have hdv3:=Nat.div_le_self g (2 ^ (j2+1))
           refine ⟨(by decide),fun h1=>⟨(by omega),(by omega),(by decide),(by unfold In64;omega),(by unfold In64;omega),⟨(g,j2+1),⟨by (try dsimp only);omega,by (try dsimp only);omega⟩,rfl,(by (try dsimp only);omega),?_⟩⟩,fun h1=>⟨(by decide),(by unfold In64;omega),(by unfold In64;omega),⟨(g,j2+1),⟨by (try dsimp only);omega,by (try dsimp only);omega⟩,rfl,(by (try dsimp only);omega),?_⟩⟩⟩
           · dsimp only
             rw [half,show bitsM g (j2+1)=bitsM g j2++[(j2:Int)] from if_pos (by rw [<- bit_mod];exact h1),List.map_append,List.length_append]
             rfl
           · dsimp only
             rw [half,show bitsM g (j2+1)=bitsM g j2 from if_neg (by rw [<- bit_mod,h1];decide)]
             rfl
         · have hge3:j2=l.length:=by have h9:=of_decide_eq_false hd3;have h8:=hg3;(try simp only [List.length_map] at h8);(try simp only [List.length_map] at h9);omega
           subst hge3
           refine ⟨fun h=>h,fun h=>h,fun h=>h,fun h=>h,fun h=>h,fun h=>by first | exact h | (rw [h];rfl) | simp_all,((by rw [hd_encI];exact c31 l _ (by omega))),impB_iff.2 fun hb=>((by have q:fSet l (bitsM g l.length)=0:=(by rw [hd_encI] at hb;simpa using hb);rw [hd_encI];exact c36 h l _ t q1 q (by omega))),fun h1=>?_,fun h1=>?_⟩
           · have hq:=h1
             rw [hd_encI,<- bsM_e] at hq
             have hsk:=skip_e hq
             refine ⟨(by unfold In64;omega),⟨g+1,by omega,by omega,?_⟩⟩
             · first
                | (rw [hsk];rfl)
                | (rw [hst];rfl)
           · have hq:=h1
             rw [hd_encI,<- bsM_e] at hq
             obtain ⟨hfs,hfu⟩:=keep_z hq
             refine ⟨fun h2=>⟨(by unfold In64;omega),⟨g+1,by omega,by omega,?_⟩⟩,fun h2=>?_⟩
             · first
                | (rw [htk,show (bsN h l t g).isSome=true by simpa using hso,<- bsM_e];rfl)
                | (rw [take_e hfs (ta_none hfu (by assumption)),<- bsM_e];rfl)
             · have hso:=h2
               refine ⟨((by rw [hd_encI,<- bsM_e];exact c124 h.ws.length l _ y3 (ix_z (set_z hfs).1).1 (by omega))),((by rw [hd_encI];exact c124 h.ws.length l _ y3 (ix_z (set_z (bs_ok (by simpa using hso))).1).1 (by omega))),((by rw [hd_encI,<- bsM_e];exact c35 h l _ q1 hfs (by omega))),((by rw [hd_encI,<- bsM_e];exact p29 q1 hfs)),((by rw [hd_encI];exact c35 h l _ q1 (bs_ok (by simpa using hso)) (by omega))),((by rw [hd_encI];exact p29 q1 (bs_ok (by simpa using hso)))),fun h=>h,fun h=>h,fun h=>h,fun h=>h,fun h=>h,fun h=>h,fun h=>h,fun h=>h,fun h=>h,fun h=>h,fun h=>h,fun h=>h,fun h3=>fun h=>by first | exact h | (rw [h];rfl) | simp_all,fun h=>h,fun h3=>fun h=>by first | exact h | (rw [h];rfl) | simp_all,fun h=>h,fun h3=>fun h=>by first | exact h | (rw [h];rfl) | simp_all,fun h=>by first | exact h | (rw [h];rfl) | simp_all,impB_iff.2 fun hb=>((by rw [hd_encI,hd_encI];exact c125 _ _ (by omega) (by omega))),fun h3=>?_,fun h3=>?_⟩
               · have hr5:=h3
                 simp only [hd_encI,afH_ws,afU_e,<- bsM_e] at hr5
                 rw [(chO_c (by simpa using hso)).1,(chO_c (by simpa using hso)).2] at hr5
                 have htk:=take_e hfs ((ta_some hfu hso).trans hr5)
                 refine ⟨(by unfold In64;omega),⟨g+1,by omega,by omega,?_⟩⟩
                 · first
                    | (rw [htk,show (bsN h l t g).isSome=true by simpa using hso,<- bsM_e];rfl)
                    | (rw [take_e hfs (ta_none hfu (by assumption)),<- bsM_e];rfl)
               · have hr5:=h3
                 simp only [hd_encI,afH_ws,afU_e,<- bsM_e] at hr5
                 rw [(chO_c (by simpa using hso)).1,(chO_c (by simpa using hso)).2] at hr5
                 have hst:=stay_e hfs ((ta_some hfu hso).trans hr5)
                 refine ⟨(by unfold In64;omega),⟨g+1,by omega,by omega,?_⟩⟩
                 · first
                    | (rw [hsk];rfl)
                    | (rw [hst];rfl)
     · have hge2:g=pwN l.length:=by have h9:=of_decide_eq_false hd2;have h8:=hg2;(try simp only [List.length_map] at h8);(try simp only [List.length_map] at h9);omega
       subst hge2
       refine ⟨fun h1=>?_,fun h1=>?_⟩
       · show _=cW h l (bst h l t)
         rw [bst_e,none_of h1]
         rfl
       · have hso:=h1
         refine ⟨((by rw [hd_encI];exact c124 h.ws.length l _ y3 (ix_z (set_z (bs_ok (by simpa using hso))).1).1 (Nat.le_trans (ch_len h l _) (by omega)))),?_⟩
         · have hso:(bsN h l t (pwN l.length)).isSome=true:=by simpa using h1
           rw [hd_encI,(chO_c hso).1,bst_e,if_pos hso]
 exact c_of Tryz.f45 ({ gsB (fun i=>if i.beq 27 then [.nil 6 1] else []) (fzB (mkB (sp45 h l t) 45 [] (la45 h l t))) with bx:=fun i=>if i.beq 4 then [.frzo 14] else [] }) (by kernel_rfl) (by kernel_rfl) (by kernel_rfl) (by kernel_rfl) key (by kernel_rfl)
end Go.Proofs.YtfoeefaamjknpaaGreatDoor
namespace Go.Proofs.YtfoeefaamjknpaaGreatDoor
open Go Go.Av Go.RowKit
def la47 (l m:List Int):LA:={
 pre:=[.keep [0,1,5] [],.bound 1],post:=[.keep [0,1,5] [],.bound 1]
 Gh:=Nat
 st:=fun i=>⟨[(0,.sl 1 (l.map encI)),(1,.sl 1 (m.map encI)),(5,.i i)],[],1⟩
 ok:=fun i=>i<=l.length∧∀ j,j < i->l.getD j default=m.getD j default
 ms:=fun i=>l.length-i }
theorem c47 (l m:List Int) (hl:l.length<=1000):PCall Tryz.prog G0 47 [.sl 1 (l.map encI),.sl 1 (m.map encI)] (.bool (l == m)):=by
 have key :
  (((↑(List.map encI l).length:Int) != (↑(List.map encI m).length:Int))=true->AV.bool false=AV.bool (l == m))∧(((↑(List.map encI l).length:Int) != (↑(List.map encI m).length:Int))=false->(∃ (g:Nat),(g<=l.length
  ∧ ∀ (j:Nat),j < g->l.getD j default=m.getD j default)∧AS.mk [(0,AV.sl 1 (List.map encI l)),(1,AV.sl 1 (List.map encI m)),(5,AV.i 0)] [] 1=AS.mk [(0,AV.sl 1 (List.map encI l)),(1,AV.sl 1 (List.map encI m)),(5,
  AV.i (g:Int))] [] 1)∧∀ (g:Nat),(g<=l.length∧∀ (j:Nat),j < g->l.getD j default=m.getD j default)->(decide ((g:Int) < (↑(List.map encI l).length:Int))=true->(0:Int)<=(g:Int)∧(g:Int) < (↑(List.map
  encI l).length:Int)∧(0:Int)<=(g:Int)∧(g:Int) < (↑(List.map encI m).length:Int)∧nth (nthR (List.map encI l) (g:Int).toNat) 0=AV.i (cI (List.map encI l) (g:Int).toNat)∧nth (nthR (List.map encI m) (↑g :
  Int).toNat) 0=AV.i (cI (List.map encI m) (g:Int).toNat)∧((cI (List.map encI l) (g:Int).toNat != cI (List.map encI m) (g:Int).toNat)=true->AV.bool false=AV.bool (l == m))∧((cI (List.map encI l) (g:Int).toNat
  != cI (List.map encI m) (g:Int).toNat)=false->In64 ((g:Int)+1)∧∃ (g':Nat),(g'<=l.length∧∀ (j:Nat),j < g'->l.getD j default=m.getD j default)∧l.length-g' < l.length-g∧AS.mk [(0,AV.sl 1 (List.map
  encI l)),(1,AV.sl 1 (List.map encI m)),(5,AV.i ((g:Int)+1))] [] 1=AS.mk [(0,AV.sl 1 (List.map encI l)),(1,AV.sl 1 (List.map encI m)),(5,AV.i (↑g':Int))] [] 1))∧(decide ((g:Int) < (↑(List.map encI l).length :
  Int))=false->AV.bool true=AV.bool (l == m))):=by
   have hle:(List.map encI l).length=l.length:=List.length_map _
   have hme:(List.map encI m).length=m.length:=List.length_map _
   rw [hle,hme]
   refine ⟨fun h=>?_,fun h=>⟨⟨0,⟨by omega,by intros;omega⟩,rfl⟩,fun g ⟨hg,ha⟩=>⟨fun hd=>?_,fun hd=>?_⟩⟩⟩
   · have h1:l ≠ m:=fun e=>by rw [e] at h;exact absurd h (by simp)
     rw [beq_false_of_ne h1]
   · have h1:l.length=m.length:=by have h2:(l.length:Int)=(m.length:Int):=(by simpa using h);omega
     have hlt:=lt_of_dec hd
     have c1:=cI_map l g
     have c2:=cI_map m g
     refine ⟨by omega,by omega,by omega,by omega,cI_at hlt,cI_at (by omega),fun e=>?_,fun e=>⟨by unfold In64;omega,g+1,⟨hlt,fun j hj=>?_⟩,by omega,rfl⟩⟩
     · have e:(cI (List.map encI l) g != cI (List.map encI m) g)=true:=e
       rw [c1,c2] at e
       have h2:l ≠ m:=fun q=>by rw [q] at e;exact absurd e (by simp)
       rw [beq_false_of_ne h2]
     · have e:(cI (List.map encI l) g != cI (List.map encI m) g)=false:=e
       rw [c1,c2] at e
       by_cases q:j=g
       · rw [q];simpa using e
       · exact ha j (by omega)
   · have h1:l.length=m.length:=by have h2:(l.length:Int)=(m.length:Int):=(by simpa using h);omega
     have e:=ge_of_dec hd hg
     subst e
     have:l=m:=List.ext_getElem h1 fun i h2 h3=>by
      have:=ha i h2
      rw [List.getD_eq_getElem?_getD,List.getD_eq_getElem?_getD,List.getElem?_eq_getElem h2,List.getElem?_eq_getElem h3] at this
      exact this
     rw [this,beq_self_eq_true]
 exact c_of Tryz.f47 (mkB spC 47 [(6,3,rdJ),(6,7,rdJ)] (fun j=>if j.beq 0 then some (la47 l m) else none)) (by kernel_rfl) (by kernel_rfl) (by kernel_rfl) (by kernel_rfl) key (by kernel_rfl)
end Go.Proofs.YtfoeefaamjknpaaGreatDoor
namespace Go.Proofs.YtfoeefaamjknpaaGreatDoor
open Go Go.Av Go.RowKit
structure Of where
 hm:List UInt8
 zn:List UInt8
 g:List Int
 a:Int
 deriving Inhabited
def encOf (x:Of):List AV:=[.str x.hm,.str x.zn,.sl 1 (x.g.map encI),.i x.a]
def encLs (l:List Ms):List AV:=[.sl 19 (l.map encMs)]
def snA:List AV->List UInt8
 | .str s::_=>s
 | _=>[]
def decMs (l:List AV):Ms:=⟨snA l,ivA l 1,ivA l 2,ivA l 3,ivA l 4,ivA l 5,ivA l 6,ivA l 7,ivA l 8,ivA l 9,ivA l 10,ivA l 11,ivA l 12,ivA l 13,ivA l 14,ivA l 15,ivA l 16,ivA l 17,ivA l 18⟩
theorem decMs_e (x:Ms):decMs (encMs x)=x:=rfl
def lnO (l:List Of) (j:Nat):Bool:=if (if decide (((l.getD j default).hm.length:Int) > 40)=true then true else decide (((l.getD j default).zn.length:Int) > 40))=true then true else decide ((((l.getD j default).g.map encI).length:Int) > 9)
def shO (l:List Of):Bool:=if decide (fiN (lnO l) l.length < l.length)=true then false else if decide ((l.length:Int)<=6)=true then true else (l.length:Int) == 17
def la57 (l:List Of):LA:={
 pre:=[.keep [0,3] [],.bound 1],post:=[.keep [0,3] [],.bound 1]
 Gh:=Nat
 st:=fun i=>⟨[(0,.sl 4 (l.map encOf)),(3,.i i)],[],1⟩
 ok:=fun i=>i<=l.length∧∀ j,j < i->lnO l j=false
 ms:=fun i=>l.length-i }
abbrev zc57b (l:List Of) (g:Nat):=(↑(l.getD (g:Int).toNat default).hm.length:Int) > 40
abbrev zc57a (l:List Of) (g:Nat):=!if decide (zc57b l g)=true then true else decide ((↑(l.getD (g:Int).toNat default).zn.length:Int) > 40)
abbrev zc57c (l:List Of):=(↑(List.map encOf l).length:Int)
abbrev zc57d (l:List Of) (g:Nat):=(!decide (zc57b l g))=true->(!decide (zc57b l g))=true
abbrev zc57e (l:List Of) (g:Nat):=if (if decide (zc57b l g)=true then true else decide ((↑(l.getD (g:Int).toNat default).zn.length:Int) > 40))=true then true else decide ((↑(List.map encI (l.getD (g:Int).toNat default).g).length:Int) > 9)
theorem c57 (l:List Of) (hl:l.length<=maxLen):PCall Tryz.prog G0 57 [.sl 4 (l.map encOf)] (.bool (shO l)):=by
 have key :
  (∃ (g:Nat),(g<=l.length∧∀ (j:Nat),j < g->lnO l j=false)∧AS.mk [(0,AV.sl 4 (List.map encOf l)),(3,AV.i 0)] [] 1=AS.mk [(0,AV.sl 4 (List.map encOf l)),(3,AV.i (g:Int))] [] 1)∧∀ (g:Nat),(g<=l.length∧∀
  (j:Nat),j < g->lnO l j=false)->(decide ((g:Int) < (zc57c l))=true->(0:Int)<=(g:Int)∧(g:Int) < (zc57c l)∧(zc57d l g)∧(zc57d l g)∧((!decide (zc57b l g))=true->(0:Int)<=(g:Int))∧((!decide
  (zc57b l g))=true->(g:Int) < (zc57c l))∧(zc57d l g)∧(zc57d l g)∧(zc57d l g)∧(zc57d l g)∧(decide (zc57b l g)=false->(!decide (zc57b l g))=true)∧((zc57a l g)=true->(zc57a l g)=true)∧((zc57a l g)=true →
  (zc57a l g)=true)∧((zc57a l g)=true->(0:Int)<=(g:Int))∧((zc57a l g)=true->(g:Int) < (zc57c l))∧((zc57a l g)=true->(zc57a l g)=true)∧((zc57a l g)=true->(zc57a l g)=true)∧((zc57a l g)=true →
  (zc57a l g)=true)∧((zc57a l g)=true->(zc57a l g)=true)∧((if decide (zc57b l g)=true then true else decide ((↑(l.getD (g:Int).toNat default).zn.length:Int) > 40))=false->(zc57a l g)=true)∧nth (nthR (List.map
  encOf l) (g:Int).toNat) 0=AV.str (l.getD (g:Int).toNat default).hm∧impB (!decide (zc57b l g)) (nth (nthR (List.map encOf l) (g:Int).toNat) 1=AV.str (l.getD (g:Int).toNat default).zn)∧impB (zc57a l g) (nth (nthR
  (List.map encOf l) (g:Int).toNat) 2=AV.sl 1 (List.map encI (l.getD (g:Int).toNat default).g))∧((zc57e l g)=true->AV.bool false=AV.bool (shO l))∧((zc57e l g)=false->In64 ((g:Int)+1)∧∃ (g':Nat),(g' ≤
  l.length∧∀ (j:Nat),j < g'->lnO l j=false)∧l.length-g' < l.length-g∧AS.mk [(0,AV.sl 4 (List.map encOf l)),(3,AV.i ((g:Int)+1))] [] 1=AS.mk [(0,AV.sl 4 (List.map encOf l)),(3,AV.i (↑g':Int))] [] 1)) ∧
  (decide ((g:Int) < (zc57c l))=false->((!decide ((zc57c l)<=6))=true->(!decide ((zc57c l)<=6))=true)∧((!decide ((zc57c l)<=6))=true->(!decide ((zc57c l)<=6))=true)∧(decide ((zc57c l)<=6)=false->(!decide
  ((zc57c l)<=6))=true)∧AV.bool (if decide ((zc57c l)<=6)=true then true else (zc57c l) == 17)=AV.bool (shO l)):=by
   delta zc57a zc57b zc57c zc57d zc57e
   have hlm:(List.map encOf l).length=l.length:=List.length_map _
   have hmx:maxLen=9223372036854775807:=rfl
   have:(List.map encOf l).length=l.length:=by simp only [List.length_map]
   refine ⟨⟨0,⟨by omega,by intros;omega⟩,rfl⟩,fun g ⟨hg,ha⟩=>⟨fun hd=>?_,fun hd=>?_⟩⟩
   · have hlt:g < l.length:=by have h9:=of_decide_eq_true hd;have h8:=hg;(try simp only [List.length_map] at h8);(try simp only [List.length_map] at h9);omega
     try rw [show (g:Int).toNat=g from Int.toNat_natCast g]
     refine ⟨(by omega),(by omega),fun h=>h,fun h=>h,fun _=>by omega,fun _=>by omega,fun h=>h,fun h=>h,fun h=>h,fun h=>h,fun h=>by first | exact h | (rw [h];rfl) | simp_all,fun h=>h,fun h=>h,fun _=>by omega,fun _=>by omega,fun h=>h,fun h=>h,fun h=>h,fun h=>h,fun h=>by first | exact h | (rw [h];rfl) | simp_all,congrArg (fun r=>nth r 0) (row_at encOf hlt),impB_iff.2 fun hb=>congrArg (fun r=>nth r 1) (row_at encOf hlt),impB_iff.2 fun hb=>congrArg (fun r=>nth r 2) (row_at encOf hlt),fun h1=>?_,fun h1=>⟨(by unfold In64;omega),⟨g+1,⟨by omega,all_ext ha h1⟩,by omega,rfl⟩⟩⟩
     · rw [shO,if_pos (decide_eq_true (fi_ex (p:=lnO l) hlt h1))]
   · have hge:g=l.length:=by have h9:=of_decide_eq_false hd;have h8:=hg;(try simp only [List.length_map] at h8);(try simp only [List.length_map] at h9);omega
     subst hge
     refine ⟨fun h=>h,fun h=>h,fun h=>by first | exact h | (rw [h];rfl) | simp_all,?_⟩
     · have e:shO l=(if decide ((l.length:Int)<=6)=true then true else (l.length:Int) == 17):=if_neg (by rw [fi_none ha];simp)
       rw [hlm,e]
 exact c_of Tryz.f57 (fzB (mkB spW 57 [(4,4,rdL 4 encOf l 1 false),(4,12,rdL 4 encOf l 1 false),(4,21,rdL 4 encOf l 1 false)] (la0 (la57 l)))) (by kernel_rfl) (by kernel_rfl) (by kernel_rfl) (by kernel_rfl) key (by kernel_rfl)
def bdH (hs:List Hm) (j:Nat):Bool:=!shH (hs.getD j default)
def bdM (ms:List (List Ms)) (j:Nat):Bool:=!shM (ms.getD j [])
def shHs (hs:List Hm) (ms:List (List Ms)):Bool:=if decide (fiN (bdH hs) hs.length < hs.length)=true then false else if decide (fiN (bdM ms) ms.length < ms.length)=true then false else if (if decide ((hs.length:Int)<=4)=true then true else (hs.length:Int) == 17)=true then decide ((ms.length:Int)<=5) else false
def sp56:Nat->List AV->Option AV
 | 14,[.agg [.str s,.int _ _,.sl _ rows]]=>some (.bool (if decide ((s.length:Int)<=40)=true then decide ((rows.length:Int)<=9) else false))
 | 15,[.sl _ rows]=>some (.bool (shM (rows.map decMs)))
 | n,x=>spW n x
def la56 (hs:List Hm) (ms:List (List Ms)) (b:Nat):Option LA:=if b.beq 0 then some {
 pre:=[.keep [0,1,5] [],.bound 1],post:=[.keep [0,1,5] [],.bound 1]
 Gh:=Nat
 st:=fun i=>⟨[(0,.sl 3 (hs.map encHm)),(1,.sl 1 (ms.map encLs)),(5,.i i)],[],1⟩
 ok:=fun i=>i<=hs.length∧∀ j,j < i->bdH hs j=false
 ms:=fun i=>hs.length-i }
 else if b.beq 2 then some {
  pre:=[.keep [0,1,6] [],.bound 1],post:=[.keep [0,1,6] [],.bound 1]
  Gh:=Nat
  st:=fun i=>⟨[(0,.sl 3 (hs.map encHm)),(1,.sl 1 (ms.map encLs)),(6,.i i)],[],1⟩
  ok:=fun i=>i<=ms.length∧∀ j,j < i->bdM ms j=false
  ms:=fun i=>ms.length-i }
 else none
abbrev zc56b (hs:List Hm):=(↑(List.map encHm hs).length:Int)
abbrev zc56a (hs:List Hm):=if decide ((zc56b hs)<=4)=true then true else (zc56b hs) == 17
abbrev zc56c (hs:List Hm) (g:Nat):=!if decide ((↑(hs.getD (g:Int).toNat default).nm.length:Int)<=40)=true then decide ((↑(List.map encWn (hs.getD (g:Int).toNat default).ws).length:Int)<=9) else false
theorem c56 (hs:List Hm) (ms:List (List Ms)) (hh:hs.length<=maxLen) (hm:ms.length<=maxLen) (hml:∀ x,x ∈ ms->x.length<=maxLen):PCall Tryz.prog G0 56 [.sl 3 (hs.map encHm),.sl 1 (ms.map encLs)] (.bool (shHs hs ms)):=by
 have key :
  (∃ (g:Nat),(g<=hs.length∧∀ (j:Nat),j < g->bdH hs j=false)∧AS.mk [(0,AV.sl 3 (List.map encHm hs)),(1,AV.sl 1 (List.map encLs ms)),(5,AV.i 0)] [] 1=AS.mk [(0,AV.sl 3 (List.map encHm hs)),(1,AV.sl 1 (List.map
  encLs ms)),(5,AV.i (g:Int))] [] 1)∧∀ (g:Nat),(g<=hs.length∧∀ (j:Nat),j < g->bdH hs j=false)->(decide ((g:Int) < (zc56b hs))=true->(0:Int)<=(g:Int)∧(g:Int) < (zc56b hs)∧AV.agg (nthR (List.map
  encHm hs) (g:Int).toNat)=AV.agg (encHm (hs.getD (g:Int).toNat default))∧PCall Tryz.prog G0 14 [AV.agg (encHm (hs.getD (g:Int).toNat default))] (AV.bool (if decide ((↑(hs.getD (g:Int).toNat default).nm.length:Int)
  ≤ 40)=true then decide ((↑(List.map encWn (hs.getD (g:Int).toNat default).ws).length:Int)<=9) else false))∧((zc56c hs g)=true->AV.bool false=AV.bool (shHs hs ms))∧((zc56c hs g)=false->In64 ((g:Int)+1)∧∃
  (g':Nat),(g'<=hs.length∧∀ (j:Nat),j < g'->bdH hs j=false)∧hs.length-g' < hs.length-g∧AS.mk [(0,AV.sl 3 (List.map encHm hs)),(1,AV.sl 1 (List.map encLs ms)),(5,AV.i ((g:Int)+1))] [] 1=AS.mk [(0,AV.sl
  3 (List.map encHm hs)),(1,AV.sl 1 (List.map encLs ms)),(5,AV.i (↑g':Int))] [] 1))∧(decide ((g:Int) < (zc56b hs))=false->(∃ (g:Nat),(g<=ms.length∧∀ (j:Nat),j < g->bdM ms j=false)∧AS.mk [(0,AV.sl 3
  (List.map encHm hs)),(1,AV.sl 1 (List.map encLs ms)),(6,AV.i 0)] [] 1=AS.mk [(0,AV.sl 3 (List.map encHm hs)),(1,AV.sl 1 (List.map encLs ms)),(6,AV.i (g:Int))] [] 1)∧∀ (g:Nat),(g<=ms.length∧∀ (j:Nat),j < g →
  bdM ms j=false)->(decide ((g:Int) < (↑(List.map encLs ms).length:Int))=true->(0:Int)<=(g:Int)∧(g:Int) < (↑(List.map encLs ms).length:Int)∧nth (nthR (List.map encLs ms) (g:Int).toNat) 0=AV.sl 19
  (List.map encMs (ms.getD (g:Int).toNat []))∧PCall Tryz.prog G0 15 [AV.sl 19 (List.map encMs (ms.getD (g:Int).toNat []))] (AV.bool (shM (List.map decMs (List.map encMs (ms.getD (g:Int).toNat [])))))∧((!shM (List.map
  decMs (List.map encMs (ms.getD (g:Int).toNat []))))=true->AV.bool false=AV.bool (shHs hs ms))∧((!shM (List.map decMs (List.map encMs (ms.getD (g:Int).toNat []))))=false->In64 ((g:Int)+1)∧∃ (g':Nat),(g' ≤
  ms.length∧∀ (j:Nat),j < g'->bdM ms j=false)∧ms.length-g' < ms.length-g∧AS.mk [(0,AV.sl 3 (List.map encHm hs)),(1,AV.sl 1 (List.map encLs ms)),(6,AV.i ((g:Int)+1))] [] 1=AS.mk [(0,AV.sl 3 (List.map encHm
  hs)),(1,AV.sl 1 (List.map encLs ms)),(6,AV.i (↑g':Int))] [] 1))∧(decide ((g:Int) < (↑(List.map encLs ms).length:Int))=false->((!decide ((zc56b hs)<=4))=true->(!decide ((zc56b hs)<=4))=true)∧((!decide
  ((zc56b hs)<=4))=true->(!decide ((zc56b hs)<=4))=true)∧(decide ((zc56b hs)<=4)=false->(!decide ((zc56b hs)<=4))=true)∧((zc56a hs)=true->(zc56a hs)=true)∧((zc56a hs)=true->(zc56a hs)=true)∧((zc56a hs)
  = true->(zc56a hs)=true)∧AV.bool (if (zc56a hs)=true then decide ((↑(List.map encLs ms).length:Int)<=5) else false)=AV.bool (shHs hs ms))):=by
   delta zc56a zc56b zc56c
   have hmx:maxLen=9223372036854775807:=rfl
   have:(List.map encHm hs).length=hs.length:=by simp only [List.length_map]
   have:(List.map encLs ms).length=ms.length:=by simp only [List.length_map]
   refine ⟨⟨0,⟨by omega,by intros;omega⟩,rfl⟩,fun g ⟨hg,ha⟩=>⟨fun hd=>?_,fun hd=>?_⟩⟩
   · have hlt:g < hs.length:=by have h9:=of_decide_eq_true hd;have h8:=hg;(try simp only [List.length_map] at h8);(try simp only [List.length_map] at h9);omega
     try rw [show (g:Int).toNat=g from Int.toNat_natCast g]
     refine ⟨(by omega),(by omega),congrArg AV.agg (row_at encHm hlt),((by rw [List.length_map];exact c14 _)),fun h1=>?_,fun h1=>⟨(by unfold In64;omega),⟨g+1,⟨by omega,all_ext ha (by rw [List.length_map] at h1;exact h1)⟩,by omega,rfl⟩⟩⟩
     · first
        | rw [shHs,if_pos (decide_eq_true (fi_ex (p:=bdH hs) hlt (by rw [List.length_map] at h1;exact h1)))]
        | rw [shHs,if_neg (by rw [fi_none ha];simp),if_pos (decide_eq_true (fi_ex (p:=bdM ms) hlt2 (by rw [map_dec decMs_e] at h1;exact h1)))]
   · have hge:g=hs.length:=by have h9:=of_decide_eq_false hd;have h8:=hg;(try simp only [List.length_map] at h8);(try simp only [List.length_map] at h9);omega
     subst hge
     refine ⟨⟨0,⟨by omega,by intros;omega⟩,rfl⟩,fun g ⟨hg2,ha2⟩=>⟨fun hd2=>?_,fun hd2=>?_⟩⟩
     · have hlt2:g < ms.length:=by have h9:=of_decide_eq_true hd2;have h8:=hg2;(try simp only [List.length_map] at h8);(try simp only [List.length_map] at h9);omega
       try rw [show (g:Int).toNat=g from Int.toNat_natCast g]
       refine ⟨(by omega),(by omega),congrArg (fun r=>nth r 0) (row_at encLs hlt2),((by rw [map_dec decMs_e];exact c15 _ (hml _ (getD_mem hlt2)))),fun h1=>?_,fun h1=>⟨(by unfold In64;omega),⟨g+1,⟨by omega,all_ext ha2 (by rw [map_dec decMs_e] at h1;exact h1)⟩,by omega,rfl⟩⟩⟩
       · first
          | rw [shHs,if_pos (decide_eq_true (fi_ex (p:=bdH hs) hlt (by rw [List.length_map] at h1;exact h1)))]
          | rw [shHs,if_neg (by rw [fi_none ha];simp),if_pos (decide_eq_true (fi_ex (p:=bdM ms) hlt2 (by rw [map_dec decMs_e] at h1;exact h1)))]
     · have hge2:g=ms.length:=by have h9:=of_decide_eq_false hd2;have h8:=hg2;(try simp only [List.length_map] at h8);(try simp only [List.length_map] at h9);omega
       subst hge2
       refine ⟨fun h=>h,fun h=>h,fun h=>by first | exact h | (rw [h];rfl) | simp_all,fun h=>h,fun h=>h,fun h=>h,?_⟩
       · have e:shHs hs ms=(if (if decide ((hs.length:Int)<=4)=true then true else (hs.length:Int) == 17)=true then decide ((ms.length:Int)<=5) else false):=by rw [shHs,if_neg (by rw [fi_none ha];simp),if_neg (by rw [fi_none ha2];simp)]
         rw [List.length_map,List.length_map,e]
 exact c_of Tryz.f56 (fzB (mkB sp56 56 [(4,3,rdL 3 encHm hs 3 true),(9,3,rdL 1 encLs ms 1 false)] (la56 hs ms))) (by kernel_rfl) (by kernel_rfl) (by kernel_rfl) (by kernel_rfl) key (by kernel_rfl)
def la59 (hs:List Hm):LA:={
 pre:=[.own 3 39 3,.reno 3 1,.keep [3,6,7,8] [1],.bound 2],post:=[.reno 3 1,.keep [3,6,7,8] [1],.bound 2]
 Gh:=Nat
 st:=fun i=>⟨[(3,.own 1 ((hs.take i).map encHm).length),(6,.sl 3 (hs.map encHm)),(7,.i (hs.map encHm).length),(8,.i i)],[(1,.buf 39 3 ((hs.take i).map encHm))],2⟩
 ok:=fun i=>i<=hs.length
 ms:=fun i=>hs.length-i }
def sp59:Nat->List AV->Option AV
 | 18,[.agg c]=>some (.agg c)
 | 140,[.agg c]=>some (.agg c)
 | 22,[.sl _ rows]=>some (.sl 19 rows)
 | n,x=>spW n x
theorem c59 (hs:List Hm) (hh:hs.length<=1000) (hw:∀ h,h ∈ hs->h.ws.length<=1000):PCall Tryz.prog G0 59 [.sl 3 (hs.map encHm)] (.fresh 39 3 (hs.map encHm)):=by
 have key :
  (∃ (g:Nat),g<=hs.length∧AS.mk [(3,AV.own 1 0),(6,AV.sl 3 (List.map encHm hs)),(7,AV.i (↑(List.map encHm hs).length:Int)),(8,AV.i 0)] [(1,ABlk.buf 39 3 [])] 2=AS.mk [(3,AV.own 1 (List.map encHm (List.take g
  hs)).length),(6,AV.sl 3 (List.map encHm hs)),(7,AV.i (↑(List.map encHm hs).length:Int)),(8,AV.i (g:Int))] [(1,ABlk.buf 39 3 (List.map encHm (List.take g hs)))] 2)∧∀ (g:Nat),g<=hs.length->(decide ((g:Int) <
  (↑(List.map encHm hs).length:Int))=true->(0:Int)<=(g:Int)∧(g:Int) < (↑(List.map encHm hs).length:Int)∧AV.agg (nthR (List.map encHm hs) (g:Int).toNat)=AV.agg (encHm (hs.getD (g:Int).toNat default)) ∧
  (List.map encHm (List.take g hs)).length+1<=9223372036854775807∧((List.map encHm (List.take g hs)).length+1) * 48<=140737488355328∧PCall Tryz.prog G0 18 [AV.agg (encHm (hs.getD (g:Int).toNat default))] (AV.agg (encHm
  (hs.getD (g:Int).toNat default)))∧In64 ((g:Int)+1)∧∃ (g':Nat),g'<=hs.length∧hs.length-g' < hs.length-g∧AS.mk [(3,AV.own 1 ((List.map encHm (List.take g hs)).length+1)),(6,AV.sl 3 (List.map encHm hs)),
  (7,AV.i (↑(List.map encHm hs).length:Int)),(8,AV.i ((g:Int)+1))] [(1,ABlk.buf 39 3 (List.map encHm (List.take g hs)++[(encHm (hs.getD (g:Int).toNat default))]))] 2=AS.mk [(3,AV.own 1 (List.map encHm (List.take g'
  hs)).length),(6,AV.sl 3 (List.map encHm hs)),(7,AV.i (↑(List.map encHm hs).length:Int)),(8,AV.i (↑g':Int))] [(1,ABlk.buf 39 3 (List.map encHm (List.take g' hs)))] 2)∧(decide ((g:Int) < (↑(List.map encHm hs).length :
  Int))=false->AV.fresh 39 3 (List.map encHm (List.take g hs))=AV.fresh 39 3 (List.map encHm hs)):=by
   have:(List.map encHm hs).length=hs.length:=by simp only [List.length_map]
   refine ⟨⟨0,by omega,rfl⟩,fun g hg=>⟨fun hd=>?_,fun hd=>?_⟩⟩
   · have hlt:g < hs.length:=by have h9:=of_decide_eq_true hd;have h8:=hg;(try simp only [List.length_map] at h8);(try simp only [List.length_map] at h9);omega
     have:(List.map encHm (List.take g hs)).length=g:=by simp only [List.length_map,List.length_take];omega
     try rw [show (g:Int).toNat=g from Int.toNat_natCast g]
     refine ⟨(by omega),(by omega),congrArg AV.agg (row_at encHm hlt),(by omega),(by omega),(c18 _ (hw _ (getD_mem hlt))),(by unfold In64;omega),⟨g+1,by omega,by omega,?_⟩⟩
     · first | (rw [<- take_succ_map _ _ hlt,List.length_append];rfl) | (rw [<- take_succ _ hlt,List.length_append];rfl)
   · have hge:g=hs.length:=by have h9:=of_decide_eq_false hd;have h8:=hg;(try simp only [List.length_map] at h8);(try simp only [List.length_map] at h9);omega
     subst hge
     exact (by rw [List.take_length])
 exact c_of Tryz.f59 (fzB (mkB sp59 59 [(4,1,rdL 3 encHm hs 3 true)] (la0 (la59 hs)))) (by kernel_rfl) (by kernel_rfl) (by kernel_rfl) (by kernel_rfl) key (by kernel_rfl)
def la60 (ms:List (List Ms)):LA:={
 pre:=[.own 3 48 1,.reno 3 1,.keep [3,6,7,8] [1],.bound 2],post:=[.reno 3 1,.keep [3,6,7,8] [1],.bound 2]
 Gh:=Nat
 st:=fun i=>⟨[(3,.own 1 ((ms.take i).map encLs).length),(6,.sl 1 (ms.map encLs)),(7,.i (ms.map encLs).length),(8,.i i)],[(1,.buf 48 1 ((ms.take i).map encLs))],2⟩
 ok:=fun i=>i<=ms.length
 ms:=fun i=>ms.length-i }
theorem c60 (ms:List (List Ms)) (hh:ms.length<=1000) (hw:∀ x,x ∈ ms->x.length<=1000):PCall Tryz.prog G0 60 [.sl 1 (ms.map encLs)] (.fresh 48 1 (ms.map encLs)):=by
 have key :
  (∃ (g:Nat),g<=ms.length∧AS.mk [(3,AV.own 1 0),(6,AV.sl 1 (List.map encLs ms)),(7,AV.i (↑(List.map encLs ms).length:Int)),(8,AV.i 0)] [(1,ABlk.buf 48 1 [])] 2=AS.mk [(3,AV.own 1 (List.map encLs (List.take g
  ms)).length),(6,AV.sl 1 (List.map encLs ms)),(7,AV.i (↑(List.map encLs ms).length:Int)),(8,AV.i (g:Int))] [(1,ABlk.buf 48 1 (List.map encLs (List.take g ms)))] 2)∧∀ (g:Nat),g<=ms.length->(decide ((g:Int) <
  (↑(List.map encLs ms).length:Int))=true->(0:Int)<=(g:Int)∧(g:Int) < (↑(List.map encLs ms).length:Int)∧nth (nthR (List.map encLs ms) (g:Int).toNat) 0=AV.sl 19 (List.map encMs (ms.getD (g:Int).toNat [])) ∧
  (List.map encLs (List.take g ms)).length+1<=9223372036854775807∧((List.map encLs (List.take g ms)).length+1) * 24<=140737488355328∧PCall Tryz.prog G0 22 [AV.sl 19 (List.map encMs (ms.getD (g:Int).toNat []))] (AV.sl 19
  (List.map encMs (ms.getD (g:Int).toNat [])))∧In64 ((g:Int)+1)∧∃ (g':Nat),g'<=ms.length∧ms.length-g' < ms.length-g∧AS.mk [(3,AV.own 1 ((List.map encLs (List.take g ms)).length+1)),(6,AV.sl 1 (List.map
  encLs ms)),(7,AV.i (↑(List.map encLs ms).length:Int)),(8,AV.i ((g:Int)+1))] [(1,ABlk.buf 48 1 (List.map encLs (List.take g ms)++[[AV.sl 19 (List.map encMs (ms.getD (g:Int).toNat []))]]))] 2=AS.mk [(3,AV.own 1
  (List.map encLs (List.take g' ms)).length),(6,AV.sl 1 (List.map encLs ms)),(7,AV.i (↑(List.map encLs ms).length:Int)),(8,AV.i (↑g':Int))] [(1,ABlk.buf 48 1 (List.map encLs (List.take g' ms)))] 2)∧(decide ((g:Int) <
  (↑(List.map encLs ms).length:Int))=false->AV.fresh 48 1 (List.map encLs (List.take g ms))=AV.fresh 48 1 (List.map encLs ms)):=by
   have:(List.map encLs ms).length=ms.length:=by simp only [List.length_map]
   refine ⟨⟨0,by omega,rfl⟩,fun g hg=>⟨fun hd=>?_,fun hd=>?_⟩⟩
   · have hlt:g < ms.length:=by have h9:=of_decide_eq_true hd;have h8:=hg;(try simp only [List.length_map] at h8);(try simp only [List.length_map] at h9);omega
     have:(List.map encLs (List.take g ms)).length=g:=by simp only [List.length_map,List.length_take];omega
     try rw [show (g:Int).toNat=g from Int.toNat_natCast g]
     refine ⟨(by omega),(by omega),congrArg (fun r=>nth r 0) (row_at encLs hlt),(by omega),(by omega),((c22 _ (hw _ (getD_mem hlt))).un),(by unfold In64;omega),⟨g+1,by omega,by omega,?_⟩⟩
     · first | (rw [<- take_succ_map _ _ hlt,List.length_append];rfl) | (rw [<- take_succ _ hlt,List.length_append];rfl)
   · have hge:g=ms.length:=by have h9:=of_decide_eq_false hd;have h8:=hg;(try simp only [List.length_map] at h8);(try simp only [List.length_map] at h9);omega
     subst hge
     exact (by rw [List.take_length])
 exact c_of Tryz.f60 (fzB (mkB sp59 60 [(4,1,rdL 1 encLs ms 1 false)] (la0 (la60 ms)))) (by kernel_rfl) (by kernel_rfl) (by kernel_rfl) (by kernel_rfl) key (by kernel_rfl)
theorem c140 (x:Of) (hg0:x.g.length<=1000):PCall Tryz.prog G0 140 [.agg (encOf x)] (.agg (encOf x)):=by
 have key :
  0+(List.map encI x.g).length<=9223372036854775807∧(0+(List.map encI x.g).length) * 8<=140737488355328∧AV.agg [AV.str x.hm,AV.str x.zn,AV.sl 1 ([]++List.map encI x.g),AV.i x.a]=AV.agg (encOf x):=by
   have:(List.map encI x.g).length=x.g.length:=by simp only [List.length_map]
   refine ⟨(by omega),(by omega),?_⟩
   · rfl
 exact c_of Tryz.f140 (fzB (mkB spW 140 [] noLa)) (by kernel_rfl) (by kernel_rfl) (by kernel_rfl) (by kernel_rfl) key (by kernel_rfl)
def la62 (l:List Of):LA:={
 pre:=[.own 3 160 4,.reno 3 1,.keep [3,6,7,8] [1],.bound 2],post:=[.reno 3 1,.keep [3,6,7,8] [1],.bound 2]
 Gh:=Nat
 st:=fun i=>⟨[(3,.own 1 ((l.take i).map encOf).length),(6,.sl 4 (l.map encOf)),(7,.i (l.map encOf).length),(8,.i i)],[(1,.buf 160 4 ((l.take i).map encOf))],2⟩
 ok:=fun i=>i<=l.length
 ms:=fun i=>l.length-i }
theorem c62 (l:List Of) (hl:l.length<=1000) (hgl:∀ x,x ∈ l->x.g.length<=1000):PCall Tryz.prog G0 62 [.sl 4 (l.map encOf)] (.fresh 160 4 (l.map encOf)):=by
 have key :
  (∃ (g:Nat),g<=l.length∧AS.mk [(3,AV.own 1 0),(6,AV.sl 4 (List.map encOf l)),(7,AV.i (↑(List.map encOf l).length:Int)),(8,AV.i 0)] [(1,ABlk.buf 160 4 [])] 2=AS.mk [(3,AV.own 1 (List.map encOf (List.take g
  l)).length),(6,AV.sl 4 (List.map encOf l)),(7,AV.i (↑(List.map encOf l).length:Int)),(8,AV.i (g:Int))] [(1,ABlk.buf 160 4 (List.map encOf (List.take g l)))] 2)∧∀ (g:Nat),g<=l.length->(decide ((g:Int) <
  (↑(List.map encOf l).length:Int))=true->(0:Int)<=(g:Int)∧(g:Int) < (↑(List.map encOf l).length:Int)∧AV.agg (nthR (List.map encOf l) (g:Int).toNat)=AV.agg (encOf (l.getD (g:Int).toNat default)) ∧
  (List.map encOf (List.take g l)).length+1<=9223372036854775807∧((List.map encOf (List.take g l)).length+1) * 64<=140737488355328∧PCall Tryz.prog G0 140 [AV.agg (encOf (l.getD (g:Int).toNat default))] (AV.agg (encOf
  (l.getD (g:Int).toNat default)))∧In64 ((g:Int)+1)∧∃ (g':Nat),g'<=l.length∧l.length-g' < l.length-g∧AS.mk [(3,AV.own 1 ((List.map encOf (List.take g l)).length+1)),(6,AV.sl 4 (List.map encOf l)),(7,
  AV.i (↑(List.map encOf l).length:Int)),(8,AV.i ((g:Int)+1))] [(1,ABlk.buf 160 4 (List.map encOf (List.take g l)++[(encOf (l.getD (g:Int).toNat default))]))] 2=AS.mk [(3,AV.own 1 (List.map encOf (List.take g'
  l)).length),(6,AV.sl 4 (List.map encOf l)),(7,AV.i (↑(List.map encOf l).length:Int)),(8,AV.i (↑g':Int))] [(1,ABlk.buf 160 4 (List.map encOf (List.take g' l)))] 2)∧(decide ((g:Int) < (↑(List.map encOf l).length :
  Int))=false->AV.fresh 160 4 (List.map encOf (List.take g l))=AV.fresh 160 4 (List.map encOf l)):=by
   have:(List.map encOf l).length=l.length:=by simp only [List.length_map]
   refine ⟨⟨0,by omega,rfl⟩,fun g hg=>⟨fun hd=>?_,fun hd=>?_⟩⟩
   · have hlt:g < l.length:=by have h9:=of_decide_eq_true hd;have h8:=hg;(try simp only [List.length_map] at h8);(try simp only [List.length_map] at h9);omega
     have:(List.map encOf (List.take g l)).length=g:=by simp only [List.length_map,List.length_take];omega
     try rw [show (g:Int).toNat=g from Int.toNat_natCast g]
     refine ⟨(by omega),(by omega),congrArg AV.agg (row_at encOf hlt),(by omega),(by omega),(c140 _ (hgl _ (getD_mem hlt))),(by unfold In64;omega),⟨g+1,by omega,by omega,?_⟩⟩
     · first | (rw [<- take_succ_map _ _ hlt,List.length_append];rfl) | (rw [<- take_succ _ hlt,List.length_append];rfl)
   · have hge:g=l.length:=by have h9:=of_decide_eq_false hd;have h8:=hg;(try simp only [List.length_map] at h8);(try simp only [List.length_map] at h9);omega
     subst hge
     exact (by rw [List.take_length])
 exact c_of Tryz.f62 (fzB (mkB sp59 62 [(4,1,rdL 4 encOf l 4 true)] (la0 (la62 l)))) (by kernel_rfl) (by kernel_rfl) (by kernel_rfl) (by kernel_rfl) key (by kernel_rfl)
def la67 (l:List Of):LA:={
 pre:=[.own 3 164 4,.reno 3 1,.keep [3,6,7,8] [1],.bound 2],post:=[.reno 3 1,.keep [3,6,7,8] [1],.bound 2]
 Gh:=Nat
 st:=fun i=>⟨[(3,.own 1 ((l.take i).map encOf).length),(6,.sl 4 (l.map encOf)),(7,.i (l.map encOf).length),(8,.i i)],[(1,.buf 164 4 ((l.take i).map encOf))],2⟩
 ok:=fun i=>i<=l.length
 ms:=fun i=>l.length-i }
theorem c67 (l:List Of) (hl:l.length<=1000):PCall Tryz.prog G0 67 [.sl 4 (l.map encOf)] (.fresh 164 4 (l.map encOf)):=by
 have key :
  (∃ (g:Nat),g<=l.length∧AS.mk [(3,AV.own 1 0),(6,AV.sl 4 (List.map encOf l)),(7,AV.i (↑(List.map encOf l).length:Int)),(8,AV.i 0)] [(1,ABlk.buf 164 4 [])] 2=AS.mk [(3,AV.own 1 (List.map encOf (List.take g
  l)).length),(6,AV.sl 4 (List.map encOf l)),(7,AV.i (↑(List.map encOf l).length:Int)),(8,AV.i (g:Int))] [(1,ABlk.buf 164 4 (List.map encOf (List.take g l)))] 2)∧∀ (g:Nat),g<=l.length->(decide ((g:Int) <
  (↑(List.map encOf l).length:Int))=true->(0:Int)<=(g:Int)∧(g:Int) < (↑(List.map encOf l).length:Int)∧AV.agg (nthR (List.map encOf l) (g:Int).toNat)=AV.agg (encOf (l.getD (g:Int).toNat default)) ∧
  (List.map encOf (List.take g l)).length+1<=9223372036854775807∧((List.map encOf (List.take g l)).length+1) * 64<=140737488355328∧In64 ((g:Int)+1)∧∃ (g':Nat),g'<=l.length∧l.length-g' < l.length-g∧AS.mk
  [(3,AV.own 1 ((List.map encOf (List.take g l)).length+1)),(6,AV.sl 4 (List.map encOf l)),(7,AV.i (↑(List.map encOf l).length:Int)),(8,AV.i ((g:Int)+1))] [(1,ABlk.buf 164 4 (List.map encOf (List.take g l)++[(encOf
  (l.getD (g:Int).toNat default))]))] 2=AS.mk [(3,AV.own 1 (List.map encOf (List.take g' l)).length),(6,AV.sl 4 (List.map encOf l)),(7,AV.i (↑(List.map encOf l).length:Int)),(8,AV.i (↑g':Int))] [(1,ABlk.buf 164 4
  (List.map encOf (List.take g' l)))] 2)∧(decide ((g:Int) < (↑(List.map encOf l).length:Int))=false->AV.fresh 164 4 (List.map encOf (List.take g l))=AV.fresh 164 4 (List.map encOf l)):=by
   have:(List.map encOf l).length=l.length:=by simp only [List.length_map]
   refine ⟨⟨0,by omega,rfl⟩,fun g hg=>⟨fun hd=>?_,fun hd=>?_⟩⟩
   · have hlt:g < l.length:=by have h9:=of_decide_eq_true hd;have h8:=hg;(try simp only [List.length_map] at h8);(try simp only [List.length_map] at h9);omega
     have:(List.map encOf (List.take g l)).length=g:=by simp only [List.length_map,List.length_take];omega
     try rw [show (g:Int).toNat=g from Int.toNat_natCast g]
     refine ⟨(by omega),(by omega),congrArg AV.agg (row_at encOf hlt),(by omega),(by omega),(by unfold In64;omega),⟨g+1,by omega,by omega,?_⟩⟩
     · first | (rw [<- take_succ_map _ _ hlt,List.length_append];rfl) | (rw [<- take_succ _ hlt,List.length_append];rfl)
   · have hge:g=l.length:=by have h9:=of_decide_eq_false hd;have h8:=hg;(try simp only [List.length_map] at h8);(try simp only [List.length_map] at h9);omega
     subst hge
     exact (by rw [List.take_length])
 exact c_of Tryz.f67 (fzB (mkB spW 67 [(4,1,rdL 4 encOf l 4 true)] (la0 (la67 l)))) (by kernel_rfl) (by kernel_rfl) (by kernel_rfl) (by kernel_rfl) key (by kernel_rfl)
def pFH (hs:List Hm) (s:List UInt8) (j:Nat):Bool:=(hs.getD j default).nm == s
def la141 (hs:List Hm) (s:List UInt8):LA:={
 pre:=[.keep [0,1,5] [],.bound 1],post:=[.keep [0,1,5] [],.bound 1]
 Gh:=Nat
 st:=fun i=>⟨[(0,.sl 3 (hs.map encHm)),(1,.str s),(5,.i i)],[],1⟩
 ok:=fun i=>i<=hs.length∧∀ j,j < i->pFH hs s j=false
 ms:=fun i=>hs.length-i }
theorem c141 (hs:List Hm) (s:List UInt8) (hh:hs.length<=1000):PCall Tryz.prog G0 141 [.sl 3 (hs.map encHm),.str s] (.i (fiI (pFH hs s) hs.length)):=by
 have key :
  (∃ (g:Nat),(g<=hs.length∧∀ (j:Nat),j < g->pFH hs s j=false)∧AS.mk [(0,AV.sl 3 (List.map encHm hs)),(1,AV.str s),(5,AV.i 0)] [] 1=AS.mk [(0,AV.sl 3 (List.map encHm hs)),(1,AV.str s),(5,AV.i (g:Int))] []
  1)∧∀ (g:Nat),(g<=hs.length∧∀ (j:Nat),j < g->pFH hs s j=false)->(decide ((g:Int) < (↑(List.map encHm hs).length:Int))=true->(0:Int)<=(g:Int)∧(g:Int) < (↑(List.map encHm hs).length:Int)∧nth (nthR
  (List.map encHm hs) (g:Int).toNat) 0=AV.str (hs.getD (g:Int).toNat default).nm∧(((hs.getD (g:Int).toNat default).nm == s)=true->AV.i (g:Int)=AV.i (fiI (pFH hs s) hs.length))∧(((hs.getD (g:Int).toNat
  default).nm == s)=false->In64 ((g:Int)+1)∧∃ (g':Nat),(g'<=hs.length∧∀ (j:Nat),j < g'->pFH hs s j=false)∧hs.length-g' < hs.length-g∧AS.mk [(0,AV.sl 3 (List.map encHm hs)),(1,AV.str s),(5,AV.i ((↑g
  : Int)+1))] [] 1=AS.mk [(0,AV.sl 3 (List.map encHm hs)),(1,AV.str s),(5,AV.i (↑g':Int))] [] 1))∧(decide ((g:Int) < (↑(List.map encHm hs).length:Int))=false->AV.i (-1)=AV.i (fiI (pFH hs s) hs.length)):=by
   have:(List.map encHm hs).length=hs.length:=by simp only [List.length_map]
   refine ⟨⟨0,⟨by omega,by intros;omega⟩,rfl⟩,fun g ⟨hg,ha⟩=>⟨fun hd=>?_,fun hd=>?_⟩⟩
   · have hlt:g < hs.length:=by have h9:=of_decide_eq_true hd;have h8:=hg;(try simp only [List.length_map] at h8);(try simp only [List.length_map] at h9);omega
     try rw [show (g:Int).toNat=g from Int.toNat_natCast g]
     refine ⟨(by omega),(by omega),congrArg (fun r=>nth r 0) (row_at encHm hlt),fun h1=>?_,fun h1=>⟨(by unfold In64;omega),⟨g+1,⟨by omega,all_ext ha h1⟩,by omega,rfl⟩⟩⟩
     · rw [fiI,fi_some ha h1 hlt,if_neg (by omega)]
   · have hge:g=hs.length:=by have h9:=of_decide_eq_false hd;have h8:=hg;(try simp only [List.length_map] at h8);(try simp only [List.length_map] at h9);omega
     subst hge
     rw [fiI,fi_none ha,if_pos rfl]
 exact c_of Tryz.f141 (fzB (mkB spW 141 [(4,4,rdL 3 encHm hs 1 false)] (la0 (la141 hs s)))) (by kernel_rfl) (by kernel_rfl) (by kernel_rfl) (by kernel_rfl) key (by kernel_rfl)
def sameO (x y:Of):Bool:=if (if (if (x.hm == y.hm)=true then x.zn == y.zn else false)=true then x.a == y.a else false)=true then x.g == y.g else false
def sp89:Nat->List AV->Option AV
 | 47,[.sl _ a,.sl _ b]=>some (.bool (a.map hdI == b.map hdI))
 | n,x=>spW n x
abbrev zc89a (x:Of) (y:Of):=if (x.hm == y.hm)=true then x.zn == y.zn else false
abbrev zc89b (x:Of) (y:Of):=(if (zc89a x y)=true then x.a == y.a else false)=true->(if (zc89a x y)=true then x.a == y.a else false)=true
theorem c89 (x y:Of) (hg0:x.g.length<=1000):PCall Tryz.prog G0 89 [.agg (encOf x),.agg (encOf y)] (.bool (sameO x y)):=by
 have key :
  ((x.hm == y.hm)=true->(x.hm == y.hm)=true)∧((x.hm == y.hm)=true->(x.hm == y.hm)=true)∧((x.hm == y.hm)=true->(x.hm == y.hm)=true)∧((x.hm == y.hm)=true->(x.hm == y.hm)=true)∧((x.hm == y.hm)=true->(x.hm
  == y.hm)=true)∧((zc89a x y)=true->(zc89a x y)=true)∧((zc89a x y)=true->(zc89a x y)=true)∧((zc89a x y)=true->(zc89a x y)=true)∧((zc89a x y)=true->(zc89a x y)=true)∧((zc89a x y)=true->(zc89a x y) =
  true)∧(zc89b x y)∧(zc89b x y)∧(zc89b x y)∧(zc89b x y)∧(zc89b x y)∧impB (if (zc89a x y)=true then x.a == y.a else false) (PCall Tryz.prog G0 47 [AV.sl 1 (List.map encI x.g),AV.sl 1 (List.map encI y.g)] (AV.bool
  (List.map hdI (List.map encI x.g) == List.map hdI (List.map encI y.g))))∧AV.bool (if (if (zc89a x y)=true then x.a == y.a else false)=true then List.map hdI (List.map encI x.g) == List.map hdI (List.map encI y.g) else false)
  = AV.bool (sameO x y):=by
   delta zc89a zc89b
   refine ⟨fun h=>h,fun h=>h,fun h=>h,fun h=>h,fun h=>h,fun h=>h,fun h=>h,fun h=>h,fun h=>h,fun h=>h,fun h=>h,fun h=>h,fun h=>h,fun h=>h,fun h=>h,impB_iff.2 fun hb=>((by rw [hd_encI,hd_encI];exact c47 _ _ hg0)),?_⟩
   · rw [hd_encI,hd_encI]
     rfl
 exact c_of Tryz.f89 (fzB (mkB sp89 89 [] noLa)) (by kernel_rfl) (by kernel_rfl) (by kernel_rfl) (by kernel_rfl) key (by kernel_rfl)
def dfO (a b:List Of) (j:Nat):Bool:=!sameO (a.getD j default) (b.getD j default)
def sameOs (a b:List Of):Bool:=if ((a.length:Int) != (b.length:Int))=true then false else !decide (fiN (dfO a b) a.length < a.length)
def decOf:List AV->Of
 | [.str a,.str b,.sl _ g,.int _ n]=>⟨a,b,g.map hdI,n⟩
 | _=>default
theorem decOf_e (x:Of):decOf (encOf x)=x:=by
 show Of.mk x.hm x.zn ((x.g.map encI).map hdI) x.a=x
 rw [hd_encI]
def sp66:Nat->List AV->Option AV
 | 89,[.agg a,.agg b]=>some (.bool (sameO (decOf a) (decOf b)))
 | n,x=>spW n x
def la66 (a b:List Of):LA:={
 pre:=[.keep [0,1,5] [],.bound 1],post:=[.keep [0,1,5] [],.bound 1]
 Gh:=Nat
 st:=fun i=>⟨[(0,.sl 4 (a.map encOf)),(1,.sl 4 (b.map encOf)),(5,.i i)],[],1⟩
 ok:=fun i=>i<=a.length∧∀ j,j < i->dfO a b j=false
 ms:=fun i=>a.length-i }
theorem c66 (a b:List Of) (ha0:a.length<=1000) (hgl:∀ x,x ∈ a->x.g.length<=1000):PCall Tryz.prog G0 66 [.sl 4 (a.map encOf),.sl 4 (b.map encOf)] (.bool (sameOs a b)):=by
 have key :
  (((↑(List.map encOf a).length:Int) != (↑(List.map encOf b).length:Int))=true->AV.bool false=AV.bool (sameOs a b))∧(((↑(List.map encOf a).length:Int) != (↑(List.map encOf b).length:Int))=false->(∃ (g:Nat),(g ≤
  a.length∧∀ (j:Nat),j < g->dfO a b j=false)∧AS.mk [(0,AV.sl 4 (List.map encOf a)),(1,AV.sl 4 (List.map encOf b)),(5,AV.i 0)] [] 1=AS.mk [(0,AV.sl 4 (List.map encOf a)),(1,AV.sl 4 (List.map encOf b)),(5,AV.i (↑g
  : Int))] [] 1)∧∀ (g:Nat),(g<=a.length∧∀ (j:Nat),j < g->dfO a b j=false)->(decide ((g:Int) < (↑(List.map encOf a).length:Int))=true->(0:Int)<=(g:Int)∧(g:Int) < (↑(List.map encOf a).length:Int) ∧
  (0:Int)<=(g:Int)∧(g:Int) < (↑(List.map encOf b).length:Int)∧AV.agg (nthR (List.map encOf a) (g:Int).toNat)=AV.agg (encOf (a.getD (g:Int).toNat default))∧AV.agg (nthR (List.map encOf b) (g:Int).toNat) =
  AV.agg (encOf (b.getD (g:Int).toNat default))∧PCall Tryz.prog G0 89 [AV.agg (encOf (a.getD (g:Int).toNat default)),AV.agg (encOf (b.getD (g:Int).toNat default))] (AV.bool (sameO (decOf (encOf (a.getD (g:Int).toNat
  default))) (decOf (encOf (b.getD (g:Int).toNat default)))))∧((!sameO (decOf (encOf (a.getD (g:Int).toNat default))) (decOf (encOf (b.getD (g:Int).toNat default))))=true->AV.bool false=AV.bool (sameOs a b)) ∧
  ((!sameO (decOf (encOf (a.getD (g:Int).toNat default))) (decOf (encOf (b.getD (g:Int).toNat default))))=false->In64 ((g:Int)+1)∧∃ (g':Nat),(g'<=a.length∧∀ (j:Nat),j < g'->dfO a b j=false)∧a.length-g'
  < a.length-g∧AS.mk [(0,AV.sl 4 (List.map encOf a)),(1,AV.sl 4 (List.map encOf b)),(5,AV.i ((g:Int)+1))] [] 1=AS.mk [(0,AV.sl 4 (List.map encOf a)),(1,AV.sl 4 (List.map encOf b)),(5,AV.i (↑g':Int))] [] 1)) ∧
  (decide ((g:Int) < (↑(List.map encOf a).length:Int))=false->AV.bool true=AV.bool (sameOs a b))):=by
   have:(List.map encOf a).length=a.length:=by simp only [List.length_map]
   have:(List.map encOf b).length=b.length:=by simp only [List.length_map]
   refine ⟨fun h1=>?_,fun h1=>?_⟩
   · first
      | rw [sameOs,if_pos (by simpa only [List.length_map] using h1)]
      | (rw [sameOs,if_neg (by rw [List.length_map,List.length_map] at h1;rw [h1];decide),decide_eq_true (fi_ex (p:=dfO a b) hlt (by rw [decOf_e,decOf_e] at h2;exact h2))];rfl)
   · have hab:a.length=b.length:=by have:=bne_eq_false_iff_eq.1 h1;simp only [List.length_map] at this;omega
     refine ⟨⟨0,⟨by omega,by intros;omega⟩,rfl⟩,fun g ⟨hg,ha⟩=>⟨fun hd=>?_,fun hd=>?_⟩⟩
     · have hlt:g < a.length:=by have h9:=of_decide_eq_true hd;have h8:=hg;(try simp only [List.length_map] at h8);(try simp only [List.length_map] at h9);omega
       try rw [show (g:Int).toNat=g from Int.toNat_natCast g]
       refine ⟨(by omega),(by omega),(by omega),(by omega),congrArg AV.agg (row_at encOf hlt),(congrArg AV.agg (row_at encOf (by omega))),((by rw [decOf_e,decOf_e];exact c89 _ _ (hgl _ (getD_mem hlt)))),fun h2=>?_,fun h2=>⟨(by unfold In64;omega),⟨g+1,⟨by omega,all_ext ha (by rw [decOf_e,decOf_e] at h2;exact h2)⟩,by omega,rfl⟩⟩⟩
       · first
          | rw [sameOs,if_pos (by simpa only [List.length_map] using h1)]
          | (rw [sameOs,if_neg (by rw [List.length_map,List.length_map] at h1;rw [h1];decide),decide_eq_true (fi_ex (p:=dfO a b) hlt (by rw [decOf_e,decOf_e] at h2;exact h2))];rfl)
     · have hge:g=a.length:=by have h9:=of_decide_eq_false hd;have h8:=hg;(try simp only [List.length_map] at h8);(try simp only [List.length_map] at h9);omega
       subst hge
       rw [sameOs,if_neg (by rw [List.length_map,List.length_map] at h1;rw [h1];decide),fi_none ha,decide_eq_false (Nat.lt_irrefl _)]
       rfl
 exact c_of Tryz.f66 (fzB (mkB sp66 66 [(6,3,rdL 4 encOf a 4 true),(6,7,rdL 4 encOf b 4 true)] (la0 (la66 a b)))) (by kernel_rfl) (by kernel_rfl) (by kernel_rfl) (by kernel_rfl) key (by kernel_rfl)
end Go.Proofs.YtfoeefaamjknpaaGreatDoor
namespace Go.Proofs.YtfoeefaamjknpaaGreatDoor
open Go Go.Av Go.RowKit Go.ChangeShapes Go.WideShapes
theorem hm_row {r:List AV} (h:ASh T0 6 24 r):∃ x:Hm,r=encHm x∧True:=by
 have:=ash_shape 6 24 r (by kernel_rfl) h
 rw [show shapeT T0 6 24=[.str,.int .i64,.sl 4 177 25] by kernel_rfl] at this
 obtain ⟨_,_,rfl,⟨s,rfl,_⟩,_,_,rfl,⟨p,rfl,_⟩,_,_,rfl,⟨rw,rfl,hl,hr⟩,rfl⟩:=this
 obtain ⟨ws,rfl,_⟩:=rows_enc (enc:=encWn) (Q:=fun _=>True) (fun r hm=>wn_of (by kernel_rfl) (by kernel_rfl) (hr r hm))
 exact ⟨⟨s,p,ws⟩,rfl,trivial⟩
theorem ls_row {r:List AV} (h:ASh T0 6 25 r):∃ x:List Ms,r=encLs x∧x.length<=maxLen:=by
 have:=ash_shape 6 25 r (by kernel_rfl) h
 rw [show shapeT T0 6 25=[.sl 5 155 19] by kernel_rfl] at this
 obtain ⟨_,_,rfl,⟨rw,rfl,hl,hr⟩,rfl⟩:=this
 obtain ⟨l,rfl,_⟩:=rows_enc (enc:=encMs) (Q:=fun _=>True) (fun r hm=>ms_of (by kernel_rfl) (by kernel_rfl) (hr r hm))
 exact ⟨l,rfl,by simpa using hl⟩
theorem strt_arg {a:AV} (h:ASh1 T0 8 94 a):∃ (hs:List Hm) (ms:List (List Ms)),a=.agg [.sl 3 (hs.map encHm),.sl 1 (ms.map encLs)]∧hs.length<=maxLen∧ms.length<=maxLen∧∀ x,x ∈ ms->x.length<=maxLen:=by
 obtain ⟨l,rfl,h2⟩:=ash1_agg (cs:=[.sl 6 24 3,.sl 6 25 1])
  (ti:=⟨(.struct [(0,91,1),(1,92,1)]),2,48,true,[.ex (.slice none 0 0),.ex (.slice none 0 0)],true⟩)
  (by kernel_rfl) rfl (by kernel_rfl) (by kernel_rfl) h
 obtain ⟨_,_,rfl,⟨ra,rfl,hla,hra⟩,_,_,rfl,⟨rb,rfl,hlb,hrb⟩,rfl⟩:=h2
 obtain ⟨hs,rfl,_⟩:=rows_enc (enc:=encHm) (Q:=fun _=>True) (fun r hm=>hm_row (hra r hm))
 obtain ⟨ms,rfl,hq⟩:=rows_enc (enc:=encLs) (Q:=fun x=>x.length<=maxLen) (fun r hm=>ls_row (hrb r hm))
 exact ⟨hs,ms,rfl,by simpa using hla,by simpa using hlb,hq⟩
theorem of_row {r:List AV} (h:ASh T0 7 164 r):∃ x:Of,r=encOf x∧True:=by
 have:=ash_shape 7 164 r (by kernel_rfl) h
 rw [show shapeT T0 7 164=[.str,.str,.sl 5 3 1,.int .i64] by kernel_rfl] at this
 obtain ⟨_,_,rfl,⟨s,rfl,_⟩,_,_,rfl,⟨t,rfl,_⟩,_,_,rfl,⟨rw,rfl,hl,hr⟩,_,_,rfl,⟨n,rfl,_⟩,rfl⟩:=this
 obtain ⟨g,rfl,_⟩:=rows_enc (enc:=encI) (Q:=fun _=>True) (fun r hm=>iw_of (by kernel_rfl) (by kernel_rfl) (hr r hm))
 exact ⟨⟨s,t,g,n⟩,rfl,trivial⟩
theorem ofs_arg {a:AV} (h:ASh1 T0 8 95 a):∃ l:List Of,a=.sl 4 (l.map encOf)∧l.length<=maxLen:=by
 obtain ⟨rows,rfl,hl,hr⟩:=ash1_one (c:=.sl 7 164 4) (ti:=⟨(.slice 164 4 64),1,24,false,[.ex (.slice none 0 0)],false⟩) (by kernel_rfl) rfl (by kernel_rfl) (by kernel_rfl) h
 obtain ⟨l,rfl,_⟩:=rows_enc (enc:=encOf) (Q:=fun _=>True) (fun r hm=>of_row (hr r hm))
 exact ⟨l,rfl,by simpa using hl⟩
end Go.Proofs.YtfoeefaamjknpaaGreatDoor
namespace Go.Proofs.YtfoeefaamjknpaaGreatDoor
open Go Go.Av Go.RowKit
def le2 (x y:Ch):Prop:=x.c < y.c ∨ (x.c=y.c∧x.u<=y.u)
theorem rc_t {x y:Ch} (h:rcB x y=true):le2 x y:=by
 unfold rcB at h
 unfold le2
 split at h
 · rename_i h1
   exact .inl (of_decide_eq_true h1)
 · split at h
   · rename_i h2
     have h2:=eq_of_beq h2
     split at h
     · rename_i h3
       have:=of_decide_eq_true h3
       exact .inr ⟨h2,by omega⟩
     · split at h
       · rename_i h4
         exact .inr ⟨h2,Int.le_of_eq (eq_of_beq h4)⟩
       · cases h
   · cases h
theorem tb_t {h:Hm} {l:List Ms} {t:Int} {o:Option Nat} {b:Nat} (e:taB h l t o b=true):afU h l (bsM l b)<=t∧∀ a,o=some a->le2 (chM h l (bsM l b)) (chM h l (bsM l a)):=by
 unfold taB at e
 split at e
 · rename_i h1
   refine ⟨of_decide_eq_true h1,fun a ha=>?_⟩
   subst ha
   rw [if_neg (show ¬ (!(some a).isSome)=true from Bool.false_ne_true),cmC_r] at e
   exact rc_t e
 · cases e
theorem fold_u {h:Hm} {l:List Ms} {t:Int}:∀ (xs:List Nat) (o:Option Nat),(∀ a,o=some a->afU h l (bsM l a)<=t)->∀ a,xs.foldl (stB h l t) o=some a->afU h l (bsM l a)<=t
 | [],_,ho,a,e=>ho a e
 | x::xs,o,ho,a,e=>by
  refine fold_u xs (stB h l t o x) (fun b hb=>?_) a e
  unfold stB at hb
  split at hb
  · rename_i h1
    injection hb with hb
    rw [<- hb]
    exact (tb_t h1).1
  · exact ho b hb
theorem fold_mem {h:Hm} {l:List Ms} {t:Int}:∀ (xs:List Nat) (o:Option Nat) (a:Nat),xs.foldl (stB h l t) o=some a->a ∈ xs ∨ o=some a
 | [],_,_,e=>.inr e
 | x::xs,o,a,e=>by
  rcases fold_mem xs (stB h l t o x) a e with h1 | h1
  · exact .inl (List.mem_cons_of_mem _ h1)
  · unfold stB at h1
    split at h1
    · injection h1 with h1
      exact .inl (by rw [h1];exact List.mem_cons_self ..)
    · exact .inr h1
theorem bst_some {h:Hm} {l:List Ms} {t:Int} {a:Nat} (e:bst h l t=some a):a ∈ msk l∧fSet l (bsM l a)=0∧afU h l (bsM l a)<=t:=by
 have h1:a ∈ msk l:=by
  rcases fold_mem (msk l) none a e with h1 | h1
  · exact h1
  · cases h1
 exact ⟨h1,msk_z h1,fold_u (msk l) none (fun _ h=>by cases h) a e⟩
end Go.Proofs.YtfoeefaamjknpaaGreatDoor
