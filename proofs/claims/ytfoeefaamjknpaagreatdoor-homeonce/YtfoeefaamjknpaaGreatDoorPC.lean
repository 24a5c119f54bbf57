/-
  The outdoor energy of a home, the reference's. The reference's balance of a fund, and entries of the program's own: contracts. The zone of an energy, and whether a home is eligible: both sides. HomeFunds returns true. No condition but the theorems' own.
-/
import Derived.Test.YtfoeefaamjknpaaGreatDoorPB
import Derived.Test.YtfoeefaamjknpaaGreatDoorAvD
namespace Go.Proofs.YtfoeefaamjknpaaGreatDoor
open Go Go.Av Go.RowKit
end Go.Proofs.YtfoeefaamjknpaaGreatDoor
namespace Go.Proofs.YtfoeefaamjknpaaGreatDoor
open Go Go.Av Go.RowKit
def pS (rs:List (List UInt8)) (s:List UInt8) (i:Nat):Bool:=rs.getD i default == s
def rdN (f:Nat->List UInt8):List AV->Option AV
 | [.elt _ _ i _]=>some (.str (f i))
 | _=>none
def dS (rows:List (List AV)):List (List UInt8):=rows.map fun r=>match r with
 | [.str x]=>x
 | _=>[]
theorem dS_e (ws:List (List UInt8)):dS (ws.map encS)=ws:=by
 unfold dS
 rw [List.map_map]
 exact (List.map_congr_left fun x _=>rfl).trans (List.map_id ws)
def hwR (rows:List (List AV)) (s:List UInt8):Bool:=hasK (knS (dS rows)) (.str s)
theorem fi_any (rs:List (List UInt8)) (s:List UInt8):decide (fiN (pS rs s) rs.length < rs.length)=hasK (knS rs) (.str s):=by
 unfold knS
 rw [has_map (fun s=>s)]
 cases h:rs.any fun a=>a == s with
 | true =>
  obtain ⟨x,hx,e⟩:=List.any_eq_true.1 h
  obtain ⟨i,hi,ex⟩:=List.mem_iff_getElem.1 hx
  refine decide_eq_true (fi_ex (p:=pS rs s) hi ?_)
  unfold pS
  rw [List.getD_eq_getElem?_getD,List.getElem?_eq_getElem hi,ex]
  exact e
 | false =>
  refine decide_eq_false ?_
  rw [fi_none fun j hj=>?_]
  · exact Nat.lt_irrefl _
  · have:=List.any_eq_false.1 h (rs.getD j default) (getD_mem hj)
    unfold pS
    simpa using this
def la111 (rs:List (List UInt8)) (s:List UInt8):LA:={
 pre:=[.keep [0,1,5] [],.bound 1],post:=[.keep [0,1,5] [],.bound 1]
 Gh:=Nat
 st:=fun i=>⟨[(0,.sl 1 (rs.map encS)),(1,.str s),(5,.i i)],[],1⟩
 ok:=fun i=>i<=rs.length∧∀ j,j < i->pS rs s j=false
 ms:=fun i=>rs.length-i }
theorem c111 (rs:List (List UInt8)) (s:List UInt8) (hl:rs.length<=1000):PCall Tryz.prog G0 111 [.sl 1 (rs.map encS),.str s] (.bool (decide (fiN (pS rs s) rs.length < rs.length))):=by
 have key :
  (∃ (g:Nat),(g<=rs.length∧∀ (j:Nat),j < g->pS rs s j=false)∧AS.mk [(0,AV.sl 1 (List.map encS rs)),(1,AV.str s),(5,AV.i 0)] [] 1=AS.mk [(0,AV.sl 1 (List.map encS rs)),(1,AV.str s),(5,AV.i (g:Int))] [] 1)
  ∧ ∀ (g:Nat),(g<=rs.length∧∀ (j:Nat),j < g->pS rs s j=false)->(decide ((g:Int) < (↑(List.map encS rs).length:Int))=true->(0:Int)<=(g:Int)∧(g:Int) < (↑(List.map encS rs).length:Int)∧nth (nthR
  (List.map encS rs) (g:Int).toNat) 0=AV.str (rs.getD (g:Int).toNat [])∧((rs.getD (g:Int).toNat [] == s)=true->AV.bool true=AV.bool (decide (fiN (pS rs s) rs.length < rs.length)))∧((rs.getD (g:Int).toNat [] ==
  s)=false->In64 ((g:Int)+1)∧∃ (g':Nat),(g'<=rs.length∧∀ (j:Nat),j < g'->pS rs s j=false)∧rs.length-g' < rs.length-g∧AS.mk [(0,AV.sl 1 (List.map encS rs)),(1,AV.str s),(5,AV.i ((g:Int)+1))] []
  1=AS.mk [(0,AV.sl 1 (List.map encS rs)),(1,AV.str s),(5,AV.i (↑g':Int))] [] 1))∧(decide ((g:Int) < (↑(List.map encS rs).length:Int))=false->AV.bool false=AV.bool (decide (fiN (pS rs s) rs.length < rs.length)))
  := by
   have hlm:(List.map encS rs).length=rs.length:=List.length_map _
   refine ⟨⟨0,⟨by omega,by intros;omega⟩,rfl⟩,fun g ⟨hg,ha⟩=>⟨fun hd=>?_,fun hd=>?_⟩⟩
   · rw [hlm] at hd
     have hlt:=lt_of_dec hd
     refine ⟨by omega,by omega,by rw [show nthR (List.map encS rs) ((g:Int)).toNat=encS (rs.getD g default) from row_at encS hlt];rfl,fun hx=>?_,fun hx=>⟨by unfold In64;omega,g+1,⟨hlt,fun j hj=>?_⟩,by omega,rfl⟩⟩
     · rw [decide_eq_true (fi_ex (p:=pS rs s) hlt hx)]
     · by_cases e:j=g
       · rw [e];exact hx
       · exact ha j (by omega)
   · rw [hlm] at hd
     have e:=ge_of_dec hd hg
     subst e
     rw [fi_none ha,decide_eq_false (Nat.lt_irrefl _)]
 exact c_of Tryz.f111 (mkB spN 111 [(4,3,rdN fun i=>rs.getD i default)] (fun j=>if j.beq 0 then some (la111 rs s) else none)) (by kernel_rfl) (by kernel_rfl) (by kernel_rfl) (by kernel_rfl) key (by kernel_rfl)
theorem c111h (rs:List (List UInt8)) (s:List UInt8) (hl:rs.length<=1000):PCall Tryz.prog G0 111 [.sl 1 (rs.map encS),.str s] (.bool (hwR (rs.map encS) s)):=by
 rw [hwR,dS_e,<- fi_any]
 exact c111 rs s hl
end Go.Proofs.YtfoeefaamjknpaaGreatDoor
namespace Go.Proofs.YtfoeefaamjknpaaGreatDoor
open Go Go.Av Go.RowKit
def la18 (h:Hm):LA:={
 pre:=[.reno 3 3,.ownb 3 2 189 25,.renc 3 2 4,.keep [2,3,12,13,14] [2,3,4],.bound 5],post:=[.renc 3 2 4,.keep [2,3,12,13,14] [2,3,4],.bound 5]
 Gh:=Nat
 st:=fun i=>⟨[(2,.ptr 2 0),(3,.ptr 3 0),(12,.sl 25 (h.ws.map encWn)),(13,.i (h.ws.map encWn).length),(14,.i i)],[(2,.box [.str [],.i 0,.ex (.slice none 0 0)]),(3,.box [.str h.nm,.i h.pe,.own 4 ((h.ws.take i).map encWn).length]),(4,.buf 189 25 ((h.ws.take i).map encWn))],5⟩
 ok:=fun i=>i<=h.ws.length
 ms:=fun i=>h.ws.length-i }
abbrev zc18a (h:Hm):=(↑(List.map encWn h.ws).length:Int)
theorem c18 (h:Hm) (hl:h.ws.length<=1000):PCall Tryz.prog G0 18 [.agg (encHm h)] (.agg (encHm h)):=by
 have key :
  (∃ (g:Nat),g<=h.ws.length∧AS.mk [(2,AV.ptr 2 0),(3,AV.ptr 3 0),(12,AV.sl 25 (List.map encWn h.ws)),(13,AV.i (zc18a h)),(14,AV.i 0)] [(2,ABlk.box [AV.str [],AV.i 0,AV.ex (Value.slice none 0 0)]),(3,ABlk.box
  [AV.str h.nm,AV.i h.pe,AV.own 4 0]),(4,ABlk.buf 189 25 [])] 5=AS.mk [(2,AV.ptr 2 0),(3,AV.ptr 3 0),(12,AV.sl 25 (List.map encWn h.ws)),(13,AV.i (zc18a h)),(14,AV.i (g:Int))] [(2,ABlk.box [AV.str [],AV.i 0,AV.ex
  (Value.slice none 0 0)]),(3,ABlk.box [AV.str h.nm,AV.i h.pe,AV.own 4 (List.map encWn (List.take g h.ws)).length]),(4,ABlk.buf 189 25 (List.map encWn (List.take g h.ws)))] 5)∧∀ (g:Nat),g<=h.ws.length->(decide ((↑g :
  Int) < (zc18a h))=true->(0:Int)<=(g:Int)∧(g:Int) < (zc18a h)∧AV.agg (nthR (List.map encWn h.ws) (g:Int).toNat)=AV.agg (encWn (h.ws.getD (g:Int).toNat default))∧(List.map encWn (List.take g h.ws)).length +
  1<=9223372036854775807∧((List.map encWn (List.take g h.ws)).length+1) * 200<=140737488355328∧In64 ((g:Int)+1)∧∃ (g':Nat),g'<=h.ws.length∧h.ws.length-g' < h.ws.length-g∧AS.mk [(2,AV.ptr 2 0),(3,AV.ptr 3
  0),(12,AV.sl 25 (List.map encWn h.ws)),(13,AV.i (zc18a h)),(14,AV.i ((g:Int)+1))] [(2,ABlk.box [AV.str [],AV.i 0,AV.ex (Value.slice none 0 0)]),(3,ABlk.box [AV.str h.nm,AV.i h.pe,AV.own 4 ((List.map encWn
  (List.take g h.ws)).length+1)]),(4,ABlk.buf 189 25 (List.map encWn (List.take g h.ws)++[(encWn (h.ws.getD (g:Int).toNat default))]))] 5=AS.mk [(2,AV.ptr 2 0),(3,AV.ptr 3 0),(12,AV.sl 25 (List.map encWn h.ws)),(13,
  AV.i (zc18a h)),(14,AV.i (↑g':Int))] [(2,ABlk.box [AV.str [],AV.i 0,AV.ex (Value.slice none 0 0)]),(3,ABlk.box [AV.str h.nm,AV.i h.pe,AV.own 4 (List.map encWn (List.take g' h.ws)).length]),(4,ABlk.buf 189 25 (List.map
  encWn (List.take g' h.ws)))] 5)∧(decide ((g:Int) < (zc18a h))=false->AV.agg [AV.str h.nm,AV.i h.pe,AV.sl 25 (List.map encWn (List.take g h.ws))]=AV.agg (encHm h)):=by
   delta zc18a
   have hlm:(List.map encWn h.ws).length=h.ws.length:=List.length_map _
   have:(List.map encWn h.ws).length=h.ws.length:=by simp only [List.length_map]
   refine ⟨⟨0,by omega,rfl⟩,fun g hg=>⟨fun hd=>?_,fun hd=>?_⟩⟩
   · have hlt:g < h.ws.length:=by have h9:=of_decide_eq_true hd;have h8:=hg;(try simp only [List.length_map] at h8);(try simp only [List.length_map] at h9);omega
     have:(List.map encWn (List.take g h.ws)).length=g:=by simp only [List.length_map,List.length_take];omega
     try rw [show (g:Int).toNat=g from Int.toNat_natCast g]
     refine ⟨(by omega),(by omega),congrArg AV.agg (row_at encWn hlt),(by omega),(by omega),(by unfold In64;omega),⟨g+1,by omega,by omega,?_⟩⟩
     · first | (rw [<- take_succ_map _ _ hlt,List.length_append];rfl) | (rw [<- take_succ _ hlt,List.length_append];rfl)
   · have hge:g=h.ws.length:=by have h9:=of_decide_eq_false hd;have h8:=hg;(try simp only [List.length_map] at h8);(try simp only [List.length_map] at h9);omega
     subst hge
     rw [List.take_length]
     rfl
 exact c_of Tryz.f18 ({ modA 5 4 (fun a=>{ a with fz:=false }) (fzB (mkB spW 18 [(4,1,rdL 25 encWn h.ws 25 true)] (la0 (la18 h)))) with bx:=fun i=>if i.beq 0 then [.frzc 3 2] else [] }) (by kernel_rfl) (by kernel_rfl) (by kernel_rfl) (by kernel_rfl) key (by kernel_rfl)
def shH (h:Hm):Bool:=if decide ((h.nm.length:Int)<=40)=true then decide ((h.ws.length:Int)<=9) else false
theorem c14 (h:Hm) :PCall Tryz.prog G0 14 [.agg (encHm h)] (.bool (shH h)):=by
 have key :
  (decide ((↑h.nm.length:Int)<=40)=true->decide ((↑h.nm.length:Int)<=40)=true)∧(decide ((↑h.nm.length:Int)<=40)=true->decide ((↑h.nm.length:Int)<=40)=true)∧(decide ((↑h.nm.length:Int)<=40)=true->decide
  ((↑h.nm.length:Int)<=40)=true)∧(decide ((↑h.nm.length:Int)<=40)=true->decide ((↑h.nm.length:Int)<=40)=true)∧AV.bool (if decide ((↑h.nm.length:Int)<=40)=true then decide ((↑(List.map encWn h.ws).length :
  Int)<=9) else false)=AV.bool (shH h):=by
   have hlm:(List.map encWn h.ws).length=h.ws.length:=List.length_map _
   have:(List.map encWn h.ws).length=h.ws.length:=by simp only [List.length_map]
   refine ⟨fun h=>h,fun h=>h,fun h=>h,fun h=>h,?_⟩
   · rw [hlm]
     rfl
 exact c_of Tryz.f14 (fzB (mkB spW 14 [] noLa)) (by kernel_rfl) (by kernel_rfl) (by kernel_rfl) (by kernel_rfl) key (by kernel_rfl)
def lnZ (l:List Zn) (j:Nat):Bool:=decide (((l.getD j default).nm.length:Int) > 40)
def shZ (l:List Zn):Bool:=if decide (fiN (lnZ l) l.length < l.length)=true then false else decide ((l.length:Int)<=7)
def la48 (l:List Zn):LA:={
 pre:=[.keep [0,3] [],.bound 1],post:=[.keep [0,3] [],.bound 1]
 Gh:=Nat
 st:=fun i=>⟨[(0,.sl 4 (l.map encZn)),(3,.i i)],[],1⟩
 ok:=fun i=>i<=l.length∧∀ j,j < i->lnZ l j=false
 ms:=fun i=>l.length-i }
theorem c48 (l:List Zn) (hl:l.length<=maxLen):PCall Tryz.prog G0 48 [.sl 4 (l.map encZn)] (.bool (shZ l)):=by
 have key :
  (∃ (g:Nat),(g<=l.length∧∀ (j:Nat),j < g->lnZ l j=false)∧AS.mk [(0,AV.sl 4 (List.map encZn l)),(3,AV.i 0)] [] 1=AS.mk [(0,AV.sl 4 (List.map encZn l)),(3,AV.i (g:Int))] [] 1)∧∀ (g:Nat),(g<=l.length∧∀
  (j:Nat),j < g->lnZ l j=false)->(decide ((g:Int) < (↑(List.map encZn l).length:Int))=true->(0:Int)<=(g:Int)∧(g:Int) < (↑(List.map encZn l).length:Int)∧nth (nthR (List.map encZn l) (g:Int).toNat) 0 =
  AV.str (l.getD (g:Int).toNat default).nm∧(decide ((↑(l.getD (g:Int).toNat default).nm.length:Int) > 40)=true->AV.bool false=AV.bool (shZ l))∧(decide ((↑(l.getD (g:Int).toNat default).nm.length:Int) > 40) =
  false->In64 ((g:Int)+1)∧∃ (g':Nat),(g'<=l.length∧∀ (j:Nat),j < g'->lnZ l j=false)∧l.length-g' < l.length-g∧AS.mk [(0,AV.sl 4 (List.map encZn l)),(3,AV.i ((g:Int)+1))] [] 1=AS.mk [(0,AV.sl 4
  (List.map encZn l)),(3,AV.i (↑g':Int))] [] 1))∧(decide ((g:Int) < (↑(List.map encZn l).length:Int))=false->AV.bool (decide ((↑(List.map encZn l).length:Int)<=7))=AV.bool (shZ l)):=by
   have hlm:(List.map encZn l).length=l.length:=List.length_map _
   have hmx:maxLen=9223372036854775807:=rfl
   have:(List.map encZn l).length=l.length:=by simp only [List.length_map]
   refine ⟨⟨0,⟨by omega,by intros;omega⟩,rfl⟩,fun g ⟨hg,ha⟩=>⟨fun hd=>?_,fun hd=>?_⟩⟩
   · have hlt:g < l.length:=by have h9:=of_decide_eq_true hd;have h8:=hg;(try simp only [List.length_map] at h8);(try simp only [List.length_map] at h9);omega
     try rw [show (g:Int).toNat=g from Int.toNat_natCast g]
     refine ⟨(by omega),(by omega),congrArg (fun r=>nth r 0) (row_at encZn hlt),fun h1=>?_,fun h1=>⟨(by unfold In64;omega),⟨g+1,⟨by omega,all_ext ha h1⟩,by omega,rfl⟩⟩⟩
     · rw [shZ,if_pos (decide_eq_true (fi_ex (p:=lnZ l) hlt h1))]
   · have hge:g=l.length:=by have h9:=of_decide_eq_false hd;have h8:=hg;(try simp only [List.length_map] at h8);(try simp only [List.length_map] at h9);omega
     subst hge
     rw [hlm,shZ,if_neg (by rw [fi_none ha];simp)]
 exact c_of Tryz.f48 (fzB (mkB spW 48 [(4,4,rdL 4 encZn l 1 false)] (la0 (la48 l)))) (by kernel_rfl) (by kernel_rfl) (by kernel_rfl) (by kernel_rfl) key (by kernel_rfl)
def la50 (l:List Zn):LA:={
 pre:=[.own 3 223 4,.reno 3 1,.keep [3,6,7,8] [1],.bound 2],post:=[.reno 3 1,.keep [3,6,7,8] [1],.bound 2]
 Gh:=Nat
 st:=fun i=>⟨[(3,.own 1 ((l.take i).map encZn).length),(6,.sl 4 (l.map encZn)),(7,.i (l.map encZn).length),(8,.i i)],[(1,.buf 223 4 ((l.take i).map encZn))],2⟩
 ok:=fun i=>i<=l.length
 ms:=fun i=>l.length-i }
theorem c50 (l:List Zn) (hl:l.length<=1000):PCall Tryz.prog G0 50 [.sl 4 (l.map encZn)] (.fresh 223 4 (l.map encZn)):=by
 have key :
  (∃ (g:Nat),g<=l.length∧AS.mk [(3,AV.own 1 0),(6,AV.sl 4 (List.map encZn l)),(7,AV.i (↑(List.map encZn l).length:Int)),(8,AV.i 0)] [(1,ABlk.buf 223 4 [])] 2=AS.mk [(3,AV.own 1 (List.map encZn (List.take g
  l)).length),(6,AV.sl 4 (List.map encZn l)),(7,AV.i (↑(List.map encZn l).length:Int)),(8,AV.i (g:Int))] [(1,ABlk.buf 223 4 (List.map encZn (List.take g l)))] 2)∧∀ (g:Nat),g<=l.length->(decide ((g:Int) <
  (↑(List.map encZn l).length:Int))=true->(0:Int)<=(g:Int)∧(g:Int) < (↑(List.map encZn l).length:Int)∧AV.agg (nthR (List.map encZn l) (g:Int).toNat)=AV.agg (encZn (l.getD (g:Int).toNat default)) ∧
  (List.map encZn (List.take g l)).length+1<=9223372036854775807∧((List.map encZn (List.take g l)).length+1) * 40<=140737488355328∧In64 ((g:Int)+1)∧∃ (g':Nat),g'<=l.length∧l.length-g' < l.length-g∧AS.mk
  [(3,AV.own 1 ((List.map encZn (List.take g l)).length+1)),(6,AV.sl 4 (List.map encZn l)),(7,AV.i (↑(List.map encZn l).length:Int)),(8,AV.i ((g:Int)+1))] [(1,ABlk.buf 223 4 (List.map encZn (List.take g l)++[(encZn
  (l.getD (g:Int).toNat default))]))] 2=AS.mk [(3,AV.own 1 (List.map encZn (List.take g' l)).length),(6,AV.sl 4 (List.map encZn l)),(7,AV.i (↑(List.map encZn l).length:Int)),(8,AV.i (↑g':Int))] [(1,ABlk.buf 223 4
  (List.map encZn (List.take g' l)))] 2)∧(decide ((g:Int) < (↑(List.map encZn l).length:Int))=false->AV.fresh 223 4 (List.map encZn (List.take g l))=AV.fresh 223 4 (List.map encZn l)):=by
   have hlm:(List.map encZn l).length=l.length:=List.length_map _
   have:(List.map encZn l).length=l.length:=by simp only [List.length_map]
   refine ⟨⟨0,by omega,rfl⟩,fun g hg=>⟨fun hd=>?_,fun hd=>?_⟩⟩
   · have hlt:g < l.length:=by have h9:=of_decide_eq_true hd;have h8:=hg;(try simp only [List.length_map] at h8);(try simp only [List.length_map] at h9);omega
     have:(List.map encZn (List.take g l)).length=g:=by simp only [List.length_map,List.length_take];omega
     try rw [show (g:Int).toNat=g from Int.toNat_natCast g]
     refine ⟨(by omega),(by omega),congrArg AV.agg (row_at encZn hlt),(by omega),(by omega),(by unfold In64;omega),⟨g+1,by omega,by omega,?_⟩⟩
     · first | (rw [<- take_succ_map _ _ hlt,List.length_append];rfl) | (rw [<- take_succ _ hlt,List.length_append];rfl)
   · have hge:g=l.length:=by have h9:=of_decide_eq_false hd;have h8:=hg;(try simp only [List.length_map] at h8);(try simp only [List.length_map] at h9);omega
     subst hge
     exact (by rw [List.take_length])
 exact c_of Tryz.f50 (fzB (mkB spW 50 [(4,1,rdL 4 encZn l 4 true)] (la0 (la50 l)))) (by kernel_rfl) (by kernel_rfl) (by kernel_rfl) (by kernel_rfl) key (by kernel_rfl)
def la55 (l:List Zn):LA:={
 pre:=[.ren 15 1,.keep [4,5,23,24,25] [1],.bound 2],post:=[.keep [4,5,23,24,25] [1],.bound 2]
 Gh:=Nat
 st:=fun i=>⟨[(4,.ref 1),(5,.i (lastZ l i)),(23,.sl 4 (l.map encZn)),(24,.i (l.map encZn).length),(25,.i i)],[(1,.map (knS ((l.take i).map Zn.nm)))],2⟩
 ok:=fun i=>i<=l.length∧∀ j,j < i->fZn l j=0
 ms:=fun i=>l.length-i }
theorem put_nm {ns:List (List UInt8)} {s:List UInt8} (h:hasK (knS ns) (.str s)=false):mput (.str s) (.bool true) (knS ns)=some (knS (ns++[s])):=by
 unfold knS at h ⊢
 rw [has_map (fun s=>s)] at h
 rw [put_map (fun s=>s) _ _ h,List.map_append]
 rfl
theorem take_nm {α:Type} [Inhabited α] (f:α->List UInt8) {l:List α} {g:Nat} (h:g < l.length):(l.take (g+1)).map f=(l.take g).map f++[f (l.getD g default)]:=by
 rw [List.take_add_one,List.map_append]
 simp [List.getD_eq_getElem?_getD,h]
theorem fZn_h {l:List Zn} {i:Nat} (h:fZn l i=0):hasK (knS ((l.take i).map Zn.nm)) (.str (l.getD i default).nm)=false:=by
 unfold fZn at h
 rw [first_zero,first_zero] at h
 exact when_z (by decide) h.2.1
theorem fZh_m (l:List Zn):fZh l=sFirst [sWhen (((List.map encZn l).length:Int) == 0) 12,sWhen (decide (((List.map encZn l).length:Int) > 6)) 5]:=by
 unfold fZh
 rw [List.length_map]
abbrev zc55b (l:List Zn) (g:Nat):=l.getD (g:Int).toNat default
abbrev zc55e (g:Nat) (l:List Zn):=knS (List.map Zn.nm (List.take g l))
abbrev zc55a (l:List Zn) (g:Nat):=[hdI [AV.i (sWhen (!sName (zc55b l g).nm) (8:Int))],hdI [AV.i (sWhen (hasK (zc55e g l) (AV.str (zc55b l g).nm)) (9:Int))],hdI [AV.i (sWithin (zc55b l g).fr (0:Int) (120:Int))],hdI [AV.i (sWithin (zc55b l g).sh (0:Int) (100:Int))],hdI [AV.i (sWithin (zc55b l g).tg (0:Int) (10000000000000:Int))],hdI [AV.i (sWhen (decide ((zc55b l g).fr<=lastZ l g)) (11:Int))]]
abbrev zc55c (l:List Zn):=(↑(List.map encZn l).length:Int)
abbrev zc55d (l:List Zn):=[hdI [AV.i (sWhen ((zc55c l) == 0) (12:Int))],hdI [AV.i (sWhen (decide ((zc55c l) > 6)) (5:Int))]]
theorem c55 (l:List Zn) (hl:l.length<=1000) (hn:∀ x,x ∈ l->x.nm.length<=1000):PCall Tryz.prog G0 55 [.sl 4 (l.map encZn)] (.i (fZs l)):=by
 have key :
  PCall Tryz.prog G0 116 [AV.bool ((zc55c l) == 0),AV.i 12] (AV.i (sWhen ((zc55c l) == 0) (12:Int)))∧PCall Tryz.prog G0 116 [AV.bool (decide ((zc55c l) > 6)),AV.i 5] (AV.i (sWhen (decide ((zc55c l) > 6)) (5:Int)))∧PCall
  Tryz.prog G0 104 [AV.sl 1 [[AV.i (sWhen ((zc55c l) == 0) (12:Int))],[AV.i (sWhen (decide ((zc55c l) > 6)) (5:Int))]]] (AV.i (sFirst (zc55d l)))∧((sFirst (zc55d l) != 0)=true->AV.i (sFirst (zc55d l))=AV.i (fZs l)) ∧
  ((sFirst (zc55d l) != 0)=false->(∃ (g:Nat),(g<=l.length∧∀ (j:Nat),j < g->fZn l j=(0:Int))∧AS.mk [(4,AV.ref 1),(5,AV.i (-1)),(23,AV.sl 4 (List.map encZn l)),(24,AV.i (zc55c l)),(25,AV.i 0)] [(1,ABlk.map
  [])] 2=AS.mk [(4,AV.ref 1),(5,AV.i (lastZ l g)),(23,AV.sl 4 (List.map encZn l)),(24,AV.i (zc55c l)),(25,AV.i (g:Int))] [(1,ABlk.map (zc55e g l))] 2)∧∀ (g:Nat),(g<=l.length∧∀ (j:Nat),j < g->fZn l j=(0 :
  Int))->(decide ((g:Int) < (zc55c l))=true->(0:Int)<=(g:Int)∧(g:Int) < (zc55c l)∧AV.agg (nthR (List.map encZn l) (g:Int).toNat)=AV.agg (encZn (zc55b l g))∧(mlook (AV.str (zc55b l g).nm) (zc55e g l)).isSome
  = true∧PCall Tryz.prog G0 117 [AV.str (zc55b l g).nm] (AV.bool (sName (zc55b l g).nm))∧PCall Tryz.prog G0 116 [AV.bool !sName (zc55b l g).nm,AV.i 8] (AV.i (sWhen (!sName (zc55b l g).nm) (8:Int)))∧lookV false (AV.bool
  false) (mlook (AV.str (zc55b l g).nm) (zc55e g l))=AV.bool (hasK (zc55e g l) (AV.str (zc55b l g).nm))∧PCall Tryz.prog G0 116 [AV.bool (hasK (zc55e g l) (AV.str (zc55b l g).nm)),AV.i 9] (AV.i (sWhen (hasK (zc55e g l) (AV.str
  (zc55b l g).nm)) (9:Int)))∧PCall Tryz.prog G0 118 [AV.i (zc55b l g).fr,AV.i 0,AV.i 120] (AV.i (sWithin (zc55b l g).fr (0:Int) (120:Int)))∧PCall Tryz.prog G0 118 [AV.i (zc55b l g).sh,AV.i 0,AV.i 100] (AV.i (sWithin
  (zc55b l g).sh (0:Int) (100:Int)))∧PCall Tryz.prog G0 105 [AV.i (zc55b l g).tg] (AV.i (sWithin (zc55b l g).tg (0:Int) (10000000000000:Int)))∧PCall Tryz.prog G0 116 [AV.bool (decide ((zc55b l g).fr<=lastZ l g)),AV.i
  11] (AV.i (sWhen (decide ((zc55b l g).fr<=lastZ l g)) (11:Int)))∧PCall Tryz.prog G0 104 [AV.sl 1 [[AV.i (sWhen (!sName (zc55b l g).nm) (8:Int))],[AV.i (sWhen (hasK (zc55e g l) (AV.str (zc55b l g).nm)) (9:Int))],[AV.i
  (sWithin (zc55b l g).fr (0:Int) (120:Int))],[AV.i (sWithin (zc55b l g).sh (0:Int) (100:Int))],[AV.i (sWithin (zc55b l g).tg (0:Int) (10000000000000:Int))],[AV.i (sWhen (decide ((zc55b l g).fr<=lastZ l g)) (11 :
  Int))]]] (AV.i (sFirst (zc55a l g)))∧((sFirst (zc55a l g) != 0)=true->AV.i (sFirst (zc55a l g))=AV.i (fZs l))∧((sFirst (zc55a l g) != 0)=false->(mput (AV.str (zc55b l g).nm) (AV.bool true) (zc55e g l)).isSome=true ∧
  In64 ((g:Int)+1)∧∃ (g':Nat),(g'<=l.length∧∀ (j:Nat),j < g'->fZn l j=(0:Int))∧l.length-g' < l.length-g∧AS.mk [(4,AV.ref 1),(5,AV.i (zc55b l g).fr),(23,AV.sl 4 (List.map encZn l)),(24,AV.i (zc55c
  l)),(25,AV.i ((g:Int)+1))] [(1,ABlk.map ((mput (AV.str (zc55b l g).nm) (AV.bool true) (zc55e g l)).getD []))] 2=AS.mk [(4,AV.ref 1),(5,AV.i (lastZ l g')),(23,AV.sl 4 (List.map encZn l)),(24,AV.i (zc55c l)),(25,
  AV.i (↑g':Int))] [(1,ABlk.map (knS (List.map Zn.nm (List.take g' l))))] 2))∧(decide ((g:Int) < (zc55c l))=false->AV.i 0=AV.i (fZs l))):=by
   delta zc55a zc55b zc55c zc55d zc55e
   have hlm:(List.map encZn l).length=l.length:=List.length_map _
   have:(List.map encZn l).length=l.length:=by simp only [List.length_map]
   refine ⟨(c116 _ _),(c116 _ _),(c104 [_,_] (by simp)),fun h1=>?_,fun h1=>?_⟩
   · have e:fZs l=fZh l:=ls_first (by rw [fZh_m];exact h1)
     rw [e,fZh_m]
     rfl
   · have hz:(fZh l != 0)=false:=by rw [fZh_m];exact h1
     refine ⟨⟨0,⟨by omega,by intros;omega⟩,rfl⟩,fun g ⟨hg,ha⟩=>⟨fun hd=>?_,fun hd=>?_⟩⟩
     · have hlt:g < l.length:=by have h9:=of_decide_eq_true hd;have h8:=hg;(try simp only [List.length_map] at h8);(try simp only [List.length_map] at h9);omega
       try rw [show (g:Int).toNat=g from Int.toNat_natCast g]
       refine ⟨(by omega),(by omega),congrArg AV.agg (row_at encZn hlt),(look_some (fun s=>s) _ _),(c117 _ (by have:=hn _ (getD_mem hlt);omega)),(c116 _ _),(look_key (fun s=>s) _ _),(c116 _ _),(c118 _ _ _),(c118 _ _ _),(c105 _),(c116 _ _),(c104 [_,_,_,_,_,_] (by simp)),fun h2=>?_,fun h2=>?_⟩
       · exact congrArg AV.i (ls_hit (f:=fZn l) hz (decide_eq_true (by omega)) ha h2).symm
       · have hgz:fZn l g=0:=bne_f h2
         have hgh:=fZn_h hgz
         refine ⟨?_,(by unfold In64;omega),⟨g+1,⟨by omega,all_ext ha hgz⟩,by omega,?_⟩⟩
         · rw [put_nm hgh]
           rfl
         · rw [put_nm hgh,take_nm Zn.nm hlt]
           rfl
     · have hge:g=l.length:=by have h9:=of_decide_eq_false hd;have h8:=hg;(try simp only [List.length_map] at h8);(try simp only [List.length_map] at h9);omega
       subst hge
       exact congrArg AV.i (ls_end (f:=fZn l) hz (decide_eq_false (Int.lt_irrefl _)) (Nat.le_refl _) ha).symm
 exact c_of Tryz.f55 (fzB (modA 9 8 (fun a=>{ a with rdb:=rdK }) (mkB spW 55 [(8,1,rdL 4 encZn l 4 true)] (la0 (la55 l))))) (by kernel_rfl) (by kernel_rfl) (by kernel_rfl) (by kernel_rfl) key (by kernel_rfl)
def sp52:Nat->List AV->Option AV
 | 111,[.sl _ rows,.str s]=>some (.bool (hwR rows s))
 | n,x=>spW n x
def la52 (l:List Zn):LA:={
 pre:=[.own 4 9 1,.reno 4 1,.keep [0,4,5] [1],.bound 2],post:=[.reno 4 1,.keep [0,4,5] [1],.bound 2]
 Gh:=Nat
 st:=fun i=>⟨[(0,.sl 4 (l.map encZn)),(4,.own 1 (((l.take i).map Zn.nm).map encS).length),(5,.i i)],[(1,.buf 9 1 (((l.take i).map Zn.nm).map encS))],2⟩
 ok:=fun i=>i<=l.length∧∀ j,j < i->fZn l j=0
 ms:=fun i=>l.length-i }
def fZr (l:List Zn) (i:Nat):Int:=sFirst [sWhen (!sName (l.getD i default).nm) 8,sWhen (hwR (((l.take i).map Zn.nm).map encS) (l.getD i default).nm) 9,sWithin (l.getD i default).fr 0 120,sWithin (l.getD i default).sh 0 100,sWithin (l.getD i default).tg 0 10000000000000,sWhen (if decide ((i:Int) > 0)=true then decide ((l.getD i default).fr<=(l.getD (maxI 0 ((i:Int)-1)).toNat default).fr) else false) 11]
theorem fZr_e (l:List Zn) (i:Nat):fZr l i=fZn l i:=by
 have e:hwR (((l.take i).map Zn.nm).map encS) (l.getD i default).nm=hasK (knS ((l.take i).map Zn.nm)) (.str (l.getD i default).nm):=by rw [hwR,dS_e]
 unfold fZr fZn
 rw [e]
 cases i with
 | zero =>
  rw [if_neg (by decide)]
  generalize sWhen (!sName (l.getD 0 default).nm) 8=a
  generalize sWhen (hasK (knS ((l.take 0).map Zn.nm)) (.str (l.getD 0 default).nm)) 9=b
  by_cases hc:sWithin (l.getD 0 default).fr 0 120=0
  · have:=within_zero.1 hc
    rw [decide_eq_false (show ¬ (l.getD 0 default).fr<=lastZ l 0 by simp only [lastZ];omega)]
  · generalize sWithin (l.getD 0 default).fr 0 120=c at hc ⊢
    simp [sFirst,hc]
 | succ i =>
  rw [if_pos (decide_eq_true (by omega)),show (maxI 0 (((i+1:Nat):Int)-1)).toNat=i by unfold maxI;split <;> omega]
  rfl
abbrev zc52b (l:List Zn) (g:Nat):=l.getD (g:Int).toNat default
abbrev zc52f (g:Nat) (l:List Zn):=List.map encS (List.map Zn.nm (List.take g l))
abbrev zc52e (g:Nat) (l:List Zn):=if decide ((g:Int) > 0)=true then decide ((zc52b l g).fr<=(l.getD (maxI (0:Int) ((g:Int)-1)).toNat default).fr) else false
abbrev zc52a (l:List Zn) (g:Nat):=[hdI [AV.i (sWhen (!sName (zc52b l g).nm) (8:Int))],hdI [AV.i (sWhen (hwR (zc52f g l) (zc52b l g).nm) (9:Int))],hdI [AV.i (sWithin (zc52b l g).fr (0:Int) (120:Int))],hdI [AV.i (sWithin (zc52b l g).sh (0:Int) (100:Int))],hdI [AV.i (sWithin (zc52b l g).tg (0:Int) (10000000000000:Int))],hdI [AV.i (sWhen (zc52e g l) (11:Int))]]
abbrev zc52c (g:Nat):=decide ((g:Int) > 0)=true->decide ((g:Int) > 0)=true
abbrev zc52d (l:List Zn):=(↑(List.map encZn l).length:Int)
abbrev zc52g (l:List Zn):=[hdI [AV.i (sWhen ((zc52d l) == 0) (12:Int))],hdI [AV.i (sWhen (decide ((zc52d l) > 6)) (5:Int))]]
theorem c52 (l:List Zn) (hl:l.length<=1000) (hn:∀ x,x ∈ l->x.nm.length<=1000):PCall Tryz.prog G0 52 [.sl 4 (l.map encZn)] (.i (fZs l)):=by
 have key :
  PCall Tryz.prog G0 109 [AV.bool ((zc52d l) == 0),AV.i 12] (AV.i (sWhen ((zc52d l) == 0) (12:Int)))∧PCall Tryz.prog G0 109 [AV.bool (decide ((zc52d l) > 6)),AV.i 5] (AV.i (sWhen (decide ((zc52d l) > 6)) (5:Int)))∧PCall
  Tryz.prog G0 107 [AV.sl 1 [[AV.i (sWhen ((zc52d l) == 0) (12:Int))],[AV.i (sWhen (decide ((zc52d l) > 6)) (5:Int))]]] (AV.i (sFirst (zc52g l)))∧((sFirst (zc52g l) != 0)=true->AV.i (sFirst (zc52g l))=AV.i (fZs l)) ∧
  ((sFirst (zc52g l) != 0)=false->(∃ (g:Nat),(g<=l.length∧∀ (j:Nat),j < g->fZn l j=(0:Int))∧AS.mk [(0,AV.sl 4 (List.map encZn l)),(4,AV.own 1 0),(5,AV.i 0)] [(1,ABlk.buf 9 1 [])] 2=AS.mk [(0,AV.sl 4
  (List.map encZn l)),(4,AV.own 1 (zc52f g l).length),(5,AV.i (g:Int))] [(1,ABlk.buf 9 1 (zc52f g l))] 2)∧∀ (g:Nat),(g<=l.length∧∀ (j:Nat),j < g->fZn l j=(0:Int))->(decide ((g:Int) < (zc52d l))=true->(0
  : Int)<=(g:Int)∧(g:Int) < (zc52d l)∧AV.agg (nthR (List.map encZn l) (g:Int).toNat)=AV.agg (encZn (zc52b l g))∧(zc52c g)∧(zc52c g)∧(decide ((g:Int) > 0)=true->In64 ((g:Int)-1))∧(zc52c g)∧(zc52c
  g)∧(zc52c g)∧(decide ((g:Int) > 0)=true->(0:Int)<=maxI (0:Int) ((g:Int)-1))∧(decide ((g:Int) > 0)=true->maxI (0:Int) ((g:Int)-1) < (zc52d l))∧(zc52c g)∧(zc52c g)∧(zc52c g)∧(zc52c g) ∧
  (zc52c g)∧PCall Tryz.prog G0 108 [AV.str (zc52b l g).nm] (AV.i (sWhen (!sName (zc52b l g).nm) (8:Int)))∧PCall Tryz.prog G0 111 [AV.sl 1 (zc52f g l),AV.str (zc52b l g).nm] (AV.bool (hwR (zc52f g l) (zc52b l g).nm))∧PCall
  Tryz.prog G0 109 [AV.bool (hwR (zc52f g l) (zc52b l g).nm),AV.i 9] (AV.i (sWhen (hwR (zc52f g l) (zc52b l g).nm) (9:Int)))∧PCall Tryz.prog G0 81 [AV.i (zc52b l g).fr,AV.i 0,AV.i 120] (AV.i (sWithin (zc52b l g).fr (0:Int)
  (120:Int)))∧PCall Tryz.prog G0 81 [AV.i (zc52b l g).sh,AV.i 0,AV.i 100] (AV.i (sWithin (zc52b l g).sh (0:Int) (100:Int)))∧PCall Tryz.prog G0 33 [AV.i (zc52b l g).tg] (AV.i (sWithin (zc52b l g).tg (0:Int)
  (10000000000000:Int)))∧impB (decide ((g:Int) > 0)) (nth (nthR (List.map encZn l) (maxI (0:Int) ((g:Int)-1)).toNat) 1=AV.i (l.getD (maxI (0:Int) ((g:Int)-1)).toNat default).fr)∧PCall Tryz.prog G0 109
  [AV.bool (zc52e g l),AV.i 11] (AV.i (sWhen (zc52e g l) (11:Int)))∧PCall Tryz.prog G0 107 [AV.sl 1 [[AV.i (sWhen (!sName (zc52b l g).nm) (8:Int))],[AV.i (sWhen (hwR (zc52f g l) (zc52b l g).nm) (9:Int))],[AV.i (sWithin
  (zc52b l g).fr (0:Int) (120:Int))],[AV.i (sWithin (zc52b l g).sh (0:Int) (100:Int))],[AV.i (sWithin (zc52b l g).tg (0:Int) (10000000000000:Int))],[AV.i (sWhen (zc52e g l) (11:Int))]]] (AV.i (sFirst (zc52a l g))) ∧
  ((sFirst (zc52a l g) != 0)=true->AV.i (sFirst (zc52a l g))=AV.i (fZs l))∧((sFirst (zc52a l g) != 0)=false->(zc52f g l).length+1<=9223372036854775807∧((zc52f g l).length+1) * 16<=140737488355328∧In64 ((g:Int)
  + 1)∧∃ (g':Nat),(g'<=l.length∧∀ (j:Nat),j < g'->fZn l j=(0:Int))∧l.length-g' < l.length-g∧AS.mk [(0,AV.sl 4 (List.map encZn l)),(4,AV.own 1 ((zc52f g l).length+1)),(5,AV.i ((g:Int)+1))] [(1,
  ABlk.buf 9 1 (List.map encS (List.map Zn.nm (List.take g l))++[[AV.str (zc52b l g).nm]]))] 2=AS.mk [(0,AV.sl 4 (List.map encZn l)),(4,AV.own 1 (List.map encS (List.map Zn.nm (List.take g' l))).length),(5,AV.i (↑g':Int))]
  [(1,ABlk.buf 9 1 (List.map encS (List.map Zn.nm (List.take g' l))))] 2))∧(decide ((g:Int) < (zc52d l))=false->AV.i 0=AV.i (fZs l))):=by
   delta zc52a zc52b zc52c zc52d zc52e zc52f zc52g
   have hlm:(List.map encZn l).length=l.length:=List.length_map _
   have:(List.map encZn l).length=l.length:=by simp only [List.length_map]
   refine ⟨(c109 _ _),(c109 _ _),(c107 [_,_] (by simp)),fun h1=>?_,fun h1=>?_⟩
   · have e:fZs l=fZh l:=ls_first (by rw [fZh_m];exact h1)
     rw [e,fZh_m]
     rfl
   · have hz:(fZh l != 0)=false:=by rw [fZh_m];exact h1
     refine ⟨⟨0,⟨by omega,by intros;omega⟩,rfl⟩,fun g ⟨hg,ha⟩=>⟨fun hd=>?_,fun hd=>?_⟩⟩
     · have hlt:g < l.length:=by have h9:=of_decide_eq_true hd;have h8:=hg;(try simp only [List.length_map] at h8);(try simp only [List.length_map] at h9);omega
       have:(List.map encS (List.map Zn.nm (List.take g l))).length=g:=by simp only [List.length_map,List.length_take];omega
       have hmx:0<=maxI 0 ((g:Int)-1)∧maxI 0 ((g:Int)-1)<=g:=by unfold maxI;split <;> omega
       have hfe:=fZr_e l g
       have hpl:(List.map encS (List.map Zn.nm (List.take g l))).length=g:=by rw [List.length_map,List.length_map,List.length_take];omega
       try rw [show (g:Int).toNat=g from Int.toNat_natCast g]
       refine ⟨(by omega),(by omega),congrArg AV.agg (row_at encZn hlt),fun h=>h,fun h=>h,fun _=>by unfold In64;omega,fun h=>h,fun h=>h,fun h=>h,fun _=>by omega,fun _=>by omega,fun h=>h,fun h=>h,fun h=>h,fun h=>h,fun h=>h,(c108 _ (by have:=hn _ (getD_mem hlt);omega)),(c111h _ _ (by rw [List.length_map,List.length_take];omega)),(c109 _ _),(c81 _ _ _),(c81 _ _ _),(c33 _),impB_iff.2 fun hb=>(congrArg (fun r=>nth r 1) (row_at encZn (by omega))),(c109 _ _),(c107 [_,_,_,_,_,_] (by simp)),fun h2=>?_,fun h2=>?_⟩
       · have h3:(fZn l g != 0)=true:=by rw [<- hfe];exact h2
         have e:=ls_hit (fin:=0) (f:=fZn l) hz (decide_eq_true (show (g:Int) < l.length by omega)) ha h3
         rw [show fZs l=fZn l g from e,<- hfe]
         rfl
       · have hgz:fZn l g=0:=hfe.symm.trans (bne_f h2)
         refine ⟨(by omega),(by omega),(by unfold In64;omega),⟨g+1,⟨by omega,all_ext ha hgz⟩,by omega,?_⟩⟩
         · rw [take_nm Zn.nm hlt,List.map_append,List.length_append]
           rfl
     · have hge:g=l.length:=by have h9:=of_decide_eq_false hd;have h8:=hg;(try simp only [List.length_map] at h8);(try simp only [List.length_map] at h9);omega
       subst hge
       exact congrArg AV.i (ls_end (f:=fZn l) hz (decide_eq_false (Int.lt_irrefl _)) (Nat.le_refl _) ha).symm
 exact c_of Tryz.f52 (fzB (mkB sp52 52 [(8,3,rdL 4 encZn l 4 true),(9,28,rdL 4 encZn l 1 false)] (la0 (la52 l)))) (by kernel_rfl) (by kernel_rfl) (by kernel_rfl) (by kernel_rfl) key (by kernel_rfl)
end Go.Proofs.YtfoeefaamjknpaaGreatDoor
namespace Go.Proofs.YtfoeefaamjknpaaGreatDoor
open Go Go.Av Go.RowKit
def zoE (l:List Zn) (e:Int):Int:=zoI l (lvl e)
def sp126 (e:Int):Nat->List AV->Option AV
 | 101,_=>some (.i (lvl e))
 | 92,_=>some (.i (lvl e))
 | n,x=>spW n x
def la126 (l:List Zn) (e:Int):LA:={
 pre:=[.keep [1,5,8,9,10] [],.bound 1],post:=[.keep [1,5,8,9,10] [],.bound 1]
 Gh:=Nat
 st:=fun i=>⟨[(1,.i e),(5,.i ((i:Int)-1)),(8,.sl 4 (l.map encZn)),(9,.i (l.map encZn).length),(10,.i i)],[],1⟩
 ok:=fun i=>i<=l.length∧∀ j,j < i->(l.getD j default).fr<=lvl e
 ms:=fun i=>l.length-i }
theorem c126 (l:List Zn) (e:Int) (he:fEn e=0) (hz:∀ i,i < l.length->fZn l i=0) (hl:l.length<=1000):PCall Tryz.prog G0 126 [.sl 4 (l.map encZn),.i e] (.i (zoE l e)):=by
 have key :
  (∃ (g:Nat),(g<=l.length∧∀ (j:Nat),j < g->(l.getD j default).fr<=lvl e)∧AS.mk [(1,AV.i e),(5,AV.i (-1)),(8,AV.sl 4 (List.map encZn l)),(9,AV.i (↑(List.map encZn l).length:Int)),(10,AV.i 0)] [] 1=AS.mk [(1,
  AV.i e),(5,AV.i ((g:Int)-1)),(8,AV.sl 4 (List.map encZn l)),(9,AV.i (↑(List.map encZn l).length:Int)),(10,AV.i (g:Int))] [] 1)∧∀ (g:Nat),(g<=l.length∧∀ (j:Nat),j < g->(l.getD j default).fr<=lvl e) →
  (decide ((g:Int) < (↑(List.map encZn l).length:Int))=true->(0:Int)<=(g:Int)∧(g:Int) < (↑(List.map encZn l).length:Int)∧AV.agg (nthR (List.map encZn l) (g:Int).toNat)=AV.agg (encZn (l.getD (↑g :
  Int).toNat default))∧PCall Tryz.prog G0 101 [AV.i e] (AV.i (lvl e))∧(decide ((l.getD (g:Int).toNat default).fr > lvl e)=true->AV.i ((g:Int)-1)=AV.i (zoE l e))∧(decide ((l.getD (g:Int).toNat default).fr > lvl
  e)=false->In64 ((g:Int)+1)∧∃ (g':Nat),(g'<=l.length∧∀ (j:Nat),j < g'->(l.getD j default).fr<=lvl e)∧l.length-g' < l.length-g∧AS.mk [(1,AV.i e),(5,AV.i (g:Int)),(8,AV.sl 4 (List.map encZn l)),
  (9,AV.i (↑(List.map encZn l).length:Int)),(10,AV.i ((g:Int)+1))] [] 1=AS.mk [(1,AV.i e),(5,AV.i ((↑g':Int)-1)),(8,AV.sl 4 (List.map encZn l)),(9,AV.i (↑(List.map encZn l).length:Int)),(10,AV.i (↑g' :
  Int))] [] 1))∧(decide ((g:Int) < (↑(List.map encZn l).length:Int))=false->AV.i ((g:Int)-1)=AV.i (zoE l e)):=by
   have hlm:(List.map encZn l).length=l.length:=List.length_map _
   have:(List.map encZn l).length=l.length:=by simp only [List.length_map]
   refine ⟨⟨0,⟨by omega,by intros;omega⟩,rfl⟩,fun g ⟨hg,ha⟩=>⟨fun hd=>?_,fun hd=>?_⟩⟩
   · have hlt:g < l.length:=by have h9:=of_decide_eq_true hd;have h8:=hg;(try simp only [List.length_map] at h8);(try simp only [List.length_map] at h9);omega
     try rw [show (g:Int).toNat=g from Int.toNat_natCast g]
     refine ⟨(by omega),(by omega),congrArg AV.agg (row_at encZn hlt),(c101 e he),fun h1=>?_,fun h1=>⟨(by unfold In64;omega),⟨g+1,⟨by omega,all_ext ha (by have:=of_decide_eq_false h1;omega)⟩,by omega,?_⟩⟩⟩
     · first
        | exact congrArg AV.i (zo_stop hz ha (Nat.le_refl _) (.inl rfl)).symm
        | exact congrArg AV.i (zo_stop hz ha hg (.inr (by have:=of_decide_eq_true h1;omega))).symm
     · rw [show (((g+1:Nat):Int)-1)=(g:Int) by omega]
       rfl
   · have hge:g=l.length:=by have h9:=of_decide_eq_false hd;have h8:=hg;(try simp only [List.length_map] at h8);(try simp only [List.length_map] at h9);omega
     subst hge
     first
      | exact congrArg AV.i (zo_stop hz ha (Nat.le_refl _) (.inl rfl)).symm
      | exact congrArg AV.i (zo_stop hz ha hg (.inr (by have:=of_decide_eq_true h1;omega))).symm
 exact c_of Tryz.f126 (fzB (mkB (sp126 e) 126 [(4,2,rdL 4 encZn l 4 true)] (la0 (la126 l e)))) (by kernel_rfl) (by kernel_rfl) (by kernel_rfl) (by kernel_rfl) key (by kernel_rfl)
def zrV (l:List Zn) (e:Int):Int:=if decide (zoE l e < 0)=true then 0 else zoE l e
def zrE (l:List Zn) (e:Int):Int:=if decide (zoE l e < 0)=true then 7 else 0
def zsE (l:List Zn) (e:Int):Int:=sFirst [fZs l,fEn e]
def zfE (l:List Zn) (e:Int):Int:=if (zsE l e != 0)=true then zsE l e else zrE l e
def zfV (l:List Zn) (e:Int):Int:=if (zsE l e != 0)=true then 0 else zrV l e
def sp49 (l:List Zn) (e:Int):Nat->List AV->Option AV
 | 55,_=>some (.i (fZs l))
 | 126,_=>some (.i (zoE l e))
 | n,x=>spW n x
theorem c49 (l:List Zn) (e:Int) (hl:l.length<=1000) (hn:∀ x,x ∈ l->x.nm.length<=1000):PCall Tryz.prog G0 49 [.sl 4 (l.map encZn),.i e] (.tup [.i (zfV l e),.i (zfE l e)]):=by
 have key :
  PCall Tryz.prog G0 55 [AV.sl 4 (List.map encZn l)] (AV.i (fZs l))∧PCall Tryz.prog G0 105 [AV.i e] (AV.i (sWithin e (0:Int) (10000000000000:Int)))∧PCall Tryz.prog G0 104 [AV.sl 1 [[AV.i (fZs l)],[AV.i (sWithin e (0:Int)
  (10000000000000:Int))]]] (AV.i (sFirst [hdI [AV.i (fZs l)],hdI [AV.i (sWithin e (0:Int) (10000000000000:Int))]]))∧((sFirst [hdI [AV.i (fZs l)],hdI [AV.i (sWithin e (0:Int) (10000000000000:Int))]] != 0)=true->AV.tup
  [AV.i 0,AV.i (sFirst [hdI [AV.i (fZs l)],hdI [AV.i (sWithin e (0:Int) (10000000000000:Int))]])]=AV.tup [AV.i (zfV l e),AV.i (zfE l e)])∧((sFirst [hdI [AV.i (fZs l)],hdI [AV.i (sWithin e (0:Int) (10000000000000 :
  Int))]] != 0)=false->PCall Tryz.prog G0 126 [AV.sl 4 (List.map encZn l),AV.i e] (AV.i (zoE l e))∧(decide (zoE l e < 0)=true->AV.tup [AV.i 0,AV.i 7]=AV.tup [AV.i (zfV l e),AV.i (zfE l e)])∧(decide (zoE l e < 0) =
  false->AV.tup [AV.i (zoE l e),AV.i 0]=AV.tup [AV.i (zfV l e),AV.i (zfE l e)])):=by
   refine ⟨(c55 l hl hn),(c105 _),(c104 [_,_] (by simp)),fun h1=>?_,fun h1=>?_⟩
   · have h3:(zsE l e != 0)=true:=h1
     rw [zfV,zfE,if_pos h3,if_pos h3]
     rfl
   · have hz:zsE l e=0:=bne_f h1
     have hz2:=hz
     unfold zsE at hz2
     rw [first_zero,first_zero] at hz2
     refine ⟨(c126 l e hz2.2.1 (zs_z hz2.1).2.2 hl),fun h2=>?_,fun h2=>?_⟩
     · rw [zfV,zfE,if_neg (by rw [hz];decide),if_neg (by rw [hz];decide),zrV,zrE,if_pos h2,if_pos h2]
     · rw [zfV,zfE,if_neg (by rw [hz];decide),if_neg (by rw [hz];decide),zrV,zrE,if_neg (by rw [h2];decide),if_neg (by rw [h2];decide)]
 exact c_of Tryz.f49 (fzB (mkB (sp49 l e) 49 [] noLa)) (by kernel_rfl) (by kernel_rfl) (by kernel_rfl) (by kernel_rfl) key (by kernel_rfl)
def elB (l:List Zn) (h:Hm):Bool:=if decide (zoE l (outM h.ws h.ws.length)>=0)=true then decide (inH h.ws h.ws.length > (l.getD (zoE l (outM h.ws h.ws.length)).toNat default).tg) else false
def sp127 (l:List Zn) (h:Hm):Nat->List AV->Option AV
 | 99,_=>some (.i (outM h.ws h.ws.length))
 | 28,_=>some (.i (outM h.ws h.ws.length))
 | 126,_=>some (.i (zoE l (outM h.ws h.ws.length)))
 | 53,_=>some (.tup [.i (zrV l (outM h.ws h.ws.length)),.i (zrE l (outM h.ws h.ws.length))])
 | 100,_=>some (.agg [.i (inL h.ws h.ws.length),.i (inH h.ws h.ws.length)])
 | 29,_=>some (.agg [.i (inL h.ws h.ws.length),.i (inH h.ws h.ws.length)])
 | n,x=>spW n x
abbrev zc127a (l:List Zn) (h:Hm):=decide (zoE l (outM h.ws h.ws.length)>=0)=true->decide (zoE l (outM h.ws h.ws.length)>=0)=true
theorem c127 (h:Hm) (l:List Zn) (hh:fHm h=0) (hz:fZs l=0):PCall Tryz.prog G0 127 [.agg (encHm h),.sl 4 (l.map encZn)] (.bool (elB l h)):=by
 have key :
  PCall Tryz.prog G0 99 [AV.agg (encHm h)] (AV.i (outM h.ws h.ws.length))∧PCall Tryz.prog G0 126 [AV.sl 4 (List.map encZn l),AV.i (outM h.ws h.ws.length)] (AV.i (zoE l (outM h.ws h.ws.length)))∧(zc127a l h)∧(zc127a l h) ∧
  (zc127a l h)∧(zc127a l h)∧(decide (zoE l (outM h.ws h.ws.length)>=0)=true->(0:Int)<=zoE l (outM h.ws h.ws.length))∧(decide (zoE l (outM h.ws h.ws.length)>=0)=true->zoE l (outM h.ws h.ws.length) < (↑(List.map encZn
  l).length:Int))∧(zc127a l h)∧(zc127a l h)∧(zc127a l h)∧(zc127a l h)∧(zc127a l h)∧impB (decide (zoE l (outM h.ws h.ws.length)>=0)) (PCall Tryz.prog G0 100 [AV.agg (encHm h)] (AV.agg [AV.i (inL h.ws h.ws.length),AV.i
  (inH h.ws h.ws.length)]))∧impB (decide (zoE l (outM h.ws h.ws.length)>=0)) (nth (nthR (List.map encZn l) (zoE l (outM h.ws h.ws.length)).toNat) 3=AV.i (l.getD (zoE l (outM h.ws h.ws.length)).toNat default).tg)∧AV.bool (if
  decide (zoE l (outM h.ws h.ws.length)>=0)=true then decide (inH h.ws h.ws.length > (l.getD (zoE l (outM h.ws h.ws.length)).toNat default).tg) else false)=AV.bool (elB l h):=by
   delta zc127a
   have hlm:(List.map encZn l).length=l.length:=List.length_map _
   obtain ⟨z1,z2,z3,z4,z5,z6⟩:=hm_z hh
   obtain ⟨y1,y2,y3⟩:=zs_z hz
   have hob:=outM_bd z6 h.ws.length (Nat.le_refl _)
   have hzb : -1<=zoE l (outM h.ws h.ws.length)∧zoE l (outM h.ws h.ws.length) < l.length:=zo_bd l _ l.length
   have:(List.map encZn l).length=l.length:=by simp only [List.length_map]
   refine ⟨(c99 h z3 z2 z6),(c126 l _ (fEn_z (by omega)) y3 (by omega)),fun h=>h,fun h=>h,fun h=>h,fun h=>h,(fun h=>of_decide_eq_true h),fun _=>by omega,fun h=>h,fun h=>h,fun h=>h,fun h=>h,fun h=>h,impB_iff.2 fun hb=>(c100 h z3 z6),impB_iff.2 fun hb=>(congrArg (fun r=>nth r 3) (row_at encZn (by have:=of_decide_eq_true hb;omega))),?_⟩
   · first | rfl | trivial
 exact c_of Tryz.f127 (fzB (mkB (sp127 l h) 127 [(2,10,rdL 4 encZn l 1 false)] noLa)) (by kernel_rfl) (by kernel_rfl) (by kernel_rfl) (by kernel_rfl) key (by kernel_rfl)
def egE (l:List Zn) (h:Hm):Int:=sFirst [fZs l,fHm h]
def egV (l:List Zn) (h:Hm):Bool:=if (egE l h != 0)=true then false else elB l h
def sp51 (l:List Zn) (h:Hm):Nat->List AV->Option AV
 | 55,_=>some (.i (fZs l))
 | 38,_=>some (.i (fHm h))
 | 127,_=>some (.bool (elB l h))
 | n,x=>spW n x
theorem c51 (l:List Zn) (h:Hm) (hl:l.length<=1000) (hn:∀ x,x ∈ l->x.nm.length<=1000) (hm:h.nm.length<=1000000) (hw:h.ws.length<=1000):PCall Tryz.prog G0 51 [.sl 4 (l.map encZn),.agg (encHm h)] (.tup [.bool (egV l h),.i (egE l h)]):=by
 have key :
  PCall Tryz.prog G0 55 [AV.sl 4 (List.map encZn l)] (AV.i (fZs l))∧PCall Tryz.prog G0 38 [AV.agg (encHm h)] (AV.i (fHm h))∧PCall Tryz.prog G0 104 [AV.sl 1 [[AV.i (fZs l)],[AV.i (fHm h)]]] (AV.i (sFirst [hdI [AV.i (fZs l)],hdI
  [AV.i (fHm h)]]))∧((sFirst [hdI [AV.i (fZs l)],hdI [AV.i (fHm h)]] != 0)=true->AV.tup [AV.bool false,AV.i (sFirst [hdI [AV.i (fZs l)],hdI [AV.i (fHm h)]])]=AV.tup [AV.bool (egV l h),AV.i (egE l h)])∧((sFirst [hdI [AV.i
  (fZs l)],hdI [AV.i (fHm h)]] != 0)=false->PCall Tryz.prog G0 127 [AV.agg (encHm h),AV.sl 4 (List.map encZn l)] (AV.bool (elB l h))∧AV.tup [AV.bool (elB l h),AV.i 0]=AV.tup [AV.bool (egV l h),AV.i (egE l h)]):=by
   refine ⟨(c55 l hl hn),(c38 h hm hw),(c104 [_,_] (by simp)),fun h1=>?_,fun h1=>?_⟩
   · have h3:(egE l h != 0)=true:=h1
     rw [egV,if_pos h3]
     rfl
   · have hz:egE l h=0:=bne_f h1
     have hz2:=hz
     unfold egE at hz2
     rw [first_zero,first_zero] at hz2
     refine ⟨(c127 h l hz2.2.1 hz2.1),?_⟩
     · rw [egV,if_neg (by rw [hz];decide),hz]
 exact c_of Tryz.f51 (fzB (mkB (sp51 l h) 51 [] noLa)) (by kernel_rfl) (by kernel_rfl) (by kernel_rfl) (by kernel_rfl) key (by kernel_rfl)
end Go.Proofs.YtfoeefaamjknpaaGreatDoor
namespace Go.Proofs.YtfoeefaamjknpaaGreatDoor
open Go Go.Av Go.RowKit
end Go.Proofs.YtfoeefaamjknpaaGreatDoor
namespace Go.Proofs.YtfoeefaamjknpaaGreatDoor
open Go Go.Av Go.RowKit
structure Cp where
 hm:List UInt8
 tk:Int
 deriving Inhabited
end Go.Proofs.YtfoeefaamjknpaaGreatDoor
namespace Go.Proofs.YtfoeefaamjknpaaGreatDoor
open Go Go.Av Go.RowKit
def la1 (l:LA):Nat->Option LA:=fun i=>if i.beq 0 then some l else none
structure Sp where
 a:Int
 b:Int
 deriving Inhabited
def fCp (x:Cp):Int:=sFirst [sWhen (!sName x.hm) 8,sWithin x.tk 0 100000000]
def fSp (x:Sp):Int:=sWhen (if (if decide (x.a < 0)=true then true else decide (x.a>=x.b))=true then true else decide (x.b > 100000000)) 14
def spC:Nat->List AV->Option AV
 | 145,[.int _ x]=>some (.i (sWithin x 0 100000))
 | 77,[.int _ x]=>some (.i (sWithin x 0 100000))
 | 147,[.agg [.str s,.int _ t]]=>some (.i (fCp ⟨s,t⟩))
 | 78,[.agg [.str s,.int _ t]]=>some (.i (fCp ⟨s,t⟩))
 | 149,[.agg [.int _ a,.int _ b]]=>some (.i (fSp ⟨a,b⟩))
 | n,x=>spN n x
structure CpOK (l:List Cp):Prop where
 tk:∀ i,i < l.length->0<=(l.getD i default).tk∧(l.getD i default).tk<=100000000
 up:∀ i j,i<=j->j < l.length->(l.getD i default).tk<=(l.getD j default).tk
end Go.Proofs.YtfoeefaamjknpaaGreatDoor
namespace Go.Proofs.YtfoeefaamjknpaaGreatDoor
open Go Go.Av Go.RowKit
structure SpOK (x:Sp):Prop where
 p:0<=x.a∧x.a < x.b∧x.b<=100000000
end Go.Proofs.YtfoeefaamjknpaaGreatDoor
namespace Go.Proofs.YtfoeefaamjknpaaGreatDoor
open Go Go.Av Go.RowKit
theorem w_of {f : Nat} {args : List AV} {bs : List ABlk} {r : AV} {fin : List ABlk} (fn : Func) (B : BA) (hf : Tryz.prog.funcs[f]? = some fn) (hb : fn.body = some (bodyOf fn)) (hn : (fn.name == "runtime.NumGoroutine") = false) (hlen : Nat.ble args.length fn.ntmps = true) (hwf : wfB (bs.length + 1) (startW args bs) = true)
 {q:Prop} (hq:q) (h:VC (bodyE Tryz.prog T0 G0 fn.ntmps []) B 10000 0 (bodyOf fn) (startW args bs) (retQW T0 fn bs.length r fin)=q):WCall Tryz.prog G0 f args bs r fin :=
 callW_of_VC tok mix hf hb hn (Nat.le_of_ble_eq_true hlen) hwf B (vc_of hq h)
def FI (n:Int):AV:=.fn (.func 179) [] [.elt 1 [[.i n]] 0 0]
theorem c179 (i n:Int) :PCall Tryz.prog G0 179 [.i i,.elt 1 [[.i n]] 0 0] (.bool (badI n i)):=by
 have key :
  ((!decide (i < 0))=true->(!decide (i < 0))=true)∧((!decide (i < 0))=true->(!decide (i < 0))=true)∧(decide (i < 0)=false->(!decide (i < 0))=true)∧AV.bool (if decide (i < 0)=true then true else decide (i>=n))
  = AV.bool (badI n i):=by
   refine ⟨fun h=>h,fun h=>h,fun h=>by first | exact h | (rw [h];rfl) | simp_all,?_⟩
   · first | rfl | trivial
 exact c_of Tryz.f179 (mkB spC 179 [] noLa) (by kernel_rfl) (by kernel_rfl) (by kernel_rfl) (by kernel_rfl) key (by kernel_rfl)
def la180 (F:AV) (p:Int->Bool) (l:List Int):LA:={
 pre:=[.keep [0,1,6,7,8] [],.bound 1],post:=[.keep [0,1,6,7,8] [],.bound 1]
 Gh:=Nat
 st:=fun i=>⟨[(0,.sl 1 (l.map encI)),(1,F),(6,.sl 1 (l.map encI)),(7,.i (l.map encI).length),(8,.i i)],[],1⟩
 ok:=fun i=>i<=l.length∧∀ j,j < i->p (l.getD j default)=false
 ms:=fun i=>l.length-i }
def sp180 (n:Int):Nat->List AV->Option AV
 | 179,.int _ i::_=>some (.bool (badI n i))
 | m,x=>spC m x
theorem c180a (n:Int) (l:List Int) (hl:l.length<=1000):PCall Tryz.prog G0 180 [.sl 1 (l.map encI),FI n] (.i (fiI (fun j=>badI n (l.getD j default)) l.length)):=by
 have key :
  (∃ (g:Nat),(g<=l.length∧∀ (j:Nat),j < g->badI n (l.getD j default)=false)∧AS.mk [(0,AV.sl 1 (List.map encI l)),(1,AV.fn (Fn.func 179) [] [AV.elt 1 [[AV.i n]] 0 0]),(6,AV.sl 1 (List.map encI l)),(7,AV.i
  (↑(List.map encI l).length:Int)),(8,AV.i 0)] [] 1=AS.mk [(0,AV.sl 1 (List.map encI l)),(1,AV.fn (Fn.func 179) [] [AV.elt 1 [[AV.i n]] 0 0]),(6,AV.sl 1 (List.map encI l)),(7,AV.i (↑(List.map encI l).length:Int)),(8,
  AV.i (g:Int))] [] 1)∧∀ (g:Nat),(g<=l.length∧∀ (j:Nat),j < g->badI n (l.getD j default)=false)->(decide ((g:Int) < (↑(List.map encI l).length:Int))=true->(0:Int)<=(g:Int)∧(g:Int) < (↑(List.map
  encI l).length:Int)∧nth (nthR (List.map encI l) (g:Int).toNat) 0=AV.i (l.getD (g:Int).toNat default)∧PCall Tryz.prog G0 179 [AV.i (l.getD (g:Int).toNat default),AV.elt 1 [[AV.i n]] 0 0] (AV.bool (badI n (l.getD
  (g:Int).toNat default)))∧(badI n (l.getD (g:Int).toNat default)=true->AV.i (g:Int)=AV.i (fiI (fun (j:Nat)=>badI n (l.getD j default)) l.length))∧(badI n (l.getD (g:Int).toNat default)=false->In64 ((↑g :
  Int)+1)∧∃ (g':Nat),(g'<=l.length∧∀ (j:Nat),j < g'->badI n (l.getD j default)=false)∧l.length-g' < l.length-g∧AS.mk [(0,AV.sl 1 (List.map encI l)),(1,AV.fn (Fn.func 179) [] [AV.elt 1 [[AV.i n]] 0 0]),(6,
  AV.sl 1 (List.map encI l)),(7,AV.i (↑(List.map encI l).length:Int)),(8,AV.i ((g:Int)+1))] [] 1=AS.mk [(0,AV.sl 1 (List.map encI l)),(1,AV.fn (Fn.func 179) [] [AV.elt 1 [[AV.i n]] 0 0]),(6,AV.sl 1 (List.map encI
  l)),(7,AV.i (↑(List.map encI l).length:Int)),(8,AV.i (↑g':Int))] [] 1))∧(decide ((g:Int) < (↑(List.map encI l).length:Int))=false->AV.i (-1)=AV.i (fiI (fun (j:Nat)=>badI n (l.getD j default)) l.length)) :=
  by
   have hlm:(List.map encI l).length=l.length:=List.length_map _
   have:(List.map encI l).length=l.length:=by simp only [List.length_map]
   refine ⟨⟨0,⟨by omega,by intros;omega⟩,rfl⟩,fun g ⟨hg,ha⟩=>⟨fun hd=>?_,fun hd=>?_⟩⟩
   · have hlt:g < l.length:=by have h9:=of_decide_eq_true hd;have h8:=hg;(try simp only [List.length_map] at h8);(try simp only [List.length_map] at h9);omega
     try rw [show (g:Int).toNat=g from Int.toNat_natCast g]
     refine ⟨(by omega),(by omega),congrArg (fun r=>nth r 0) (row_at encI hlt),(c179 _ _),fun h1=>?_,fun h1=>⟨(by unfold In64;omega),⟨g+1,⟨by omega,all_ext ha h1⟩,by omega,rfl⟩⟩⟩
     · rw [fiI,fi_some (p:=fun j=>badI n (l.getD j default)) ha (show badI n (l.getD g default)=true from h1) hlt,if_neg (by omega)]
   · have hge:g=l.length:=by have h9:=of_decide_eq_false hd;have h8:=hg;(try simp only [List.length_map] at h8);(try simp only [List.length_map] at h9);omega
     subst hge
     rw [fiI,fi_none (p:=fun j=>badI n (l.getD j default)) ha,if_pos rfl]
 exact c_of Tryz.f180 (mkB (sp180 n) 180 [(4,4,rdL 1 encI l 1 false)] (la1 (la180 (FI n) (badI n) l))) (by kernel_rfl) (by kernel_rfl) (by kernel_rfl) (by kernel_rfl) key (by kernel_rfl)
def sp178 (p:Int->Bool) (l:List Int):Nat->List AV->Option AV
 | 180,_=>some (.i (fiI (fun j=>p (l.getD j default)) l.length))
 | m,x=>spC m x
theorem c178a (n:Int) (l:List Int) (hl:l.length<=1000):PCall Tryz.prog G0 178 [.sl 1 (l.map encI),FI n] (.bool (decide (fiN (fun j=>badI n (l.getD j default)) l.length < l.length))):=by
 have key :
  PCall Tryz.prog G0 180 [AV.sl 1 (List.map encI l),AV.fn (Fn.func 179) [] [AV.elt 1 [[AV.i n]] 0 0]] (AV.i (fiI (fun (j:Nat)=>badI n (l.getD j default)) l.length))∧AV.bool (decide (fiI (fun (j:Nat)=>badI n (l.getD j
  default)) l.length>=0))=AV.bool (decide (fiN (fun (j:Nat)=>badI n (l.getD j default)) l.length < l.length)):=by
   exact ⟨(c180a n l hl),congrArg AV.bool fiI_dec⟩
 exact c_of Tryz.f178 (mkB (sp178 (badI n) l) 178 [] noLa) (by kernel_rfl) (by kernel_rfl) (by kernel_rfl) (by kernel_rfl) key (by kernel_rfl)
def la150 (l:List Int):LA:={
 pre:=[.keep [0,5] [],.bound 1],post:=[.keep [0,5] [],.bound 1]
 Gh:=Nat
 st:=fun i=>⟨[(0,.sl 1 (l.map encI)),(5,.i ((i:Nat)+1:Int))],[],1⟩
 ok:=fun i=>i<=l.length∧∀ j,j < i+1->ordI l j=false
 ms:=fun i=>l.length-i }
def sp150 (n:Int) (l:List Int):Nat->List AV->Option AV
 | 178,_=>some (.bool (decide (fiN (fun j=>badI n (l.getD j default)) l.length < l.length)))
 | m,x=>spC m x
theorem c150 (n:Int) (l:List Int) (hl:l.length<=1000):PCall Tryz.prog G0 150 [.sl 1 (l.map encI),.i n] (.i (fIx l n)):=by
 have key :
  PCall Tryz.prog G0 178 [AV.sl 1 (List.map encI l),AV.fn (Fn.func 179) [] [AV.elt 1 [[AV.i n]] 0 0]] (AV.bool (decide (fiN (fun (j:Nat)=>badI n (l.getD j default)) l.length < l.length)))∧(decide (fiN (fun (j:Nat)=>badI n
  (l.getD j default)) l.length < l.length)=true->AV.i 10=AV.i (fIx l n))∧(decide (fiN (fun (j:Nat)=>badI n (l.getD j default)) l.length < l.length)=false->(∃ (g:Nat),(g<=l.length∧∀ (j:Nat),j < g+1->ordI l j
  = false)∧AS.mk [(0,AV.sl 1 (List.map encI l)),(5,AV.i 1)] [] 1=AS.mk [(0,AV.sl 1 (List.map encI l)),(5,AV.i ((g:Int)+1))] [] 1)∧∀ (g:Nat),(g<=l.length∧∀ (j:Nat),j < g+1->ordI l j=false)->(decide ((↑g
  : Int)+1 < (↑(List.map encI l).length:Int))=true->(0:Int)<=(g:Int)+1∧(g:Int)+1 < (↑(List.map encI l).length:Int)∧In64 ((g:Int)+1-1)∧(0:Int)<=(g:Int)+1-1∧(g:Int)+1-1 <
  (↑(List.map encI l).length:Int)∧nth (nthR (List.map encI l) ((g:Int)+1).toNat) 0=AV.i (l.getD ((g:Int)+1).toNat default)∧nth (nthR (List.map encI l) ((g:Int)+1-1).toNat) 0=AV.i (l.getD ((g:Int)+1 -
  1).toNat default)∧(decide (l.getD ((g:Int)+1).toNat default<=l.getD ((g:Int)+1-1).toNat default)=true->AV.i 11=AV.i (fIx l n))∧(decide (l.getD ((g:Int)+1).toNat default<=l.getD ((g:Int)+1-1).toNat
  default)=false->In64 ((g:Int)+1+1)∧∃ (g':Nat),(g'<=l.length∧∀ (j:Nat),j < g'+1->ordI l j=false)∧l.length-g' < l.length-g∧AS.mk [(0,AV.sl 1 (List.map encI l)),(5,AV.i ((g:Int)+1+1))] [] 1
  = AS.mk [(0,AV.sl 1 (List.map encI l)),(5,AV.i ((↑g':Int)+1))] [] 1))∧(decide ((g:Int)+1 < (↑(List.map encI l).length:Int))=false->AV.i 0=AV.i (fIx l n))):=by
   have hlm:(List.map encI l).length=l.length:=List.length_map _
   rw [hlm]
   refine ⟨c178a n l hl,fun h1=>?_,fun h1=>⟨⟨0,⟨by omega,fun j hj=>?_⟩,rfl⟩,fun g ⟨hg,ha⟩=>⟨fun hd=>?_,fun hd=>?_⟩⟩⟩
   · rw [fIx,if_pos h1]
   · have e:j=0:=by omega
     rw [e];rfl
   · have hlt:=of_decide_eq_true hd
     rw [show ((g:Int)+1).toNat=g+1 by omega,show ((g:Int)+1-1).toNat=g by omega]
     have hor:ordI l (g+1)=decide (l.getD (g+1) default<=l.getD g default):=by unfold ordI;rw [if_neg (by omega),Nat.add_sub_cancel]
     refine ⟨by omega,by omega,by unfold In64;omega,by omega,by omega,congrArg (fun r=>nth r 0) (row_at encI (by omega)),congrArg (fun r=>nth r 0) (row_at encI (by omega)),fun h2=>?_,fun h2=>⟨by unfold In64;omega,g+1,⟨by omega,fun j hj=>?_⟩,by omega,rfl⟩⟩
     · rw [fIx,if_neg (by rw [h1];decide),if_pos (decide_eq_true (fi_ex (p:=ordI l) (j:=g+1) (by omega) (hor.trans h2)))]
     · by_cases e:j=g+1
       · rw [e,hor];exact h2
       · exact ha j (by omega)
   · have hge:=of_decide_eq_false hd
     rw [fIx,if_neg (by rw [h1];decide),if_neg (by
      rw [decide_eq_true_eq]
      intro h
      have h2:=fi_hit h
      have h3:=ha _ (show fiN (ordI l) l.length < g+1 by omega)
      rw [h3] at h2
      cases h2)]
 exact c_of Tryz.f150 (fzB (mkB (sp150 n l) 150 [(6,3,rdL 1 encI l 1 false),(6,8,rdL 1 encI l 1 false)] (la1 (la150 l)))) (by kernel_rfl) (by kernel_rfl) (by kernel_rfl) (by kernel_rfl) key (by kernel_rfl)
end Go.Proofs.YtfoeefaamjknpaaGreatDoor
namespace Go.Proofs.YtfoeefaamjknpaaGreatDoor
open Go Go.Av Go.RowKit
def encPm (m:Ms):List AV:=[.i m.p0,.i m.p1,.i m.p2,.i m.p3,.i m.p4,.i m.p5,.i m.p6,.i m.p7,.i m.p8,.i m.p9,.i m.p10,.i m.p11,.i m.p12,.i m.p13,.i m.p14,.i m.p15]
def fPaC (c:List AV):Int:=fPa (fun b=>ivA c (2 * b)) (fun b=>ivA c (2 * b+1))
theorem fPaC_m (m:Ms):fPaC (encPm m)=fPa m.lo m.hi:=rfl
def spM:Nat->List AV->Option AV
 | 121,[.agg c]=>some (.i (fPaC c))
 | 112,[.agg c]=>some (.i (fPaC c))
 | n,x=>spW n x
def la22 (l:List Ms):LA:={
 pre:=[.own 3 193 19,.reno 3 1,.keep [3,6,7,8] [1],.bound 2],post:=[.reno 3 1,.keep [3,6,7,8] [1],.bound 2]
 Gh:=Nat
 st:=fun i=>⟨[(3,.own 1 ((l.take i).map encMs).length),(6,.sl 19 (l.map encMs)),(7,.i (l.map encMs).length),(8,.i i)],[(1,.buf 193 19 ((l.take i).map encMs))],2⟩
 ok:=fun i=>i<=l.length
 ms:=fun i=>l.length-i }
theorem c22 (l:List Ms) (hl:l.length<=1000):PCall Tryz.prog G0 22 [.sl 19 (l.map encMs)] (.fresh 193 19 (l.map encMs)):=by
 have key :
  (∃ (g:Nat),g<=l.length∧AS.mk [(3,AV.own 1 0),(6,AV.sl 19 (List.map encMs l)),(7,AV.i (↑(List.map encMs l).length:Int)),(8,AV.i 0)] [(1,ABlk.buf 193 19 [])] 2=AS.mk [(3,AV.own 1 (List.map encMs (List.take g
  l)).length),(6,AV.sl 19 (List.map encMs l)),(7,AV.i (↑(List.map encMs l).length:Int)),(8,AV.i (g:Int))] [(1,ABlk.buf 193 19 (List.map encMs (List.take g l)))] 2)∧∀ (g:Nat),g<=l.length->(decide ((g:Int) <
  (↑(List.map encMs l).length:Int))=true->(0:Int)<=(g:Int)∧(g:Int) < (↑(List.map encMs l).length:Int)∧AV.agg (nthR (List.map encMs l) (g:Int).toNat)=AV.agg (encMs (l.getD (g:Int).toNat default)) ∧
  (List.map encMs (List.take g l)).length+1<=9223372036854775807∧((List.map encMs (List.take g l)).length+1) * 160<=140737488355328∧In64 ((g:Int)+1)∧∃ (g':Nat),g'<=l.length∧l.length-g' < l.length-g∧AS.mk
  [(3,AV.own 1 ((List.map encMs (List.take g l)).length+1)),(6,AV.sl 19 (List.map encMs l)),(7,AV.i (↑(List.map encMs l).length:Int)),(8,AV.i ((g:Int)+1))] [(1,ABlk.buf 193 19 (List.map encMs (List.take g l) ++
  [(encMs (l.getD (g:Int).toNat default))]))] 2=AS.mk [(3,AV.own 1 (List.map encMs (List.take g' l)).length),(6,AV.sl 19 (List.map encMs l)),(7,AV.i (↑(List.map encMs l).length:Int)),(8,AV.i (↑g':Int))] [(1,ABlk.buf
  193 19 (List.map encMs (List.take g' l)))] 2)∧(decide ((g:Int) < (↑(List.map encMs l).length:Int))=false->AV.fresh 193 19 (List.map encMs (List.take g l))=AV.fresh 193 19 (List.map encMs l)):=by
   have hlm:(List.map encMs l).length=l.length:=List.length_map _
   have:(List.map encMs l).length=l.length:=by simp only [List.length_map]
   refine ⟨⟨0,by omega,rfl⟩,fun g hg=>⟨fun hd=>?_,fun hd=>?_⟩⟩
   · have hlt:g < l.length:=by have h9:=of_decide_eq_true hd;have h8:=hg;(try simp only [List.length_map] at h8);(try simp only [List.length_map] at h9);omega
     have:(List.map encMs (List.take g l)).length=g:=by simp only [List.length_map,List.length_take];omega
     try rw [show (g:Int).toNat=g from Int.toNat_natCast g]
     refine ⟨(by omega),(by omega),congrArg AV.agg (row_at encMs hlt),(by omega),(by omega),(by unfold In64;omega),⟨g+1,by omega,by omega,?_⟩⟩
     · first | (rw [<- take_succ_map _ _ hlt,List.length_append];rfl) | (rw [<- take_succ _ hlt,List.length_append];rfl)
   · have hge:g=l.length:=by have h9:=of_decide_eq_false hd;have h8:=hg;(try simp only [List.length_map] at h8);(try simp only [List.length_map] at h9);omega
     subst hge
     exact (by rw [List.take_length])
 exact c_of Tryz.f22 (fzB (mkB spW 22 [(4,1,rdL 19 encMs l 19 true)] (la0 (la22 l)))) (by kernel_rfl) (by kernel_rfl) (by kernel_rfl) (by kernel_rfl) key (by kernel_rfl)
def sp39 (h:Hm):Nat->List AV->Option AV
 | 38,_=>some (.i (fHm h))
 | 26,_=>some (.i (fHm h))
 | n,x=>spM n x
def la39 (h:Hm) (l:List Ms):LA:={
 pre:=[.ren 14 1,.keep [2,6,22,23,24] [1],.bound 2],post:=[.keep [2,6,22,23,24] [1],.bound 2]
 Gh:=Nat
 st:=fun i=>⟨[(2,.elt 3 [encHm h] 0 0),(6,.ref 1),(22,.sl 19 (l.map encMs)),(23,.i (l.map encMs).length),(24,.i i)],[(1,.map (knS ((l.take i).map Ms.nm)))],2⟩
 ok:=fun i=>i<=l.length∧∀ j,j < i->fM1 h.ws.length l j=0
 ms:=fun i=>l.length-i }
theorem fM1_h {n:Nat} {l:List Ms} {i:Nat} (h:fM1 n l i=0):hasK (knS ((l.take i).map Ms.nm)) (.str (l.getD i default).nm)=false:=by
 unfold fM1 at h
 rw [first_zero,first_zero] at h
 exact when_z (by decide) h.2.1
theorem fMh_m (h:Hm) (l:List Ms):fMh h l=sFirst [fHm h,sWhen (decide (((List.map encMs l).length:Int) > 8)) 5]:=by
 unfold fMh
 rw [List.length_map]
theorem fM1_m (h:Hm) (l:List Ms) (i:Nat):fM1 h.ws.length l i=sFirst [sWhen (!sName (l.getD i default).nm) 8,sWhen (hasK (knS ((l.take i).map Ms.nm)) (.str (l.getD i default).nm)) 9,sWhen (if decide ((l.getD i default).w < 0)=true then true else decide ((l.getD i default).w>=((List.map encWn h.ws).length:Int))) 10,sWithin (l.getD i default).c 0 1000000,fPaC (encPm (l.getD i default))]:=by
 unfold fM1
 rw [List.length_map,fPaC_m]
abbrev zc39b (l:List Ms) (g:Nat):=l.getD (g:Int).toNat default
abbrev zc39f (g:Nat) (l:List Ms):=knS (List.map Ms.nm (List.take g l))
abbrev zc39d (l:List Ms) (g:Nat) (h:Hm):=if decide ((zc39b l g).w < 0)=true then true else decide ((zc39b l g).w>=(↑(List.map encWn h.ws).length:Int))
abbrev zc39a (l:List Ms) (g:Nat) (h:Hm):=[hdI [AV.i (sWhen (!sName (zc39b l g).nm) (8:Int))],hdI [AV.i (sWhen (hasK (zc39f g l) (AV.str (zc39b l g).nm)) (9:Int))],hdI [AV.i (sWhen (zc39d l g h) (10:Int))],hdI [AV.i (sWithin (zc39b l g).c (0:Int) (1000000:Int))],hdI [AV.i (fPaC (encPm (zc39b l g)))]]
abbrev zc39c (l:List Ms):=(↑(List.map encMs l).length:Int)
abbrev zc39e (l:List Ms) (g:Nat):=(!decide ((zc39b l g).w < 0))=true->(!decide ((zc39b l g).w < 0))=true
abbrev zc39g (h:Hm) (l:List Ms):=[hdI [AV.i (fHm h)],hdI [AV.i (sWhen (decide ((zc39c l) > 8)) (5:Int))]]
theorem c39 (h:Hm) (l:List Ms) (hm:h.nm.length<=1000000) (hw:h.ws.length<=1000) (hl:l.length<=1000) (hn:∀ x,x ∈ l->x.nm.length<=1000):PCall Tryz.prog G0 39 [.agg (encHm h),.sl 19 (l.map encMs)] (.i (fMs h l)):=by
 have key :
  PCall Tryz.prog G0 38 [AV.agg (encHm h)] (AV.i (fHm h))∧PCall Tryz.prog G0 116 [AV.bool (decide ((zc39c l) > 8)),AV.i 5] (AV.i (sWhen (decide ((zc39c l) > 8)) (5:Int)))∧PCall Tryz.prog G0 104 [AV.sl 1 [[AV.i (fHm h)],[AV.i
  (sWhen (decide ((zc39c l) > 8)) (5:Int))]]] (AV.i (sFirst (zc39g h l)))∧((sFirst (zc39g h l) != 0)=true->AV.i (sFirst (zc39g h l))=AV.i (fMs h l))∧((sFirst (zc39g h l) != 0)=false->(∃ (g:Nat),(g<=l.length∧∀ (j :
  Nat),j < g->fM1 h.ws.length l j=(0:Int))∧AS.mk [(2,AV.elt 3 [(encHm h)] 0 0),(6,AV.ref 1),(22,AV.sl 19 (List.map encMs l)),(23,AV.i (zc39c l)),(24,AV.i 0)] [(1,ABlk.map [])] 2=AS.mk [(2,AV.elt 3 [(encHm h)] 0
  0),(6,AV.ref 1),(22,AV.sl 19 (List.map encMs l)),(23,AV.i (zc39c l)),(24,AV.i (g:Int))] [(1,ABlk.map (zc39f g l))] 2)∧∀ (g:Nat),(g<=l.length∧∀ (j:Nat),j < g->fM1 h.ws.length l j=(0:Int))->(decide ((↑g :
  Int) < (zc39c l))=true->(0:Int)<=(g:Int)∧(g:Int) < (zc39c l)∧AV.agg (nthR (List.map encMs l) (g:Int).toNat)=AV.agg (encMs (zc39b l g))∧(mlook (AV.str (zc39b l g).nm) (zc39f g l)).isSome=true∧(zc39e l g) ∧
  (zc39e l g)∧(zc39e l g)∧(zc39e l g)∧(zc39e l g)∧(decide ((zc39b l g).w < 0)=false->(!decide ((zc39b l g).w < 0))=true)∧PCall Tryz.prog G0 117 [AV.str (zc39b l g).nm] (AV.bool (sName (zc39b l g).nm))∧PCall Tryz.prog
  G0 116 [AV.bool !sName (zc39b l g).nm,AV.i 8] (AV.i (sWhen (!sName (zc39b l g).nm) (8:Int)))∧lookV false (AV.bool false) (mlook (AV.str (zc39b l g).nm) (zc39f g l))=AV.bool (hasK (zc39f g l) (AV.str (zc39b l g).nm))∧PCall
  Tryz.prog G0 116 [AV.bool (hasK (zc39f g l) (AV.str (zc39b l g).nm)),AV.i 9] (AV.i (sWhen (hasK (zc39f g l) (AV.str (zc39b l g).nm)) (9:Int)))∧PCall Tryz.prog G0 116 [AV.bool (zc39d l g h),AV.i 10] (AV.i (sWhen (zc39d l g h)
  (10:Int)))∧PCall Tryz.prog G0 118 [AV.i (zc39b l g).c,AV.i 0,AV.i 1000000] (AV.i (sWithin (zc39b l g).c (0:Int) (1000000:Int)))∧PCall Tryz.prog G0 121 [AV.agg (encPm (zc39b l g))] (AV.i (fPaC (encPm (zc39b l g)))) ∧
  PCall Tryz.prog G0 104 [AV.sl 1 [[AV.i (sWhen (!sName (zc39b l g).nm) (8:Int))],[AV.i (sWhen (hasK (zc39f g l) (AV.str (zc39b l g).nm)) (9:Int))],[AV.i (sWhen (zc39d l g h) (10:Int))],[AV.i (sWithin (zc39b l g).c (0:Int)
  (1000000:Int))],[AV.i (fPaC (encPm (zc39b l g)))]]] (AV.i (sFirst (zc39a l g h)))∧((sFirst (zc39a l g h) != 0)=true->AV.i (sFirst (zc39a l g h))=AV.i (fMs h l))∧((sFirst (zc39a l g h) != 0)=false->(mput (AV.str
  (zc39b l g).nm) (AV.bool true) (zc39f g l)).isSome=true∧In64 ((g:Int)+1)∧∃ (g':Nat),(g'<=l.length∧∀ (j:Nat),j < g'->fM1 h.ws.length l j=(0:Int))∧l.length-g' < l.length-g∧AS.mk [(2,AV.elt 3 [(encHm
  h)] 0 0),(6,AV.ref 1),(22,AV.sl 19 (List.map encMs l)),(23,AV.i (zc39c l)),(24,AV.i ((g:Int)+1))] [(1,ABlk.map ((mput (AV.str (zc39b l g).nm) (AV.bool true) (zc39f g l)).getD []))] 2=AS.mk [(2,AV.elt 3 [(encHm h)]
  0 0),(6,AV.ref 1),(22,AV.sl 19 (List.map encMs l)),(23,AV.i (zc39c l)),(24,AV.i (↑g':Int))] [(1,ABlk.map (knS (List.map Ms.nm (List.take g' l))))] 2))∧(decide ((g:Int) < (zc39c l))=false->AV.i 0=AV.i (fMs h
  l))):=by
   delta zc39a zc39b zc39c zc39d zc39e zc39f zc39g
   have hlm:(List.map encMs l).length=l.length:=List.length_map _
   have:(List.map encMs l).length=l.length:=by simp only [List.length_map]
   have:(List.map encWn h.ws).length=h.ws.length:=by simp only [List.length_map]
   refine ⟨(c38 h hm hw),(c116 _ _),(c104 [_,_] (by simp)),fun h1=>?_,fun h1=>?_⟩
   · have e:fMs h l=fMh h l:=ls_first (by rw [fMh_m];exact h1)
     rw [e,fMh_m]
     rfl
   · have hz:(fMh h l != 0)=false:=by rw [fMh_m];exact h1
     refine ⟨⟨0,⟨by omega,by intros;omega⟩,rfl⟩,fun g ⟨hg,ha⟩=>⟨fun hd=>?_,fun hd=>?_⟩⟩
     · have hlt:g < l.length:=by have h9:=of_decide_eq_true hd;have h8:=hg;(try simp only [List.length_map] at h8);(try simp only [List.length_map] at h9);omega
       have hfe:=fM1_m h l g
       try rw [show (g:Int).toNat=g from Int.toNat_natCast g]
       refine ⟨(by omega),(by omega),congrArg AV.agg (row_at encMs hlt),(look_some (fun s=>s) _ _),fun h=>h,fun h=>h,fun h=>h,fun h=>h,fun h=>h,fun h=>by first | exact h | (rw [h];rfl) | simp_all,(c117 _ (by have:=hn _ (getD_mem hlt);omega)),(c116 _ _),(look_key (fun s=>s) _ _),(c116 _ _),(c116 _ _),(c118 _ _ _),((by rw [fPaC_m];exact c121 (l.getD g default).lo (l.getD g default).hi)),(c104 [_,_,_,_,_] (by simp)),fun h2=>?_,fun h2=>?_⟩
       · have h3:(fM1 h.ws.length l g != 0)=true:=by rw [hfe];exact h2
         have e:=ls_hit (fin:=0) (f:=fM1 h.ws.length l) hz (decide_eq_true (show (g:Int) < l.length by omega)) ha h3
         rw [show fMs h l=fM1 h.ws.length l g from e,hfe]
         rfl
       · have hgz:fM1 h.ws.length l g=0:=hfe.trans (bne_f h2)
         have hgh:=fM1_h hgz
         refine ⟨?_,(by unfold In64;omega),⟨g+1,⟨by omega,all_ext ha hgz⟩,by omega,?_⟩⟩
         · rw [put_nm hgh]
           rfl
         · rw [put_nm hgh,take_nm Ms.nm hlt]
           rfl
     · have hge:g=l.length:=by have h9:=of_decide_eq_false hd;have h8:=hg;(try simp only [List.length_map] at h8);(try simp only [List.length_map] at h9);omega
       subst hge
       exact congrArg AV.i (ls_end (f:=fM1 h.ws.length l) hz (decide_eq_false (Int.lt_irrefl _)) (Nat.le_refl _) ha).symm
 exact c_of Tryz.f39 (fzB (modA 8 8 (fun a=>{ a with rdb:=rdK }) (mkB (sp39 h) 39 [(7,1,rdL 19 encMs l 19 true)] (la0 (la39 h l))))) (by kernel_rfl) (by kernel_rfl) (by kernel_rfl) (by kernel_rfl) key (by kernel_rfl)
def keyB (n:Int):AV × AV:=(.i n,.bool true)
def hasKI (es:List (AV × AV)) (k:Int):Bool:=es.any fun p=>match p.1 with
 | .int _ x=>x == k
 | _=>false
def rdKI:BL->List AV->Option AV:=fun bs ins=>match ins with
 | [.ref id,.int _ k]=>match blkOf bs id with
  | .map es=>some (.bool (hasKI es k))
  | _=>none
 | _=>none
theorem hasKI_e (m:List Int) (k:Int):hasKI (m.map keyB) k=m.any fun x=>x == k:=by
 unfold hasKI
 rw [List.any_map]
 rfl
theorem look_B (k:Int):∀ m:List Int,lookV false (.bool false) (mlook (.i k) (m.map keyB))=.bool (hasKI (m.map keyB) k)∧(mlook (.i k) (m.map keyB)).isSome=true
 | []=>⟨rfl,rfl⟩
 | x::m=>by
  obtain ⟨h1,h2⟩:=look_B k m
  rw [hasKI_e] at h1 ⊢
  simp only [List.map_cons,keyB,mlook,eqCell,if_true,List.any_cons] at h1 h2 ⊢
  by_cases h:k=x
  · subst h;simp [lookV]
  · rw [beq_false_of_ne h,show (x == k)=false from beq_false_of_ne fun e=>h e.symm,Bool.false_or]
    exact ⟨h1,h2⟩
theorem put_B (k:Int):∀ m:List Int,(m.any fun x=>x == k)=false->mput (.i k) (.bool true) (m.map keyB)=some ((m++[k]).map keyB)
 | [],_=>rfl
 | x::m,h=>by
  rw [List.any_cons,Bool.or_eq_false_iff] at h
  have ih:=put_B k m h.2
  have hx:(k == x)=false:=by
   have:=h.1
   rw [beq_eq_false_iff_ne] at this ⊢
   exact fun e=>this e.symm
  simp only [List.map_cons,keyB,mput,eqCell,if_true,List.cons_append] at ih ⊢
  rw [hx]
  simp only [ih]
def wK (l:List Ms) (g:List Int) (i:Nat):List Int:=(g.take i).map fun k=>(msI l k).w
theorem wK_cf (l:List Ms) (g:List Int) (i:Nat):hasKI ((wK l g i).map keyB) (msI l (g.getD i default)).w=cfI l g i:=by
 rw [hasKI_e]
 unfold wK cfI
 rw [List.any_map]
 rfl
theorem wK_step {l:List Ms} {g:List Int} {i:Nat} (h:i < g.length):wK l g (i+1)=wK l g i++[(msI l (g.getD i default)).w]:=by
 unfold wK
 rw [List.take_add_one,List.map_append]
 simp [List.getD_eq_getElem?_getD,h]
def sp169 (l:List Ms) (g:List Int):Nat->List AV->Option AV
 | 150,_=>some (.i (fIx g l.length))
 | 114,_=>some (.i (fIx g l.length))
 | n,x=>spW n x
def la169 (l:List Ms) (g:List Int):LA:={
 pre:=[.ren 9 1,.keep [0,6,17,18,19] [1],.bound 2],post:=[.keep [0,6,17,18,19] [1],.bound 2]
 Gh:=Nat
 st:=fun i=>⟨[(0,.sl 19 (l.map encMs)),(6,.ref 1),(17,.sl 1 (g.map encI)),(18,.i (g.map encI).length),(19,.i i)],[(1,.map ((wK l g i).map keyB))],2⟩
 ok:=fun i=>i<=g.length∧∀ j,j < i->cfI l g j=false
 ms:=fun i=>g.length-i }
abbrev zc169a (l:List Ms) (g:List Int) (g_1:Nat):=l.getD (g.getD (g_1:Int).toNat default).toNat default
theorem c169 (l:List Ms) (g:List Int) (hg0:g.length<=1000):PCall Tryz.prog G0 169 [.sl 19 (l.map encMs),.sl 1 (g.map encI)] (.i (fSet l g)):=by
 have key :
  PCall Tryz.prog G0 150 [AV.sl 1 (List.map encI g),AV.i (↑(List.map encMs l).length:Int)] (AV.i (fIx g (↑l.length:Int)))∧((fIx g (↑l.length:Int) != 0)=true->AV.i (fIx g (↑l.length:Int))=AV.i (fSet l g))∧((fIx g
  (↑l.length:Int) != 0)=false->(∃ (g_1:Nat),(g_1<=g.length∧∀ (j:Nat),j < g_1->cfI l g j=false)∧AS.mk [(0,AV.sl 19 (List.map encMs l)),(6,AV.ref 1),(17,AV.sl 1 (List.map encI g)),(18,AV.i (↑(List.map encI
  g).length:Int)),(19,AV.i 0)] [(1,ABlk.map [])] 2=AS.mk [(0,AV.sl 19 (List.map encMs l)),(6,AV.ref 1),(17,AV.sl 1 (List.map encI g)),(18,AV.i (↑(List.map encI g).length:Int)),(19,AV.i (g_1:Int))] [(1,ABlk.map
  (List.map keyB (wK l g g_1)))] 2)∧∀ (g_1:Nat),(g_1<=g.length∧∀ (j:Nat),j < g_1->cfI l g j=false)->(decide ((g_1:Int) < (↑(List.map encI g).length:Int))=true->(0:Int)<=(g_1:Int)∧(g_1:Int) <
  (↑(List.map encI g).length:Int)∧nth (nthR (List.map encI g) (g_1:Int).toNat) 0=AV.i (g.getD (g_1:Int).toNat default)∧(0:Int)<=g.getD (g_1:Int).toNat default∧g.getD (g_1:Int).toNat default < (↑(List.map
  encMs l).length:Int)∧(mlook (AV.i (zc169a l g g_1).w) (List.map keyB (wK l g g_1))).isSome=true∧nth (nthR (List.map encMs l) (g.getD (g_1:Int).toNat default).toNat) 1=AV.i (zc169a l g g_1).w∧lookV false (AV.bool
  false) (mlook (AV.i (zc169a l g g_1).w) (List.map keyB (wK l g g_1)))=AV.bool (hasKI (List.map keyB (wK l g g_1)) (zc169a l g g_1).w)∧(hasKI (List.map keyB (wK l g g_1)) (zc169a l g g_1).w=true->AV.i 24=AV.i (fSet l g)) ∧
  (hasKI (List.map keyB (wK l g g_1)) (zc169a l g g_1).w=false->(0:Int)<=g.getD (g_1:Int).toNat default∧g.getD (g_1:Int).toNat default < (↑(List.map encMs l).length:Int)∧(mput (AV.i (zc169a l g g_1).w) (AV.bool
  true) (List.map keyB (wK l g g_1))).isSome=true∧nth (nthR (List.map encMs l) (g.getD (g_1:Int).toNat default).toNat) 1=AV.i (zc169a l g g_1).w∧In64 ((g_1:Int)+1)∧∃ (g':Nat),(g'<=g.length∧∀ (j:Nat),j < g'
  → cfI l g j=false)∧g.length-g' < g.length-g_1∧AS.mk [(0,AV.sl 19 (List.map encMs l)),(6,AV.ref 1),(17,AV.sl 1 (List.map encI g)),(18,AV.i (↑(List.map encI g).length:Int)),(19,AV.i ((g_1:Int)+1))] [(1,
  ABlk.map ((mput (AV.i (zc169a l g g_1).w) (AV.bool true) (List.map keyB (wK l g g_1))).getD []))] 2=AS.mk [(0,AV.sl 19 (List.map encMs l)),(6,AV.ref 1),(17,AV.sl 1 (List.map encI g)),(18,AV.i (↑(List.map encI g).length :
  Int)),(19,AV.i (↑g':Int))] [(1,ABlk.map (List.map keyB (wK l g g')))] 2))∧(decide ((g_1:Int) < (↑(List.map encI g).length:Int))=false->AV.i 0=AV.i (fSet l g))):=by
   delta zc169a
   have hlm:(List.map encMs l).length=l.length:=List.length_map _
   have hgm:(List.map encI g).length=g.length:=List.length_map _
   have:(List.map encMs l).length=l.length:=by simp only [List.length_map]
   have:(List.map encI g).length=g.length:=by simp only [List.length_map]
   refine ⟨((by rw [hlm];exact c150 _ _ hg0)),fun h1=>?_,fun h1=>?_⟩
   · rw [fSet,if_pos h1]
   · have hz:fIx g l.length=0:=bne_f h1
     obtain ⟨x1,x2⟩:=ix_z hz
     refine ⟨⟨0,⟨by omega,by intros;omega⟩,rfl⟩,fun g_1 ⟨hg,ha⟩=>⟨fun hd=>?_,fun hd=>?_⟩⟩
     · have hlt:g_1 < g.length:=by have h9:=of_decide_eq_true hd;have h8:=hg;(try simp only [List.length_map] at h8);(try simp only [List.length_map] at h9);omega
       have hx:=x1 g_1 hlt
       have hcf:=wK_cf l g g_1
       try rw [show (g_1:Int).toNat=g_1 from Int.toNat_natCast g_1]
       refine ⟨(by omega),(by omega),(congrArg (fun r=>nth r 0) (row_at encI hlt)),(by omega),(by omega),(look_B _ _).2,(congrArg (fun r=>nth r 1) (row_at encMs (by omega))),(look_B _ _).1,fun h2=>?_,fun h2=>⟨(by omega),(by omega),?_,(congrArg (fun r=>nth r 1) (row_at encMs (by omega))),(by unfold In64;omega),⟨g_1+1,⟨by omega,all_ext ha (hcf.symm.trans h2)⟩,by omega,?_⟩⟩⟩
       · rw [fSet,if_neg (by rw [hz];decide),if_pos (decide_eq_true (fi_ex (p:=cfI l g) hlt (hcf.symm.trans h2)))]
       · rw [put_B _ _ (by rw [<- hasKI_e];exact h2)]
         rfl
       · rw [put_B _ _ (by rw [<- hasKI_e];exact h2),wK_step hlt]
         rfl
     · have hge:g_1=g.length:=by have h9:=of_decide_eq_false hd;have h8:=hg;(try simp only [List.length_map] at h8);(try simp only [List.length_map] at h9);omega
       subst hge
       rw [fSet,if_neg (by rw [hz];decide),if_neg (by rw [decide_eq_true_eq,fi_none (p:=cfI l g) ha];omega)]
 exact c_of Tryz.f169 (modA 8 6 (fun a=>{ a with rdb:=rdKI }) (fzB (mkB (sp169 l g) 169 [(7,1,rdL 1 encI g 1 false),(8,5,rdL 19 encMs l 1 false),(10,5,rdL 19 encMs l 1 false)] (la0 (la169 l g))))) (by kernel_rfl) (by kernel_rfl) (by kernel_rfl) (by kernel_rfl) key (by kernel_rfl)
def ckE (h:Hm) (l:List Ms) (g:List Int):Int:=if (fMs h l != 0)=true then fMs h l else fSet l g
end Go.Proofs.YtfoeefaamjknpaaGreatDoor
