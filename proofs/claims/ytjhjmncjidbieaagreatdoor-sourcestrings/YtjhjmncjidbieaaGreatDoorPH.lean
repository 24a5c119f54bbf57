/-
  The same types, and SourceStrings: contracts. No condition but the theorems' own. What SourceStrings' row says of the program's text. No condition.
-/
import Derived.Test.YtjhjmncjidbieaaGreatDoorPG
import Derived.Test.YtjhjmncjidbieaaGreatDoorPD
import Derived.Test.YtjhjmncjidbieaaGreatDoorAvD
import Derived.Test.YtjhjmncjidbieaaGreatDoorPE
namespace Go.Proofs.YtjhjmncjidbieaaGreatDoor
open Go Go.Av Go.RowKit
def sp81:Nat->List AV->Option AV
 | 54,_=>some (.bool true)
 | n,x=>spR n x
def la81 (t:Ty):LA:={
 pre:=[.keep [2,3,5] [],.bound 1],post:=[.keep [2,3,5] [],.bound 1]
 Gh:=Nat
 st:=fun i=>⟨[(2,.elt 13 [encTy t] 0 0),(3,.elt 13 [encTy t] 0 0),(5,.i i)],[],1⟩
 ok:=fun i=>i<=t.st.length
 ms:=fun i=>t.st.length-i }
def rdFf:List AV->Option AV:=fun _=>some (.bool false)
def rdTt:List AV->Option AV:=fun _=>some (.bool true)
def nSym (r:Nat) (B:BA):BA:={ B with ra:=fun i=>if i.beq r then { B.ra i with ans:=(B.ra i).ans.map fun a=>{ a with sym:=false } } else B.ra i }
abbrev zc81a (t:Ty):=(↑(List.map encSg t.st).length:Int)
abbrev zc81b (t:Ty) (g:Nat):=t.st.getD (g:Int).toNat default
theorem c81 (t:Ty) (hs:t.sh.length<=1000) (hq:t.sq.length<=1000) (hn:t.st.length<=1000) (he:∀ x,x ∈ t.st->x.e.length<=1000):PCall Tryz.prog G0 81 [.agg (encTy t),.agg (encTy t)] (.bool true):=by
 have key :
  (AV.bool !t.name == t.name)=AV.bool false∧PCall Tryz.prog G0 54 [AV.sl 1 (List.map encI t.sh),AV.sl 1 (List.map encI t.sh)] (AV.bool true)∧AV.bool false=AV.bool false∧AV.bool false=AV.bool false∧(AV.bool !(t.d0 ==
  t.d0 && true && (t.d1 == t.d1 && true && (t.d2 == t.d2 && true && (t.d3 == t.d3 && true && (t.d4 == t.d4 && true && (t.d5 == t.d5 && true && (t.d6 == t.d6 && true && (t.d7 == t.d7 && true && true)))))))))=AV.bool false∧AV.bool
  false=AV.bool false∧AV.bool (t.side != t.side)=AV.bool false∧AV.bool false=AV.bool false∧PCall Tryz.prog G0 54 [AV.sl 1 (List.map encI t.sq),AV.sl 1 (List.map encI t.sq)] (AV.bool true)∧AV.bool false=AV.bool false
  ∧ AV.bool false=AV.bool false∧AV.bool ((zc81a t) != (zc81a t))=AV.bool false∧AV.bool false=AV.bool false∧(∃ (g:Nat),g<=t.st.length∧AS.mk [(2,AV.elt 13 [(encTy t)] 0 0),(3,AV.elt 13 [(encTy t)] 0 0),(5,AV.i
  0)] [] 1=AS.mk [(2,AV.elt 13 [(encTy t)] 0 0),(3,AV.elt 13 [(encTy t)] 0 0),(5,AV.i (g:Int))] [] 1)∧∀ (g:Nat),g<=t.st.length->(decide ((g:Int) < (zc81a t))=true->(0:Int)<=(g:Int)∧(g:Int) < (zc81a
  t)∧(0:Int)<=(g:Int)∧(g:Int) < (zc81a t)∧(0:Int)<=(g:Int)∧(g:Int) < (zc81a t)∧(0:Int)<=(g:Int)∧(g:Int) < (zc81a t)∧nth (nthR (List.map encSg t.st) (g:Int).toNat) 0=AV.i (zc81b t g).p ∧
  nth (nthR (List.map encSg t.st) (g:Int).toNat) 0=AV.i (zc81b t g).p∧AV.bool ((zc81b t g).p != (zc81b t g).p)=AV.bool false∧nth (nthR (List.map encSg t.st) (g:Int).toNat) 1=AV.sl 1 (List.map encI (zc81b t g).e)∧nth
  (nthR (List.map encSg t.st) (g:Int).toNat) 1=AV.sl 1 (List.map encI (zc81b t g).e)∧PCall Tryz.prog G0 54 [AV.sl 1 (List.map encI (zc81b t g).e),AV.sl 1 (List.map encI (zc81b t g).e)] (AV.bool true)∧AV.bool false=AV.bool
  false∧AV.bool false=AV.bool false∧In64 ((g:Int)+1)∧∃ (g':Nat),g'<=t.st.length∧t.st.length-g' < t.st.length-g∧AS.mk [(2,AV.elt 13 [(encTy t)] 0 0),(3,AV.elt 13 [(encTy t)] 0 0),(5,AV.i ((g:Int) +
  1))] [] 1=AS.mk [(2,AV.elt 13 [(encTy t)] 0 0),(3,AV.elt 13 [(encTy t)] 0 0),(5,AV.i (↑g':Int))] [] 1)∧(decide ((g:Int) < (zc81a t))=false->AV.bool true=AV.bool true):=by
   delta zc81a zc81b
   have hstm:(List.map encSg t.st).length=t.st.length:=List.length_map _
   have bb:∀ {α:Type} [BEq α] [LawfulBEq α] (x:α),(x != x)=false:=fun x=>by simp
   refine ⟨congrArg AV.bool (bb t.name),by have:=c54 t.sh t.sh hs;rwa [beq_self_eq_true] at this,rfl,rfl,congrArg AV.bool (by simp),rfl,congrArg AV.bool (bb t.side),rfl,by have:=c54 t.sq t.sq hq;rwa [beq_self_eq_true] at this,rfl,rfl,congrArg AV.bool (bb _),rfl,⟨0,Nat.zero_le _,rfl⟩,fun g hg=>⟨fun hd=>?_,fun _=>rfl⟩⟩
   have hlt:=lt_of_dec hd
   rw [hstm] at hlt
   rw [Int.toNat_natCast]
   refine ⟨by omega,by omega,by omega,by omega,by omega,by omega,by omega,by omega,congrArg (fun r=>nth r 0) (row_at encSg hlt),congrArg (fun r=>nth r 0) (row_at encSg hlt),congrArg AV.bool (bb _),congrArg (fun r=>nth r 1) (row_at encSg hlt),congrArg (fun r=>nth r 1) (row_at encSg hlt),by have:=c54 (t.st.getD g default).e (t.st.getD g default).e (he _ (getD_mem hlt));rwa [beq_self_eq_true] at this,rfl,rfl,by unfold In64;omega,g+1,hlt,by omega,rfl⟩
 exact c_of Tryz.f81 ({ nSym 1 (nSym 6 (fzB (mkB sp81 81 [(1,4,rdFf),(1,11,rdFf),(1,12,rdFf),(1,18,rdFf),(1,19,rdFf),(1,25,rdFf),(1,26,rdFf),(1,33,rdFf),(1,34,rdFf),(1,42,rdFf),(1,43,rdFf),(6,5,rdP1 t),(6,11,rdP1 t),(6,12,rdFf),(6,19,rdE1 t),(6,25,rdE1 t),(6,27,rdFf),(6,28,rdFf)] (fun i=>if i.beq 0 then some (la81 t) else none)))) with cl:=clL [49,85] }) (by kernel_rfl) (by kernel_rfl) (by kernel_rfl) (by kernel_rfl) key (by kernel_rfl)
theorem mem_bd {l:List Int} {U:Int} (hU:U < 1000000000000) (h:∀ k,k < l.length->0<=l.getD k default∧l.getD k default<=U):∀ n,n ∈ l->0<=n∧n < 1000000000000:=fun n hn=>by
 obtain ⟨i,hi,rfl⟩:=List.getElem_of_mem hn
 have:=h i hi
 rw [List.getD_eq_getElem?_getD,List.getElem?_eq_getElem hi] at this
 have h2:0<=l[i]∧l[i]<=U:=this
 omega
theorem prB_of {t:Ty} (hS:ShortTy t) (h:sTyS t=0):PrB t:=by
 have hO:=ok_of h
 have hD:=side_of h
 have h0:=h
 unfold sTyS at h0
 split at h0
 · rename_i h1
   rw [h0] at h1
   exact absurd h1 (by decide)
 · rename_i h1
   obtain ⟨h2,_,_⟩:=ls_zero' h0
   have h1:cTyS1 t=0:=by simpa using h1
   unfold cTyS1 at h1
   rw [first_zero,first_zero,first_zero] at h1
   unfold cTyS2 at h2
   rw [first_zero,first_zero,first_zero,first_zero] at h2
   refine ⟨by have:=hS.n;omega,by have:=hS.s;omega,by have:=hS.q;omega,by have:=hS.st;omega,fun x hx=>by have:=hS.e x hx;omega,mem_bd (by decide) (ranged_of h1.2.2.1),mem_bd (by decide) (ranged_of h2.2.2.2.1),mem_bd (U:=2000) (by decide) fun k hk=>hD.1 k hk,by omega,fun x hx=>?_⟩
   obtain ⟨i,hi,rfl⟩:=List.getElem_of_mem hx
   have hp:=hO.pb i hi
   have he:=hO.el i hi
   have hb:=hO.eb i
   have e:t.sg i=t.st[i]:=by
    unfold Ty.sg
    rw [List.getD_eq_getElem?_getD,List.getElem?_eq_getElem hi]
    rfl
   rw [e] at hp he hb
   exact ⟨by omega,mem_bd (U:=100000000) (by decide) fun k hk=>hb k hi (by omega)⟩
def prX (t:Ty):List UInt8:=prT t t.st.length
def ppX (t:Ty):List UInt8:=if sTyS t != 0 then [] else prX t
def prsT (s:List UInt8):Ty:=if decide ((s.length:Int) > 4096)=true then zT else if kS s < (lns s).length then zT else if eT (lns s).length (tyN (lns s) (lns s).length) != 0 then zT else tyN (lns s) (lns s).length
def prsI (s:List UInt8):Int:=if decide ((s.length:Int) > 4096)=true then 0 else if kS s < (lns s).length then (kS s:Int) else if eT (lns s).length (tyN (lns s) (lns s).length) != 0 then ((lns s).length:Int) else 0
def prsE (s:List UInt8):Int:=if decide ((s.length:Int) > 4096)=true then 26 else if kS s < (lns s).length then 25 else if eT (lns s).length (tyN (lns s) (lns s).length) != 0 then eT (lns s).length (tyN (lns s) (lns s).length) else 0
theorem ps_tup (s:List UInt8):psT s.length (kS s) (lns s).length (tyN (lns s) (lns s).length)=.tup [.agg (encTy (prsT s)),.i (prsI s),.i (prsE s)]:=by
 unfold psT prsT prsI prsE
 split
 · rfl
 · split
   · rfl
   · split <;> rfl
theorem k78 (s:List UInt8) (hl:s.length<=990 ∨ 4096 < s.length) (hs:s.length<=10000):PCall Tryz.prog G0 78 [.str s] (.tup [.agg (encTy (prsT s)),.i (prsI s),.i (prsE s)]):=by
 rw [<- ps_tup]
 exact c78 s hl hs
theorem k80 (s:List UInt8) (hl:s.length<=990 ∨ 4096 < s.length) (hs:s.length<=10000):PCall Tryz.prog G0 80 [.str s] (.tup [.agg (encTy (prsT s)),.i (prsI s),.i (prsE s)]):=by
 rw [<- ps_tup,ps_eq]
 exact c80 s hl hs
theorem prsT_b (s:List UInt8) (hl:s.length<=990 ∨ 4096 < s.length):TyB 1000 (prsT s)∧(prsT s).st.length<=1000:=by
 have hz:TyB 1000 zT∧zT.st.length<=1000:=⟨⟨Nat.zero_le _,Nat.zero_le _,Nat.zero_le _,fun x hx=>by cases hx⟩,Nat.zero_le _⟩
 unfold prsT
 split
 · exact hz
 · rename_i h1
   rw [decide_eq_true_eq] at h1
   split
   · exact hz
   · split
     · exact hz
     · obtain ⟨l1,l2⟩:=ln_len (lns_is s)
       exact ⟨ty_b (fun x hx=>by have:=l2 x hx;omega) _,Nat.le_trans (ty_st _ _) (by omega)⟩
theorem l135:∀ w l,w.length<=2000->l.length<=101->(∀ n,n ∈ l->0<=n∧n < 1000000000000)->PCall Tryz.prog G0 135 [.str w,.sl 1 (l.map encI)] (.str (lnT w l)):=fun w l hw hl hb=>c135' w l (by omega) (by omega) hb
theorem l140:∀ w l,w.length<=2000->l.length<=101->(∀ n,n ∈ l->0<=n∧n < 1000000000000)->PCall Tryz.prog G0 140 [.str w,.sl 1 (l.map encI)] (.str (lnT w l)):=fun w l hw hl hb=>c140 w l (by omega) (by omega) hb
theorem k77 (t:Ty) (hS:ShortTy t):PCall Tryz.prog G0 77 [.agg (encTy t)] (.tup [.str (ppX t),.i (sTyS t)]) :=
 c77 t _ (prT t) lnT (fun a b=>a++b) rfl (fun _ _=>rfl) (c53 t (by have:=hS.st;omega) (by have:=hS.s;omega) (by have:=hS.q;omega) (fun x hx=>by have:=hS.e x hx;omega) (by have:=hS.n;omega)) (prB_of hS) (fun _ _=>rfl) (fun _=>rfl) l135
theorem k79 (t:Ty) (hS:ShortTy t) (h:sTyS t=0):PCall Tryz.prog G0 79 [.agg (encTy t)] (.str (prX t)) :=
 c79 t _ (prT t) lnT (fun a b=>a++b) rfl (fun _ _=>rfl) (prB_of hS h) (fun _ _=>rfl) (fun _=>rfl) l140
def q11 (t:Ty) (s:List UInt8):Bool:=if (!sShort t)=true then true else if decide ((s.length:Int) > 300)=true then ((s.length:Int) != 4097) else false
def sp11 (t:Ty) (s:List UInt8):Nat->List AV->Option AV
 | 25,_=>some (.bool (sShort t))
 | 13,_=>some (.bool true)
 | 28,_=>some (.agg (encTy t))
 | 77,_=>some (.tup [.str (ppX t),.i (sTyS t)])
 | 78,_=>some (.tup [.agg (encTy (prsT s)),.i (prsI s),.i (prsE s)])
 | 80,_=>some (.tup [.agg (encTy (prsT s)),.i (prsI s),.i (prsE s)])
 | 32,_=>some (.i (sTyR t))
 | 79,_=>some (.str (prX t))
 | 82,_=>some (.agg (encTy (prsT s)))
 | 81,_=>some (.bool true)
 | n,x=>spR n x
theorem c11 (t:Ty) (s:List UInt8) (hA:PCall Tryz.prog G0 13 [] (.bool true)) (hl:t.st.length<=9223372036854775807):PCall Tryz.prog G0 11 [.agg (encTy t),.str s] (.bool true):=by
 have key :
  ((!!sShort t)=true->(!!sShort t)=true)∧((!!sShort t)=true->(!!sShort t)=true)∧((!!sShort t)=true->(!!sShort t)=true)∧((!!sShort t && decide ((↑s.length:Int) > 300))=true->(!!sShort t && decide ((↑s.length
  : Int) > 300))=true)∧((!!sShort t && decide ((↑s.length:Int) > 300))=true->(!!sShort t && decide ((↑s.length:Int) > 300))=true)∧((!!sShort t)=true->(!!sShort t)=true)∧((!!sShort t)=true->decide ((↑s.length
  : Int) > 300)=true->(!!sShort t && decide ((↑s.length:Int) > 300))=true)∧((!sShort t)=false->(!!sShort t)=true)∧PCall Tryz.prog G0 25 [AV.agg (encTy t)] (AV.bool (sShort t))∧AV.bool (if (!sShort t)=true then
  true else if decide ((↑s.length:Int) > 300)=true then (↑s.length:Int) != 4097 else false)=AV.bool (q11 t s)∧(q11 t s=true->PCall Tryz.prog G0 13 [] (AV.bool true)∧AV.bool true=AV.bool true)∧(q11 t s=false →
  PCall Tryz.prog G0 28 [AV.agg (encTy t)] (AV.agg (encTy t))∧PCall Tryz.prog G0 77 [AV.agg (encTy t)] (AV.tup [AV.str (ppX t),AV.i (sTyS t)])∧PCall Tryz.prog G0 78 [AV.str s] (AV.tup [AV.agg (encTy (prsT s)),AV.i (prsI s),
  AV.i (prsE s)])∧PCall Tryz.prog G0 32 [AV.agg (encTy t)] (AV.i (sTyR t))∧((sTyR t == 0)=true->PCall Tryz.prog G0 79 [AV.agg (encTy t)] (AV.str (prX t))∧PCall Tryz.prog G0 80 [AV.str s] (AV.tup [AV.agg (encTy (prsT s)),
  AV.i (prsI s),AV.i (prsE s)])∧AV.bool (ppX t == prX t)=AV.bool true∧AV.bool (sTyS t == sTyR t)=AV.bool true∧AV.bool true=AV.bool true∧PCall Tryz.prog G0 82 [AV.agg (encTy (prsT s))] (AV.agg (encTy (prsT s)))∧PCall
  Tryz.prog G0 81 [AV.agg (encTy (prsT s)),AV.agg (encTy (prsT s))] (AV.bool true)∧AV.bool true=AV.bool true∧AV.bool (prsI s == prsI s)=AV.bool true∧AV.bool true=AV.bool true∧AV.bool (prsE s == prsE s)=AV.bool true ∧
  AV.bool true=AV.bool true∧AV.bool true=AV.bool true∧PCall Tryz.prog G0 13 [] (AV.bool true)∧AV.bool true=AV.bool true∧AV.bool true=AV.bool true)∧((sTyR t == 0)=false->PCall Tryz.prog G0 80 [AV.str s] (AV.tup
  [AV.agg (encTy (prsT s)),AV.i (prsI s),AV.i (prsE s)])∧AV.bool (ppX t == [])=AV.bool true∧AV.bool (sTyS t == sTyR t)=AV.bool true∧AV.bool true=AV.bool true∧PCall Tryz.prog G0 82 [AV.agg (encTy (prsT s))] (AV.agg
  (encTy (prsT s)))∧PCall Tryz.prog G0 81 [AV.agg (encTy (prsT s)),AV.agg (encTy (prsT s))] (AV.bool true)∧AV.bool true=AV.bool true∧AV.bool (prsI s == prsI s)=AV.bool true∧AV.bool true=AV.bool true∧AV.bool (prsE s
  == prsE s)=AV.bool true∧AV.bool true=AV.bool true∧AV.bool true=AV.bool true∧PCall Tryz.prog G0 13 [] (AV.bool true)∧AV.bool true=AV.bool true∧AV.bool true=AV.bool true)):=by
   have hTy:=ty_eq t
   refine ⟨fun h=>h,fun h=>h,fun h=>h,fun h=>h,fun h=>h,fun h=>h,fun h1 h2=>by rw [h1,h2];rfl,fun h=>by rw [h];rfl,c25 t hl,rfl,fun _=>⟨hA,rfl⟩,fun hq=>?_⟩
   obtain ⟨h1,h2⟩:=or_f hq
   have hsh:sShort t=true:=by simpa using h1
   have hS:=short_of hsh
   have hs:s.length<=300 ∨ s.length=4097:=by
    by_cases q:(s.length:Int) > 300
    · rw [if_pos (decide_eq_true q)] at h2
      have:(s.length:Int)=4097:=by simpa using h2
      omega
    · omega
   have hp:=hS.st
   have k28:=c28 t (by omega) (by have:=hS.s;omega) (by have:=hS.q;omega) (fun x hx=>by have:=hS.e x hx;omega)
   have kp:=k78 s (by omega) (by omega)
   have kr:=k80 s (by omega) (by omega)
   obtain ⟨hB,hBs⟩:=prsT_b s (by omega)
   have k82:=c82 (prsT s) hBs hB.sh hB.sq hB.e
   have k81:=c81 (prsT s) hB.sh hB.sq hBs hB.e
   have k32:=c32 t (by omega) (by have:=hS.s;omega) (by have:=hS.q;omega) (fun x hx=>by have:=hS.e x hx;omega) (by have:=hS.n;omega)
   refine ⟨k28,k77 t hS,kp,k32,fun hz=>?_,fun hz=>?_⟩
   · have hz:sTyS t=0:=by rw [hTy];exact eq_of_beq hz
     refine ⟨k79 t hS hz,kr,congrArg AV.bool ?_,congrArg AV.bool (by rw [hTy];exact beq_self_eq_true _),rfl,k82,k81,rfl,congrArg AV.bool (beq_self_eq_true _),rfl,congrArg AV.bool (beq_self_eq_true _),rfl,rfl,hA,rfl,rfl⟩
     rw [ppX,if_neg (by rw [hz];decide)]
     exact beq_self_eq_true _
   · have hz:¬ sTyS t=0:=by
      rw [hTy]
      intro e
      rw [e] at hz
      cases hz
     refine ⟨kr,congrArg AV.bool ?_,congrArg AV.bool (by rw [hTy];exact beq_self_eq_true _),rfl,k82,k81,rfl,congrArg AV.bool (beq_self_eq_true _),rfl,congrArg AV.bool (beq_self_eq_true _),rfl,rfl,hA,rfl,rfl⟩
     rw [ppX,if_pos (by simpa using hz)]
     rfl
 exact c_of Tryz.f11 (nSym 10 (fzB (mkB (sp11 t s) 11 [(1,12,fun _=>some (.bool (q11 t s))),(10,2,rdTt),(10,6,rdTt),(10,7,rdTt),(10,13,rdTt),(10,17,rdTt),(10,18,rdTt),(10,22,rdTt),(10,23,rdTt),(10,25,rdTt),(10,26,rdTt)] noLa))) (by kernel_rfl) (by kernel_rfl) (by kernel_rfl) (by kernel_rfl) key (by kernel_rfl)
end Go.Proofs.YtjhjmncjidbieaaGreatDoor
namespace Go.Proofs.YtjhjmncjidbieaaGreatDoor
open Go Go.Av Go.RowKit Go.ChangeShapes Go.WideShapes
theorem jp0_11:(Rows.sourceStringsRow.inPlace == Tryz.prog.inPlace 11)=true:=by kernel_rfl
theorem jp1_11:(Rows.sourceStringsRow.unfollowed == Tryz.prog.unfollowed 11)=true:=by kernel_rfl
theorem jp2_11:(Rows.sourceStringsRow.recurses == Tryz.prog.recurses 11)=true:=by kernel_rfl
theorem jp3_11:(Rows.sourceStringsRow.named == Tryz.prog.varsNamed 11)=true:=by kernel_rfl
theorem jfacts_11:joinedFacts Tryz.prog 11 Tryz.f11 Rows.sourceStringsSpec Rows.sourceStringsRow=true:=by
 unfold joinedFacts
 rw [jp0_11,jp1_11,jp2_11,jp3_11]
 kernel_rfl
end Go.Proofs.YtjhjmncjidbieaaGreatDoor
