/-
  What chapter 2's checks of types return. What chapter 2's checks of settings and of types return. What chapter 2's Flown returns. What the source's checks of settings return. What chapter 2's checks of a type return. No condition but the theorems' own.
-/
import Derived.Test.YtjhjmncjidbieaaGreatDoorPB
import Derived.Test.YtjhjmncjidbieaaGreatDoorAvD
namespace Go.Proofs.YtjhjmncjidbieaaGreatDoor
open Go Go.Av Go.RowKit
structure Sg where
 p:Int
 e:List Int
 deriving Inhabited
structure Ty where
 name:List UInt8
 sh:List Int
 d0:Int
 d1:Int
 d2:Int
 d3:Int
 d4:Int
 d5:Int
 d6:Int
 d7:Int
 side:Int
 sq:List Int
 st:List Sg
 deriving Inhabited
def encSg (s:Sg):List AV:=[.i s.p,.sl 1 (s.e.map encI)]
def Ty.dir (t:Ty):List Int:=[t.d0,t.d1,t.d2,t.d3,t.d4,t.d5,t.d6,t.d7]
def encTy (t:Ty):List AV:=[.str t.name,.sl 1 (t.sh.map encI),.i t.d0,.i t.d1,.i t.d2,.i t.d3,.i t.d4,.i t.d5,.i t.d6,.i t.d7,.i t.side,.sl 1 (t.sq.map encI),.sl 2 (t.st.map encSg)]
def cI (rows:List (List AV)) (i:Nat):Int:=match nth (nthR rows i) 0 with
 | .int _ n=>n
 | _=>0
def rdJ:List AV->Option AV
 | [.elt _ rows i _]=>some (.i (cI rows i))
 | _=>none
theorem cI_map (l:List Int) (i:Nat):cI (l.map encI) i=l.getD i default:=by
 unfold cI nthR
 rw [List.getD_eq_getElem?_getD,List.getD_eq_getElem?_getD,List.getElem?_map]
 cases l[i]? <;> rfl
theorem cI_at {l:List Int} {i:Nat} (h:i < l.length):nth (nthR (l.map encI) i) 0=.i (cI (l.map encI) i):=by
 rw [cI_map,row_at encI h]
 rfl
def modA (r k:Nat) (f:An->An) (B:BA):BA:={ B with ra:=fun i=>if i.beq r then { B.ra i with ans:=setA f k (B.ra i).ans } else B.ra i }
def sqBad (l:List Int) (i:Nat):Bool:=if i=0 then l.getD i default != 0 else decide (l.getD i default<=l.getD (i-1) default)
def fSq (l:List Int) (i:Nat):Int:=if sqBad l i then 11 else 0
theorem fSq_z (l:List Int) (i:Nat):fSq l i=0 ↔ sqBad l i=false:=by
 unfold fSq
 cases sqBad l i <;> simp
theorem sqBad_s (l:List Int) {i:Nat} (h:i ≠ 0):sqBad l i=decide (l.getD i default<=l.getD (i-1) default):=by rw [sqBad,if_neg h]
theorem max_prev {g:Nat} (h:g ≠ 0):(maxI (0:Int) ((g:Int)-1)).toNat=g-1:=by
 unfold maxI
 split <;> omega
theorem max_prev_lt {g n:Nat} (h:g < n):0<=maxI (0:Int) ((g:Int)-1)∧maxI (0:Int) ((g:Int)-1) < n:=by
 unfold maxI
 split <;> omega
def sSquares (l:List Int):Int:=sLS (sFirst [sWhen ((l.length:Int) == 0) 12,sWhen (decide ((l.length:Int) > 8)) 5,sFirst (l.map fun x=>sWithin x 0 100000000000)]) (fSq l) l.length 0
def spR:Nat->List AV->Option AV
 | 106,[.str s]=>some (.i (sWhen (!sName s) 8))
 | n,x=>spQ n x
def sp109 (l:List Int):Nat->List AV->Option AV
 | 108,_=>some (.i (sFirst (l.map fun x=>sWithin x 0 100000000000)))
 | n,x=>spR n x
def la109 (l:List Int):LA:={
 pre:=[.keep [0,4] [],.bound 1],post:=[.keep [0,4] [],.bound 1]
 Gh:=Nat
 st:=fun i=>⟨[(0,.sl 1 (l.map encI)),(4,.i i)],[],1⟩
 ok:=fun i=>i<=l.length∧∀ k,k < i->fSq l k=0
 ms:=fun i=>l.length-i }
abbrev zc109c (l:List Int):=(↑(List.map encI l).length:Int)
abbrev zc109a (l:List Int):=[hdI [AV.i (sWhen ((zc109c l) == 0) (12:Int))],hdI [AV.i (sWhen (decide ((zc109c l) > 8)) (5:Int))],hdI [AV.i (sFirst (List.map (fun (x:Int)=>sWithin x (0:Int) (100000000000:Int)) l))]]
abbrev zc109f (l:List Int) (g:Nat):=cI (List.map encI l) (g:Int).toNat<=cI (List.map encI l) (maxI (0:Int) ((g:Int)-1)).toNat
abbrev zc109b (l:List Int) (g:Nat):=(decide (zc109f l g)=false->In64 ((g:Int)+1)∧∃ (g':Nat),(g'<=l.length∧∀ (k:Nat),k < g'->fSq l k=(0:Int))∧l.length-g' < l.length-g∧AS.mk [(0,AV.sl 1 (List.map encI l)),(4,AV.i ((g:Int)+1))] [] 1=AS.mk [(0,AV.sl 1 (List.map encI l)),(4,AV.i (↑g':Int))] [] 1)
abbrev zc109d (g:Nat) (l:List Int):=(false=false->In64 ((g:Int)+1)∧∃ (g':Nat),(g'<=l.length∧∀ (k:Nat),k < g'->fSq l k=(0:Int))∧l.length-g' < l.length-g∧AS.mk [(0,AV.sl 1 (List.map encI l)),(4,AV.i ((g:Int)+1))] [] 1=AS.mk [(0,AV.sl 1 (List.map encI l)),(4,AV.i (↑g':Int))] [] 1)
abbrev zc109e (g:Nat) (l:List Int):=(true=false->In64 ((g:Int)+1)∧∃ (g':Nat),(g'<=l.length∧∀ (k:Nat),k < g'->fSq l k=(0:Int))∧l.length-g' < l.length-g∧AS.mk [(0,AV.sl 1 (List.map encI l)),(4,AV.i ((g:Int)+1))] [] 1=AS.mk [(0,AV.sl 1 (List.map encI l)),(4,AV.i (↑g':Int))] [] 1)
theorem c109 (l:List Int) (hl:l.length<=1000):PCall Tryz.prog G0 109 [.sl 1 (l.map encI)] (.i (sSquares l)):=by
 have key :
  PCall Tryz.prog G0 94 [AV.bool ((zc109c l) == 0),AV.i 12] (AV.i (sWhen ((zc109c l) == 0) (12:Int)))∧PCall Tryz.prog G0 94 [AV.bool (decide ((zc109c l) > 8)),AV.i 5] (AV.i (sWhen (decide ((zc109c l) > 8)) (5:Int)))∧PCall
  Tryz.prog G0 108 [AV.sl 1 (List.map encI l),AV.i 0,AV.i 100000000000] (AV.i (sFirst (List.map (fun (x:Int)=>sWithin x (0:Int) (100000000000:Int)) l)))∧PCall Tryz.prog G0 93 [AV.sl 1 [[AV.i (sWhen ((zc109c l) == 0) (12 :
  Int))],[AV.i (sWhen (decide ((zc109c l) > 8)) (5:Int))],[AV.i (sFirst (List.map (fun (x:Int)=>sWithin x (0:Int) (100000000000:Int)) l))]]] (AV.i (sFirst (zc109a l)))∧((sFirst (zc109a l) != 0)=true->AV.i (sFirst
  (zc109a l))=AV.i (sSquares l))∧((sFirst (zc109a l) != 0)=false->(∃ (g:Nat),(g<=l.length∧∀ (k:Nat),k < g->fSq l k=(0:Int))∧AS.mk [(0,AV.sl 1 (List.map encI l)),(4,AV.i 0)] [] 1=AS.mk [(0,AV.sl 1
  (List.map encI l)),(4,AV.i (g:Int))] [] 1)∧∀ (g:Nat),(g<=l.length∧∀ (k:Nat),k < g->fSq l k=(0:Int))->(decide ((g:Int) < (zc109c l))=true->(((g:Int) == 0)=true->((cI (List.map encI l) (↑g :
  Int).toNat != 0)=true->(0:Int)<=(g:Int)∧(g:Int) < (zc109c l)∧(true=false->false=true)∧AV.bool ((g:Int) == 0)=AV.bool true∧nth (nthR (List.map encI l) (g:Int).toNat) 0=AV.i (cI (List.map encI l)
  (g:Int).toNat)∧AV.bool (cI (List.map encI l) (g:Int).toNat != 0)=AV.bool true∧(true=true->AV.i 11=AV.i (sSquares l))∧(zc109e g l))∧((cI (List.map encI l) (g:Int).toNat != 0)=false->(decide ((g:Int) >
  0)=true->(0:Int)<=(g:Int)∧(g:Int) < (zc109c l)∧(0:Int)<=(g:Int)∧(g:Int) < (zc109c l)∧In64 ((g:Int)-1)∧(0:Int)<=maxI (0:Int) ((g:Int)-1)∧maxI (0:Int) ((g:Int)-1) < (zc109c l) ∧
  AV.bool ((g:Int) == 0)=AV.bool true∧nth (nthR (List.map encI l) (g:Int).toNat) 0=AV.i (cI (List.map encI l) (g:Int).toNat)∧AV.bool (cI (List.map encI l) (g:Int).toNat != 0)=AV.bool false∧AV.bool (decide ((↑g
  : Int) > 0))=AV.bool true∧nth (nthR (List.map encI l) (g:Int).toNat) 0=AV.i (cI (List.map encI l) (g:Int).toNat)∧nth (nthR (List.map encI l) (maxI (0:Int) ((g:Int)-1)).toNat) 0=AV.i (cI (List.map encI l)
  (maxI (0:Int) ((g:Int)-1)).toNat)∧(decide (zc109f l g)=true->AV.i 11=AV.i (sSquares l))∧(zc109b l g))∧(decide ((g:Int) > 0)=false->(0:Int)<=(g:Int)∧(g:Int) < (zc109c l)∧(false=true->false =
  true)∧AV.bool ((g:Int) == 0)=AV.bool true∧nth (nthR (List.map encI l) (g:Int).toNat) 0=AV.i (cI (List.map encI l) (g:Int).toNat)∧AV.bool (cI (List.map encI l) (g:Int).toNat != 0)=AV.bool false∧AV.bool
  (decide ((g:Int) > 0))=AV.bool false∧(false=true->AV.i 11=AV.i (sSquares l))∧(zc109d g l))))∧(((g:Int) == 0)=false->(false=true->(false=true->false=true)∧(true=false->false=true)∧AV.bool ((↑g
  : Int) == 0)=AV.bool false∧AV.bool false=AV.bool true∧(true=true->AV.i 11=AV.i (sSquares l))∧(zc109e g l))∧(false=false->(decide ((g:Int) > 0)=true->(false=true->false=true)∧(0:Int)<=(g:Int) ∧
  (g:Int) < (zc109c l)∧In64 ((g:Int)-1)∧(0:Int)<=maxI (0:Int) ((g:Int)-1)∧maxI (0:Int) ((g:Int)-1) < (zc109c l)∧AV.bool ((g:Int) == 0)=AV.bool false∧AV.bool false=AV.bool false∧AV.bool
  (decide ((g:Int) > 0))=AV.bool true∧nth (nthR (List.map encI l) (g:Int).toNat) 0=AV.i (cI (List.map encI l) (g:Int).toNat)∧nth (nthR (List.map encI l) (maxI (0:Int) ((g:Int)-1)).toNat) 0=AV.i (cI (List.map
  encI l) (maxI (0:Int) ((g:Int)-1)).toNat)∧(decide (zc109f l g)=true->AV.i 11=AV.i (sSquares l))∧(zc109b l g))∧(decide ((g:Int) > 0)=false->(false=true->false=true)∧(false=true->false=true) ∧
  AV.bool ((g:Int) == 0)=AV.bool false∧AV.bool false=AV.bool false∧AV.bool (decide ((g:Int) > 0))=AV.bool false∧(false=true->AV.i 11=AV.i (sSquares l))∧(zc109d g l)))))∧(decide ((g:Int) < (zc109c l)) =
  false->AV.i 0=AV.i (sSquares l))):=by
   delta zc109a zc109b zc109c zc109d zc109e zc109f
   simp only [List.length_map]
   refine ⟨c94 _ _,c94 _ _,c108 l 0 100000000000 (by omega),c93 [_,_,_] (by simp),fun h=>?_,fun h=>⟨⟨0,⟨by omega,by intros;omega⟩,rfl⟩,fun g ⟨hg,ha⟩=>⟨fun hd=>?_,fun hd=>?_⟩⟩⟩
   · exact congrArg AV.i (ls_first (f:=fSq l) (n:=l.length) (fin:=0) h).symm
   · have hlt:=lt_of_dec hd
     have hm:=max_prev_lt hlt
     have h':(sFirst [sWhen ((l.length:Int) == 0) 12,sWhen (decide ((l.length:Int) > 8)) 5,sFirst (l.map fun x=>sWithin x 0 100000000000)] != 0)=false:=h
     have hF:sqBad l g=true->AV.i 11=AV.i (sSquares l):=fun hb=>by
      have e:fSq l g=11:=by rw [fSq,if_pos hb]
      rw [sSquares,ls_hit (f:=fSq l) h' hd ha (by rw [e];decide),e]
     have hN:sqBad l g=false->∃ (g':Nat),(g'<=l.length∧∀ (k:Nat),k < g'->fSq l k=0)∧l.length-g' < l.length-g ∧
      AS.mk [(0,AV.sl 1 (List.map encI l)),(4,AV.i ((g:Int)+1))] [] 1=AS.mk [(0,AV.sl 1 (List.map encI l)),(4,AV.i (g':Int))] [] 1:=fun hb =>
      ⟨g+1,⟨hlt,all_succ ha (by rw [(fSq_z l g).2 hb];rfl)⟩,by omega,rfl⟩
     have h64:In64 ((g:Int)+1):=by unfold In64;omega
     have h65:In64 ((g:Int)-1):=by unfold In64;omega
     have hat:nth (nthR (List.map encI l) ((g:Int)).toNat) 0=AV.i (cI (List.map encI l) ((g:Int)).toNat):=cI_at hlt
     have hat2:nth (nthR (List.map encI l) (maxI 0 ((g:Int)-1)).toNat) 0=AV.i (cI (List.map encI l) (maxI 0 ((g:Int)-1)).toNat):=cI_at (by omega)
     have hsb:sqBad l g=if ((g:Int) == 0)=true then cI (List.map encI l) ((g:Int)).toNat != 0 else decide (cI (List.map encI l) ((g:Int)).toNat<=cI (List.map encI l) (maxI 0 ((g:Int)-1)).toNat):=by
      rw [cI_map,cI_map]
      by_cases e0:g=0
      · subst e0;rfl
      · rw [if_neg (by simp;omega),sqBad_s l e0,max_prev e0];rfl
     rw [hsb] at hF hN
     clear hsb ha h h' hd hl hg
     obtain ⟨_,_⟩:=h64
     obtain ⟨_,_⟩:=h65
     generalize sSquares l=sq at hF ⊢
     generalize cI (List.map encI l) ((g:Int)).toNat=c at hF hN hat ⊢
     generalize cI (List.map encI l) (maxI 0 ((g:Int)-1)).toNat=c2 at hF hN hat2 ⊢
     repeat' (first | apply And.intro | (intro h;cases h;done) | intro _)
     all_goals try first
      | omega
      | (unfold In64;omega)
      | rfl
      | exact hat
      | exact hat2
      | exact congrArg AV.bool (by assumption)
      | (refine hF ?_;rw [if_pos (by assumption)];assumption)
      | (refine hN ?_;rw [if_pos (by assumption)];assumption)
      | (refine hF ?_;rw [if_neg (by simp only [*];decide)];assumption)
      | (refine hN ?_;rw [if_neg (by simp only [*];decide)];assumption)
      | (exfalso;clear hF hN hat hat2;simp only [beq_iff_eq,decide_eq_true_eq,decide_eq_false_iff_not,beq_eq_false_iff_ne,ne_eq] at *;omega)
      | (refine hN ?_;rw [if_pos (by assumption)];assumption)
   · exact congrArg AV.i (ls_end (f:=fSq l) h hd hg ha).symm
 exact c_of Tryz.f109 ({ mkB (sp109 l) 109 [(7,6,rdOr [rdJ]),(7,16,rdOr [rdJ]),(7,22,rdOr [rdJ])] (fun i=>if i.beq 0 then some (la109 l) else none) with split:=fun i=>if i.beq 7 then 1 else 0 }) (by kernel_rfl) (by kernel_rfl) (by kernel_rfl) (by kernel_rfl) key (by kernel_rfl)
def sp107 (l:List Int):Nat->List AV->Option AV
 | 108,_=>some (.i (sFirst (l.map fun x=>sWithin x 0 1000)))
 | n,x=>spR n x
def sumI (l:List Int):Nat->Int
 | 0=>0
 | i+1=>sumI l i+l.getD i default
theorem sumI_bound {l:List Int} {B:Int} (h:∀ k,k < l.length->0<=l.getD k default∧l.getD k default<=B):∀ i,i<=l.length->0<=sumI l i∧sumI l i<=B * i
 | 0,_=>by simp [sumI]
 | i+1,hi=>by
  have:=sumI_bound h i (by omega)
  have:=h i hi
  simp only [sumI]
  rw [Int.natCast_add,Int.mul_add]
  omega
theorem ranged_of {l:List Int} {lo hi:Int} (h:sFirst (l.map fun x=>sWithin x lo hi)=0):∀ k,k < l.length->lo<=l.getD k default∧l.getD k default<=hi:=by
 induction l with
 | nil=>intro k hk;simp at hk
 | cons x l ih =>
  simp only [List.map_cons,first_zero,within_zero] at h
  intro k hk
  cases k with
  | zero=>exact h.1
  | succ k =>
   have:=ih h.2 k (by simpa using hk)
   simpa using this
def la107 (l:List Int):LA:={
 pre:=[.keep [0,4,5] [],.bound 1],post:=[.keep [0,4,5] [],.bound 1]
 Gh:=Nat
 st:=fun i=>⟨[(0,.sl 1 (l.map encI)),(4,.i (sumI l i)),(5,.i i)],[],1⟩
 ok:=fun i=>i<=l.length
 ms:=fun i=>l.length-i }
def sShares (l:List Int):Int:=if sFirst [sWhen ((l.length:Int) == 0) 12,sWhen (decide ((l.length:Int) > 8)) 5,sFirst (l.map fun x=>sWithin x 0 1000)] != 0 then sFirst [sWhen ((l.length:Int) == 0) 12,sWhen (decide ((l.length:Int) > 8)) 5,sFirst (l.map fun x=>sWithin x 0 1000)] else sWhen (sumI l l.length != 1000) 1
abbrev zc107b (l:List Int):=(↑(List.map encI l).length:Int)
abbrev zc107a (l:List Int):=[hdI [AV.i (sWhen ((zc107b l) == 0) (12:Int))],hdI [AV.i (sWhen (decide ((zc107b l) > 8)) (5:Int))],hdI [AV.i (sFirst (List.map (fun (x:Int)=>sWithin x (0:Int) (1000:Int)) l))]]
theorem c107 (l:List Int) (hl:l.length<=1000):PCall Tryz.prog G0 107 [.sl 1 (l.map encI)] (.i (sShares l)):=by
 have key :
  PCall Tryz.prog G0 94 [AV.bool ((zc107b l) == 0),AV.i 12] (AV.i (sWhen ((zc107b l) == 0) (12:Int)))∧PCall Tryz.prog G0 94 [AV.bool (decide ((zc107b l) > 8)),AV.i 5] (AV.i (sWhen (decide ((zc107b l) > 8)) (5:Int)))∧PCall
  Tryz.prog G0 108 [AV.sl 1 (List.map encI l),AV.i 0,AV.i 1000] (AV.i (sFirst (List.map (fun (x:Int)=>sWithin x (0:Int) (1000:Int)) l)))∧PCall Tryz.prog G0 93 [AV.sl 1 [[AV.i (sWhen ((zc107b l) == 0) (12:Int))],[AV.i
  (sWhen (decide ((zc107b l) > 8)) (5:Int))],[AV.i (sFirst (List.map (fun (x:Int)=>sWithin x (0:Int) (1000:Int)) l))]]] (AV.i (sFirst (zc107a l)))∧((sFirst (zc107a l) != 0)=true->AV.i (sFirst (zc107a l))=AV.i
  (sShares l))∧((sFirst (zc107a l) != 0)=false->(∃ (g:Nat),g<=l.length∧AS.mk [(0,AV.sl 1 (List.map encI l)),(4,AV.i 0),(5,AV.i 0)] [] 1=AS.mk [(0,AV.sl 1 (List.map encI l)),(4,AV.i (sumI l g)),(5,AV.i (↑g :
  Int))] [] 1)∧∀ (g:Nat),g<=l.length->(decide ((g:Int) < (zc107b l))=true->(0:Int)<=(g:Int)∧(g:Int) < (zc107b l)∧In64 (sumI l g+cI (List.map encI l) (g:Int).toNat)∧nth (nthR (List.map encI l) (↑g :
  Int).toNat) 0=AV.i (cI (List.map encI l) (g:Int).toNat)∧In64 ((g:Int)+1)∧∃ (g':Nat),g'<=l.length∧l.length-g' < l.length-g∧AS.mk [(0,AV.sl 1 (List.map encI l)),(4,AV.i (sumI l g+cI (List.map encI l)
  (g:Int).toNat)),(5,AV.i ((g:Int)+1))] [] 1=AS.mk [(0,AV.sl 1 (List.map encI l)),(4,AV.i (sumI l g')),(5,AV.i (↑g':Int))] [] 1)∧(decide ((g:Int) < (zc107b l))=false->PCall Tryz.prog G0 94 [AV.bool (sumI l
  g != 1000),AV.i 1] (AV.i (sWhen (sumI l g != 1000) (1:Int)))∧AV.i (sWhen (sumI l g != 1000) (1:Int))=AV.i (sShares l))):=by
   delta zc107a zc107b
   simp only [List.length_map]
   refine ⟨c94 _ _,c94 _ _,c108 l 0 1000 (by omega),c93 [_,_,_] (by simp),fun h=>?_,fun h=>⟨⟨0,by omega,rfl⟩,fun g hg=>⟨fun hd=>?_,fun hd=>?_⟩⟩⟩
   · exact congrArg AV.i (if_pos h).symm
   · have hlt:=lt_of_dec hd
     have h0:sFirst [sWhen ((l.length:Int) == 0) 12,sWhen (decide ((l.length:Int) > 8)) 5,sFirst (l.map fun x=>sWithin x 0 1000)]=0:=bne_f h
     simp only [first_zero] at h0
     have hb:=ranged_of h0.2.2.1
     have h1:=sumI_bound hb g (by omega)
     have h2:=hb g hlt
     simp only [Int.toNat_natCast,cI_map]
     exact ⟨by omega,by omega,by unfold In64;omega,by rw [cI_at hlt,cI_map],by unfold In64;omega,g+1,hlt,by omega,rfl⟩
   · have hge:=ge_of_dec hd hg
     subst hge
     refine ⟨c94 _ _,?_⟩
     rw [sShares,if_neg]
     have:(sFirst [sWhen ((l.length:Int) == 0) 12,sWhen (decide ((l.length:Int) > 8)) 5,sFirst (l.map fun x=>sWithin x 0 1000)] != 0)=false:=h
     rw [this]
     decide
 exact c_of Tryz.f107 (mkB (sp107 l) 107 [(8,4,rdOr [rdJ])] (fun i=>if i.beq 0 then some (la107 l) else none)) (by kernel_rfl) (by kernel_rfl) (by kernel_rfl) (by kernel_rfl) key (by kernel_rfl)
def la25 (t:Ty):LA:={
 pre:=[.keep [1,3] [],.bound 1],post:=[.keep [1,3] [],.bound 1]
 Gh:=Nat
 st:=fun i=>⟨[(1,.elt 13 [encTy t] 0 0),(3,.i i)],[],1⟩
 ok:=fun i=>i<=t.st.length∧∀ k,k < i->(t.st.getD k default).e.length<=9
 ms:=fun i=>t.st.length-i }
def sShort (t:Ty):Bool:=(t.st.all fun s=>decide (s.e.length<=9)) && (decide (t.name.length<=40) && (decide (t.sh.length<=9) && (decide (t.sq.length<=9) && decide (t.st.length<=7))))
abbrev zc25a:=false=true->false=true
abbrev zc25b (t:Ty):=(↑(List.map encI t.sq).length:Int)<=9
abbrev zc25c (t:Ty):=decide ((↑t.name.length:Int)<=40)
abbrev zc25d (t:Ty):=(↑(List.map encI t.sh).length:Int)<=9
abbrev zc25e (t:Ty):=(↑(List.map encSg t.st).length:Int)
theorem c25 (t:Ty) (hl:t.st.length<=9223372036854775807):PCall Tryz.prog G0 25 [.agg (encTy t)] (.bool (sShort t)):=by
 have key :
  (∃ (g:Nat),(g<=t.st.length∧∀ (k:Nat),k < g->(t.st.getD k default).e.length<=9)∧AS.mk [(1,AV.elt 13 [(encTy t)] 0 0),(3,AV.i 0)] [] 1=AS.mk [(1,AV.elt 13 [(encTy t)] 0 0),(3,AV.i (g:Int))] [] 1)∧∀ (g :
  Nat),(g<=t.st.length∧∀ (k:Nat),k < g->(t.st.getD k default).e.length<=9)->(decide ((g:Int) < (zc25e t))=true->(0:Int)<=(g:Int)∧(g:Int) < (zc25e t)∧nth (nthR (List.map encSg t.st) (g:Int).toNat) 1 =
  AV.sl 1 (List.map encI (t.st.getD (g:Int).toNat default).e)∧(decide ((↑(List.map encI (t.st.getD (g:Int).toNat default).e).length:Int) > 9)=true->AV.bool false=AV.bool (sShort t))∧(decide ((↑(List.map encI
  (t.st.getD (g:Int).toNat default).e).length:Int) > 9)=false->In64 ((g:Int)+1)∧∃ (g':Nat),(g'<=t.st.length∧∀ (k:Nat),k < g'->(t.st.getD k default).e.length<=9)∧t.st.length-g' < t.st.length-g∧AS.mk
  [(1,AV.elt 13 [(encTy t)] 0 0),(3,AV.i ((g:Int)+1))] [] 1=AS.mk [(1,AV.elt 13 [(encTy t)] 0 0),(3,AV.i (↑g':Int))] [] 1))∧(decide ((g:Int) < (zc25e t))=false->(decide ((↑t.name.length:Int)<=40)=true →
  (decide (zc25d t)=true->(decide (zc25b t)=true->AV.bool (zc25c t)=AV.bool true∧AV.bool (decide (zc25d t))=AV.bool true∧AV.bool (decide (zc25b t))=AV.bool true∧AV.bool (decide ((zc25e t)<=7))=AV.bool (sShort t))
  ∧ (decide (zc25b t)=false->zc25a∧AV.bool (zc25c t)=AV.bool true∧AV.bool (decide (zc25d t))=AV.bool true∧AV.bool (decide (zc25b t))=AV.bool false∧AV.bool false=AV.bool (sShort t)))∧(decide (zc25d t)=false →
  (false=true->zc25a∧AV.bool (zc25c t)=AV.bool true∧AV.bool (decide (zc25d t))=AV.bool false∧AV.bool false=AV.bool true∧AV.bool (decide ((zc25e t)<=7))=AV.bool (sShort t))∧(false=false->zc25a∧zc25a ∧
  AV.bool (zc25c t)=AV.bool true∧AV.bool (decide (zc25d t))=AV.bool false∧AV.bool false=AV.bool false∧AV.bool false=AV.bool (sShort t))))∧(decide ((↑t.name.length:Int)<=40)=false->(false=true->(decide (zc25b
  t)=true->zc25a∧AV.bool (zc25c t)=AV.bool false∧AV.bool false=AV.bool true∧AV.bool (decide (zc25b t))=AV.bool true∧AV.bool (decide ((zc25e t)<=7))=AV.bool (sShort t))∧(decide (zc25b t)=false->zc25a∧zc25a ∧
  AV.bool (zc25c t)=AV.bool false∧AV.bool false=AV.bool true∧AV.bool (decide (zc25b t))=AV.bool false∧AV.bool false=AV.bool (sShort t)))∧(false=false->(false=true->zc25a∧zc25a∧AV.bool (zc25c t)=AV.bool
  false∧AV.bool false=AV.bool false∧AV.bool false=AV.bool true∧AV.bool (decide ((zc25e t)<=7))=AV.bool (sShort t))∧(false=false->zc25a∧zc25a∧zc25a∧AV.bool (zc25c t)=AV.bool false∧AV.bool false=AV.bool
  false∧AV.bool false=AV.bool false∧AV.bool false=AV.bool (sShort t))))):=by
   delta zc25a zc25b zc25c zc25d zc25e
   refine ⟨⟨0,⟨by omega,by intros;omega⟩,rfl⟩,fun g ⟨hg,ha⟩=>⟨fun hd=>?_,fun hd=>?_⟩⟩
   · have hlt:g < t.st.length:=by simpa using hd
     refine ⟨by omega,by rw [List.length_map];omega,by rw [row_at encSg (by simpa using hlt)];rfl,fun h=>?_,fun h=>⟨by unfold In64;omega,g+1,⟨hlt,fun k hk=>?_⟩,by omega,rfl⟩⟩
     · have h9:¬ (t.st.getD g default).e.length<=9:=by
        have h:=h
        simp only [List.length_map,decide_eq_true_eq,Int.toNat_natCast] at h
        omega
       have:(t.st.all fun s=>decide (s.e.length<=9))=false:=by
        refine List.all_eq_false.2 ⟨t.st.getD g default,?_,by simpa using h9⟩
        rw [List.getD_eq_getElem?_getD,List.getElem?_eq_getElem hlt]
        exact List.getElem_mem _
       rw [sShort,this]
       rfl
     · by_cases e:k=g
       · subst e
         simp only [List.length_map,decide_eq_false_iff_not,Int.toNat_natCast] at h
         omega
       · exact ha k (by omega)
   · have hge:g=t.st.length:=by simp at hd;omega
     have hall:(t.st.all fun s=>decide (s.e.length<=9))=true:=by
      refine List.all_eq_true.2 fun s hs=>?_
      obtain ⟨k,hk,rfl⟩:=List.getElem_of_mem hs
      have:=ha k (by omega)
      rw [List.getD_eq_getElem?_getD,List.getElem?_eq_getElem hk] at this
      simpa using this
     have hS:sShort t=(decide ((t.name.length:Int)<=40) && (decide (((t.sh.map encI).length:Int)<=9) && (decide (((t.sq.map encI).length:Int)<=9) && decide (((t.st.map encSg).length:Int)<=7)))):=by
      rw [sShort,hall,Bool.true_and,List.length_map,List.length_map,List.length_map]
      congr 1
      · exact decide_eq_decide.2 (by omega)
      congr 1
      · exact decide_eq_decide.2 (by omega)
      congr 1
      · exact decide_eq_decide.2 (by omega)
      · exact decide_eq_decide.2 (by omega)
     rw [hS]
     clear hS hall ha hd hl hg hge
     generalize decide ((t.name.length:Int)<=40)=a
     generalize decide (((t.sh.map encI).length:Int)<=9)=b
     generalize decide (((t.sq.map encI).length:Int)<=9)=c
     generalize decide (((t.st.map encSg).length:Int)<=7)=d
     cases a <;> cases b <;> cases c <;> cases d <;> simp
 exact c_of Tryz.f25 ({ mkB spR 25 [(4,5,rdL 2 encSg t.st 1 false)] (fun i=>if i.beq 0 then some (la25 t) else none) with split:=fun i=>if i.beq 6 then 1 else 0 }) (by kernel_rfl) (by kernel_rfl) (by kernel_rfl) (by kernel_rfl) key (by kernel_rfl)
def la58 (t:Ty):LA:={
 pre:=[.reno 3 1,.reno 2 3,.ownb 1 12 117 2,.renc 1 12 2,.keep [1,2,3,4] [1,2,3],.bound 4],post:=[.renc 1 12 2,.keep [1,2,3,4] [1,2,3],.bound 4]
 Gh:=Nat
 st:=fun i=>⟨[(1,.elt 13 [encTy t] 0 0),(2,.ptr 3 0),(3,.ptr 1 0),(4,.i i)],[(1,.box [.str t.name,.sl 1 (t.sh.map encI),.i t.d0,.i t.d1,.i t.d2,.i t.d3,.i t.d4,.i t.d5,.i t.d6,.i t.d7,.i t.side,.sl 1 (t.sq.map encI),.own 2 ((t.st.take i).map encSg).length]),(2,.buf 117 2 ((t.st.take i).map encSg)),(3,.box [.str [],.ex (.slice none 0 0),.i 0,.i 0,.i 0,.i 0,.i 0,.i 0,.i 0,.i 0,.i 0,.ex (.slice none 0 0),.ex (.slice none 0 0)])],4⟩
 ok:=fun i=>i<=t.st.length
 ms:=fun i=>t.st.length-i }
abbrev zc58a (t:Ty):=[AV.str t.name,AV.sl 1 (List.map encI t.sh),AV.i t.d0,AV.i t.d1,AV.i t.d2,AV.i t.d3,AV.i t.d4,AV.i t.d5,AV.i t.d6,AV.i t.d7,AV.i t.side,AV.sl 1 (List.map encI t.sq),AV.sl 2 (List.map encSg t.st)]
abbrev zc58b:=[AV.str [],AV.ex (Value.slice none 0 0),AV.i 0,AV.i 0,AV.i 0,AV.i 0,AV.i 0,AV.i 0,AV.i 0,AV.i 0,AV.i 0,AV.ex (Value.slice none 0 0),AV.ex (Value.slice none 0 0)]
theorem c58 (t:Ty) (hl:t.st.length<=1000) (h2:t.sh.length<=1000) (h3:t.sq.length<=1000) (h4:∀ s,s ∈ t.st->s.e.length<=1000):PCall Tryz.prog G0 58 [.agg (encTy t)] (.agg (encTy t)):=by
 have key :
  0+(List.map encI t.sh).length<=9223372036854775807∧(0+(List.map encI t.sh).length) * 8<=140737488355328∧0+(List.map encI t.sq).length<=9223372036854775807∧(0+(List.map encI t.sq).length) * 8<=140737488355328∧(∃
  (g:Nat),g<=t.st.length∧AS.mk [(1,AV.elt 13 [(zc58a t)] 0 0),(2,AV.ptr 3 0),(3,AV.ptr 1 0),(4,AV.i 0)] [(1,ABlk.box [AV.str t.name,AV.sl 1 ([]++List.map encI t.sh),AV.i t.d0,AV.i t.d1,AV.i t.d2,AV.i t.d3,AV.i
  t.d4,AV.i t.d5,AV.i t.d6,AV.i t.d7,AV.i t.side,AV.sl 1 ([]++List.map encI t.sq),AV.own 2 0]),(2,ABlk.buf 117 2 []),(3,ABlk.box zc58b)] 4=AS.mk [(1,AV.elt 13 [(zc58a t)] 0 0),(2,AV.ptr 3 0),(3,AV.ptr 1 0),(4,
  AV.i (g:Int))] [(1,ABlk.box [AV.str t.name,AV.sl 1 (List.map encI t.sh),AV.i t.d0,AV.i t.d1,AV.i t.d2,AV.i t.d3,AV.i t.d4,AV.i t.d5,AV.i t.d6,AV.i t.d7,AV.i t.side,AV.sl 1 (List.map encI t.sq),AV.own 2 (List.map
  encSg (List.take g t.st)).length]),(2,ABlk.buf 117 2 (List.map encSg (List.take g t.st))),(3,ABlk.box zc58b)] 4)∧∀ (g:Nat),g<=t.st.length->(decide ((g:Int) < (↑(List.map encSg t.st).length:Int))=true->(0:Int) ≤
  (g:Int)∧(g:Int) < (↑(List.map encSg t.st).length:Int)∧(0:Int)<=(g:Int)∧(g:Int) < (↑(List.map encSg t.st).length:Int)∧0+(List.map encI (t.st.getD (g:Int).toNat default).e).length<=9223372036854775807
  ∧ (0+(List.map encI (t.st.getD (g:Int).toNat default).e).length) * 8<=140737488355328∧(List.map encSg (List.take g t.st)).length+1<=9223372036854775807∧((List.map encSg (List.take g t.st)).length+1) * 32 ≤
  140737488355328∧nth (nthR (List.map encSg t.st) (g:Int).toNat) 0=AV.i (t.st.getD (g:Int).toNat default).p∧nth (nthR (List.map encSg t.st) (g:Int).toNat) 1=AV.sl 1 (List.map encI (t.st.getD (g:Int).toNat
  default).e)∧In64 ((g:Int)+1)∧∃ (g':Nat),g'<=t.st.length∧t.st.length-g' < t.st.length-g∧AS.mk [(1,AV.elt 13 [(zc58a t)] 0 0),(2,AV.ptr 3 0),(3,AV.ptr 1 0),(4,AV.i ((g:Int)+1))] [(1,ABlk.box [AV.str
  t.name,AV.sl 1 (List.map encI t.sh),AV.i t.d0,AV.i t.d1,AV.i t.d2,AV.i t.d3,AV.i t.d4,AV.i t.d5,AV.i t.d6,AV.i t.d7,AV.i t.side,AV.sl 1 (List.map encI t.sq),AV.own 2 ((List.map encSg (List.take g t.st)).length+1)]),
  (2,ABlk.buf 117 2 (List.map encSg (List.take g t.st)++[[AV.i (t.st.getD (g:Int).toNat default).p,AV.sl 1 ([]++List.map encI (t.st.getD (g:Int).toNat default).e)]])),(3,ABlk.box zc58b)] 4=AS.mk [(1,AV.elt 13 [(zc58a
  t)] 0 0),(2,AV.ptr 3 0),(3,AV.ptr 1 0),(4,AV.i (↑g':Int))] [(1,ABlk.box [AV.str t.name,AV.sl 1 (List.map encI t.sh),AV.i t.d0,AV.i t.d1,AV.i t.d2,AV.i t.d3,AV.i t.d4,AV.i t.d5,AV.i t.d6,AV.i t.d7,AV.i t.side,
  AV.sl 1 (List.map encI t.sq),AV.own 2 (List.map encSg (List.take g' t.st)).length]),(2,ABlk.buf 117 2 (List.map encSg (List.take g' t.st))),(3,ABlk.box zc58b)] 4)∧(decide ((g:Int) < (↑(List.map encSg t.st).length:Int))
  = false->AV.agg [AV.str t.name,AV.sl 1 (List.map encI t.sh),AV.i t.d0,AV.i t.d1,AV.i t.d2,AV.i t.d3,AV.i t.d4,AV.i t.d5,AV.i t.d6,AV.i t.d7,AV.i t.side,AV.sl 1 (List.map encI t.sq),AV.sl 2 (List.map encSg (List.take g
  t.st))]=AV.agg (zc58a t)):=by
   delta zc58a zc58b
   simp only [List.length_map]
   refine ⟨by omega,by omega,by omega,by omega,⟨0,by omega,rfl⟩,fun g hg=>⟨fun hd=>?_,fun hd=>?_⟩⟩
   · have hlt:=lt_of_dec hd
     have hmem:t.st.getD g default ∈ t.st:=by
      rw [List.getD_eq_getElem?_getD,List.getElem?_eq_getElem hlt]
      exact List.getElem_mem _
     have h5:=h4 _ hmem
     simp only [Int.toNat_natCast]
     refine ⟨by omega,by omega,by omega,by omega,by omega,by omega,by rw [List.length_take];omega,by rw [List.length_take];omega,by rw [row_at encSg hlt];rfl,by rw [row_at encSg hlt];rfl,by unfold In64;omega,g+1,hlt,by omega,?_⟩
     have h6:=take_succ encSg hlt
     simp only [encSg] at h6
     rw [show (t.st.take g).length+1=(t.st.take (g+1)).length by simp only [List.length_take];omega]
     simp only [List.nil_append,encSg]
     rw [h6]
     rfl
   · rw [ge_of_dec hd hg,List.take_length]
 exact c_of Tryz.f58 ({ modA 6 18 (fun a=>{ a with fz:=false }) (mkB spR 58 [(6,7,rdL 2 encSg t.st 1 false),(6,14,rdL 2 encSg t.st 1 false)] (fun i=>if i.beq 0 then some (la58 t) else none)) with bx:=fun i=>if i.beq 0 then [.frzc 1 12] else [] }) (by kernel_rfl) (by kernel_rfl) (by kernel_rfl) (by kernel_rfl) key (by kernel_rfl)
end Go.Proofs.YtjhjmncjidbieaaGreatDoor
namespace Go.Proofs.YtjhjmncjidbieaaGreatDoor
open Go Go.Av Go.RowKit
def fzB (B:BA):BA:={ B with gs:=fun i=>(B.ra i).fz.map GS.frzo++B.gs i }
def Ty.sg (t:Ty) (i:Nat):Sg:=t.st.getD i default
def eAt (l:List Int) (k:Nat):Int:=l.getD k default
def up (l:List Int) (k:Nat):Bool:=if k=0 then false else decide (eAt l k > eAt l (k-1))
def badR (t:Ty) (i k:Nat):Bool:=up (t.sg i).e k || (if i=0 then false else decide (eAt (t.sg i).e k < eAt (t.sg (i-1)).e k))
def cSetR (t:Ty) (i:Nat):Int:=sFirst [sPower (t.sg i).p,sWhen (if i=0 then false else decide ((t.sg i).p<=(t.sg (i-1)).p)) 11,sWhen (((t.sg i).e.length:Int) != (t.sq.length:Int)) 2,sFirst ((t.sg i).e.map fun x=>sWithin x 0 100000000)]
def fSetR (t:Ty) (i:Nat):Int:=sLS (cSetR t i) (fun k=>if badR t i k then 21 else 0) (t.sg i).e.length 0
def lastP (t:Ty) (i:Nat):Int:=if i=0 then 0 else (t.sg (i-1)).p
def lastE (t:Ty) (i:Nat):List Int:=if i=0 then List.replicate t.sq.length 0 else (t.sg (i-1)).e
def badS (t:Ty) (i k:Nat):Bool:=up (t.sg i).e k || decide (eAt (t.sg i).e k < eAt (lastE t i) k)
def cSetS (t:Ty) (i:Nat):Int:=sFirst [sWithin (t.sg i).p 1 100,sWhen (decide ((t.sg i).p<=lastP t i)) 11,sWhen (((t.sg i).e.length:Int) != (t.sq.length:Int)) 2,sRanged (t.sg i).e 100000000]
def fSetS (t:Ty) (i:Nat):Int:=sLS (cSetS t i) (fun k=>if badS t i k then 21 else 0) (t.sg i).e.length 0
theorem first4_3 {a b d:Int} {x y:Nat} (h:sFirst [a,b,sWhen ((x:Int) != (y:Int)) 2,d]=0):x=y:=by
 have e:∀ z w,sFirst (z::w)=if z ≠ 0 then z else sFirst w:=fun _ _=>rfl
 rw [e,e,e] at h
 by_cases ha:a=0
 · rw [if_neg (by simp [ha])] at h
   by_cases hb:b=0
   · rw [if_neg (by simp [hb])] at h
     by_cases hx:x=y
     · exact hx
     · have:((x:Int) != (y:Int))=true:=by rw [bne_iff_ne];omega
       rw [this,if_pos (show sWhen true 2 ≠ 0 by decide)] at h
       exact absurd h (by decide)
   · rw [if_pos hb] at h;exact absurd h hb
 · rw [if_pos ha] at h;exact absurd h ha
theorem mk7 {a b c d:AV} {x y:Int} (h:x=y):AS.mk [(1,a),(2,b),(5,c),(6,d),(7,AV.i x)] [] 1=AS.mk [(1,a),(2,b),(5,c),(6,d),(7,AV.i y)] [] 1:=by rw [h]
def sp110 (t:Ty) (i:Nat):Nat->List AV->Option AV
 | 108,_=>some (.i (sFirst ((t.sg i).e.map fun x=>sWithin x 0 100000000)))
 | n,x=>spR n x
def la110 (t:Ty) (i:Nat):LA:={
 pre:=[.keep [1,2,5,6,8] [],.bound 1],post:=[.keep [1,2,5,6,8] [],.bound 1]
 Gh:=Nat
 st:=fun k=>⟨[(1,.i i),(2,.elt 13 [encTy t] 0 0),(5,.elt 2 [encSg (t.sg i)] 0 0),(6,.elt 2 [encSg (t.sg (prv i))] 0 0),(8,.i k)],[],1⟩
 ok:=fun k=>k<=(t.sg i).e.length∧∀ j,j < k->badR t i j=false
 ms:=fun k=>(t.sg i).e.length-k }
def cut110 (t:Ty) (i:Nat):Nat->Option (AS->AS):=fun j=>if j.beq 2 then some (cutA [1,2,5,6,7] [] 1 7 fun _=>.i (cSetR t i)) else none
def gs110:Nat->List GS:=fun j=>if j.beq 1 then [.frzo 5,.frzo 6] else if j.beq 2 then [.keep [1,2,5,6,7] [],.bound 1] else []
abbrev zc110f (t:Ty) (i:Nat):=List.map encI (t.sg i).e
abbrev zc110m (t:Ty) (i:Nat):=List.map encI (t.sg (prv i)).e
abbrev zc110a (i:Nat) (t:Ty) (g:Nat):=[(1,AV.i (i:Int)),(2,AV.elt 13 [(encTy t)] 0 0),(5,AV.elt 2 [[AV.i (t.sg i).p,AV.sl 1 (zc110f t i)]] 0 0),(6,AV.elt 2 [[AV.i (t.sg (prv i)).p,AV.sl 1 (zc110m t i)]] 0 0),(8,AV.i ((g:Int)+1))]
abbrev zc110b (i:Nat) (t:Ty) (g':Nat):=[(1,AV.i (i:Int)),(2,AV.elt 13 [(encTy t)] 0 0),(5,AV.elt 2 [[AV.i (t.sg i).p,AV.sl 1 (zc110f t i)]] 0 0),(6,AV.elt 2 [[AV.i (t.sg (prv i)).p,AV.sl 1 (zc110m t i)]] 0 0),(8,AV.i (↑g':Int))]
abbrev zc110c (t:Ty) (i:Nat):=t.st.getD (i:Int).toNat default
abbrev zc110d (t:Ty) (i:Nat):=t.st.getD (maxI (0:Int) ((i:Int)-1)).toNat default
abbrev zc110e (t:Ty) (i:Nat):=(↑(List.map encI (zc110c t i).e).length:Int) != (↑(List.map encI t.sq).length:Int)
abbrev zc110g (t:Ty) (i:Nat):=sFirst (List.map (fun (x:Int)=>sWithin x (0:Int) (100000000:Int)) (t.sg i).e)
abbrev zc110l (g':Nat) (t:Ty) (i:Nat):=(g'<=(t.sg i).e.length∧∀ (j:Nat),j < g'->badR t i j=false)
abbrev zc110h (t:Ty) (i:Nat) (g:Nat):=(decide (cI (zc110f t i) (g:Int).toNat < cI (zc110m t i) (g:Int).toNat)=false->In64 ((g:Int)+1)∧∃ (g':Nat),(zc110l g' t i)∧(t.sg i).e.length-g' < (t.sg i).e.length-g∧AS.mk (zc110a i t g) [] 1=AS.mk (zc110b i t g') [] 1)
abbrev zc110i (t:Ty) (i:Nat) (g:Nat):=cI (zc110f t i) (g:Int).toNat > cI (zc110f t i) (maxI (0:Int) ((g:Int)-1)).toNat
abbrev zc110j (t:Ty) (i:Nat):=[AV.i (zc110c t i).p,AV.sl 1 (List.map encI (zc110c t i).e)]
abbrev zc110k (t:Ty) (i:Nat):=[AV.i (zc110d t i).p,AV.sl 1 (List.map encI (zc110d t i).e)]
abbrev zc110n (t:Ty) (i:Nat):=sFirst [hdI [AV.i (sPower (zc110c t i).p)],hdI [AV.i (sWhen (decide ((zc110c t i).p<=(zc110d t i).p)) (11:Int))],hdI [AV.i (sWhen (zc110e t i) (2:Int))],hdI [AV.i (zc110g t i)]]
theorem c110 (t:Ty) (i:Nat) (hi:i < t.st.length) (hn:t.st.length<=1000) (hl:(t.sg i).e.length<=1000) (hp:i ≠ 0->(t.sg i).e.length=t.sq.length->(t.sg i).e.length<=(t.sg (i-1)).e.length):PCall Tryz.prog G0 110 [.agg (encTy t),.i i] (.i (fSetR t i)):=by
 have key :
  (0:Int)<=(i:Int)∧(i:Int) < (↑(List.map encSg t.st).length:Int)∧In64 ((i:Int)-1)∧(0:Int)<=maxI (0:Int) ((i:Int)-1)∧maxI (0:Int) ((i:Int)-1) < (↑(List.map encSg t.st).length:Int)∧AV.agg
  (nthR (List.map encSg t.st) (i:Int).toNat)=AV.agg (zc110j t i)∧AV.agg (nthR (List.map encSg t.st) (maxI (0:Int) ((i:Int)-1)).toNat)=AV.agg (zc110k t i)∧((decide ((i:Int) > 0)=true->PCall Tryz.prog G0 44
  [AV.i (zc110c t i).p] (AV.i (sPower (zc110c t i).p))∧AV.bool (decide ((i:Int) > 0))=AV.bool true∧PCall Tryz.prog G0 94 [AV.bool (decide ((zc110c t i).p<=(zc110d t i).p)),AV.i 11] (AV.i (sWhen (decide ((zc110c t i).p ≤
  (zc110d t i).p)) (11:Int)))∧PCall Tryz.prog G0 94 [AV.bool (zc110e t i),AV.i 2] (AV.i (sWhen (zc110e t i) (2:Int)))∧PCall Tryz.prog G0 108 [AV.sl 1 (List.map encI (zc110c t i).e),AV.i 0,AV.i 100000000] (AV.i (zc110g t
  i))∧PCall Tryz.prog G0 93 [AV.sl 1 [[AV.i (sPower (zc110c t i).p)],[AV.i (sWhen (decide ((zc110c t i).p<=(zc110d t i).p)) (11:Int))],[AV.i (sWhen (zc110e t i) (2:Int))],[AV.i (zc110g t i)]]] (AV.i (zc110n t i))∧AS.mk
  [(1,AV.i (i:Int)),(2,AV.elt 13 [(encTy t)] 0 0),(5,AV.elt 2 [(zc110j t i)] 0 0),(6,AV.elt 2 [(zc110k t i)] 0 0),(7,AV.i (zc110n t i))] [] 1=AS.mk [(1,AV.i (i:Int)),(2,AV.elt 13 [(encTy t)] 0 0),(5,AV.elt 2
  [(zc110j t i)] 0 0),(6,AV.elt 2 [(zc110k t i)] 0 0),(7,AV.i (cSetR t i))] [] 1)∧(decide ((i:Int) > 0)=false->(false=true->false=true)∧PCall Tryz.prog G0 44 [AV.i (zc110c t i).p] (AV.i (sPower (zc110c t i).p)) ∧
  AV.bool (decide ((i:Int) > 0))=AV.bool false∧PCall Tryz.prog G0 94 [AV.bool false,AV.i 11] (AV.i (sWhen false (11:Int)))∧PCall Tryz.prog G0 94 [AV.bool (zc110e t i),AV.i 2] (AV.i (sWhen (zc110e t i) (2:Int)))∧PCall
  Tryz.prog G0 108 [AV.sl 1 (List.map encI (zc110c t i).e),AV.i 0,AV.i 100000000] (AV.i (zc110g t i))∧PCall Tryz.prog G0 93 [AV.sl 1 [[AV.i (sPower (zc110c t i).p)],[AV.i (sWhen false (11:Int))],[AV.i (sWhen (zc110e t i) (2 :
  Int))],[AV.i (zc110g t i)]]] (AV.i (sFirst [hdI [AV.i (sPower (zc110c t i).p)],hdI [AV.i (sWhen false (11:Int))],hdI [AV.i (sWhen (zc110e t i) (2:Int))],hdI [AV.i (zc110g t i)]]))∧AS.mk [(1,AV.i (i:Int)),(2,AV.elt
  13 [(encTy t)] 0 0),(5,AV.elt 2 [(zc110j t i)] 0 0),(6,AV.elt 2 [(zc110k t i)] 0 0),(7,AV.i (sFirst [hdI [AV.i (sPower (zc110c t i).p)],hdI [AV.i (sWhen false (11:Int))],hdI [AV.i (sWhen (zc110e t i) (2:Int))],hdI
  [AV.i (zc110g t i)]]))] [] 1=AS.mk [(1,AV.i (i:Int)),(2,AV.elt 13 [(encTy t)] 0 0),(5,AV.elt 2 [(zc110j t i)] 0 0),(6,AV.elt 2 [(zc110k t i)] 0 0),(7,AV.i (cSetR t i))] [] 1))∧((cSetR t i != 0)=true->AV.i (cSetR
  t i)=AV.i (fSetR t i))∧((cSetR t i != 0)=false->(∃ (g:Nat),(g<=(t.sg i).e.length∧∀ (j:Nat),j < g->badR t i j=false)∧AS.mk [(1,AV.i (i:Int)),(2,AV.elt 13 [(encTy t)] 0 0),(5,AV.elt 2 [(zc110j t i)] 0 0),
  (6,AV.elt 2 [(zc110k t i)] 0 0),(8,AV.i 0)] [] 1=AS.mk [(1,AV.i (i:Int)),(2,AV.elt 13 [(encTy t)] 0 0),(5,AV.elt 2 [[AV.i (t.sg i).p,AV.sl 1 (zc110f t i)]] 0 0),(6,AV.elt 2 [[AV.i (t.sg (prv i)).p,AV.sl 1 (zc110m t
  i)]] 0 0),(8,AV.i (g:Int))] [] 1)∧∀ (g:Nat),(g<=(t.sg i).e.length∧∀ (j:Nat),j < g->badR t i j=false)->(decide ((g:Int) < (↑(zc110f t i).length:Int))=true->(decide ((g:Int) > 0)=true->(decide
  (zc110i t i g)=true->(0:Int)<=(g:Int)∧(g:Int) < (↑(zc110f t i).length:Int)∧In64 ((g:Int)-1)∧(0:Int)<=maxI (0:Int) ((g:Int)-1)∧maxI (0:Int) ((g:Int)-1) < (↑(zc110f t i).length:Int) ∧
  (true=false->false=true)∧AV.bool (decide ((g:Int) > 0))=AV.bool true∧nth (nthR (zc110f t i) (g:Int).toNat) 0=AV.i (cI (zc110f t i) (g:Int).toNat)∧nth (nthR (zc110f t i) (maxI (0:Int) ((g:Int) -
  1)).toNat) 0=AV.i (cI (zc110f t i) (maxI (0:Int) ((g:Int)-1)).toNat)∧AV.bool (decide (zc110i t i g))=AV.bool true∧(true=true->AV.i 21=AV.i (fSetR t i))∧(true=false->In64 ((g:Int)+1)∧∃ (g':Nat),
  (zc110l g' t i)∧(t.sg i).e.length-g' < (t.sg i).e.length-g∧AS.mk (zc110a i t g) [] 1=AS.mk (zc110b i t g') [] 1))∧(decide (zc110i t i g)=false->(decide ((i:Int) > 0)=true->(0:Int)<=(g:Int)∧(g:Int) <
  (↑(zc110f t i).length:Int)∧In64 ((g:Int)-1)∧(0:Int)<=maxI (0:Int) ((g:Int)-1)∧maxI (0:Int) ((g:Int)-1) < (↑(zc110f t i).length:Int)∧(0:Int)<=(g:Int)∧(g:Int) < (↑(zc110f t i).length :
  Int)∧(0:Int)<=(g:Int)∧(g:Int) < (↑(zc110m t i).length:Int)∧AV.bool (decide ((g:Int) > 0))=AV.bool true∧nth (nthR (zc110f t i) (g:Int).toNat) 0=AV.i (cI (zc110f t i) (g:Int).toNat)∧nth (nthR (zc110f
  t i) (maxI (0:Int) ((g:Int)-1)).toNat) 0=AV.i (cI (zc110f t i) (maxI (0:Int) ((g:Int)-1)).toNat)∧AV.bool (decide (zc110i t i g))=AV.bool false∧AV.bool (decide ((i:Int) > 0))=AV.bool true∧nth (nthR
  (zc110f t i) (g:Int).toNat) 0=AV.i (cI (zc110f t i) (g:Int).toNat)∧nth (nthR (zc110m t i) (g:Int).toNat) 0=AV.i (cI (zc110m t i) (g:Int).toNat)∧(decide (cI (zc110f t i) (g:Int).toNat < cI (zc110m t i) (↑g :
  Int).toNat)=true->AV.i 21=AV.i (fSetR t i))∧(zc110h t i g))∧(decide ((i:Int) > 0)=false->(0:Int)<=(g:Int)∧(g:Int) < (↑(zc110f t i).length:Int)∧In64 ((g:Int)-1)∧(0:Int)<=maxI (0:Int) ((↑g :
  Int)-1)∧maxI (0:Int) ((g:Int)-1) < (↑(zc110f t i).length:Int)∧(false=true->false=true)∧AV.bool (decide ((g:Int) > 0))=AV.bool true∧nth (nthR (zc110f t i) (g:Int).toNat) 0=AV.i (cI (zc110f t i) (↑g
  : Int).toNat)∧nth (nthR (zc110f t i) (maxI (0:Int) ((g:Int)-1)).toNat) 0=AV.i (cI (zc110f t i) (maxI (0:Int) ((g:Int)-1)).toNat)∧AV.bool (decide (zc110i t i g))=AV.bool false∧AV.bool (decide ((i:Int) >
  0))=AV.bool false∧(false=true->AV.i 21=AV.i (fSetR t i))∧(false=false->In64 ((g:Int)+1)∧∃ (g':Nat),(zc110l g' t i)∧(t.sg i).e.length-g' < (t.sg i).e.length-g∧AS.mk (zc110a i t g) [] 1=AS.mk (zc110b
  i t g') [] 1))))∧(decide ((g:Int) > 0)=false->(false=true->(false=true->false=true)∧(true=false->false=true)∧AV.bool (decide ((g:Int) > 0))=AV.bool false∧AV.bool false=AV.bool true∧(true=true →
  AV.i 21=AV.i (fSetR t i))∧(true=false->In64 ((g:Int)+1)∧∃ (g':Nat),(zc110l g' t i)∧(t.sg i).e.length-g' < (t.sg i).e.length-g∧AS.mk (zc110a i t g) [] 1=AS.mk (zc110b i t g') [] 1))∧(false=false →
  (decide ((i:Int) > 0)=true->(false=true->false=true)∧(0:Int)<=(g:Int)∧(g:Int) < (↑(zc110f t i).length:Int)∧(0:Int)<=(g:Int)∧(g:Int) < (↑(zc110m t i).length:Int)∧AV.bool (decide ((g:Int)
  > 0))=AV.bool false∧AV.bool false=AV.bool false∧AV.bool (decide ((i:Int) > 0))=AV.bool true∧nth (nthR (zc110f t i) (g:Int).toNat) 0=AV.i (cI (zc110f t i) (g:Int).toNat)∧nth (nthR (zc110m t i) (↑g :
  Int).toNat) 0=AV.i (cI (zc110m t i) (g:Int).toNat)∧(decide (cI (zc110f t i) (g:Int).toNat < cI (zc110m t i) (g:Int).toNat)=true->AV.i 21=AV.i (fSetR t i))∧(zc110h t i g))∧(decide ((i:Int) > 0)=false →
  (false=true->false=true)∧(false=true->false=true)∧AV.bool (decide ((g:Int) > 0))=AV.bool false∧AV.bool false=AV.bool false∧AV.bool (decide ((i:Int) > 0))=AV.bool false∧(false=true->AV.i 21=AV.i
  (fSetR t i))∧(false=false->In64 ((g:Int)+1)∧∃ (g':Nat),(zc110l g' t i)∧(t.sg i).e.length-g' < (t.sg i).e.length-g∧AS.mk (zc110a i t g) [] 1=AS.mk (zc110b i t g') [] 1)))))∧(decide ((g:Int) < (↑(zc110f
  t i).length:Int))=false->AV.i 0=AV.i (fSetR t i))):=by
   delta zc110a zc110b zc110c zc110d zc110e zc110f zc110g zc110h zc110i zc110j zc110k zc110l zc110m zc110n
   have hlm:(List.map encSg t.st).length=t.st.length:=List.length_map _
   have hle:(List.map encI (t.sg i).e).length=(t.sg i).e.length:=List.length_map _
   have hlq:(List.map encI t.sq).length=t.sq.length:=List.length_map _
   have hlp:(List.map encI (t.sg (prv i)).e).length=(t.sg (prv i)).e.length:=List.length_map _
   have hm:=max_prev_lt hi
   refine ⟨by omega,by omega,by unfold In64;omega,by omega,by omega,congrArg AV.agg (row_at encSg (i:=i) hi),congrArg AV.agg (row_at encSg (by omega)),⟨fun h0=>?_,fun h0=>?_⟩,fun h=>?_,fun h=>⟨⟨0,⟨by omega,by intros;omega⟩,rfl⟩,fun g ⟨hg,ha⟩=>⟨fun hd=>?_,fun hd=>?_⟩⟩⟩
   · refine ⟨c44 _,congrArg AV.bool h0,c94 _ _,c94 _ _,c108 (t.sg i).e 0 100000000 (by omega),c93 [_,_,_,_] (by simp),?_⟩
     refine mk7 ?_
     have h1:i ≠ 0:=by have:=of_decide_eq_true h0;omega
     unfold cSetR
     rw [if_neg h1,max_prev h1,<- hle,<- hlq]
     rfl
   · refine ⟨fun h=>h,c44 _,congrArg AV.bool h0,c94 _ _,c94 _ _,c108 (t.sg i).e 0 100000000 (by omega),c93 [_,_,_,_] (by simp),?_⟩
     refine mk7 ?_
     have h1:i=0:=by have:=of_decide_eq_false h0;omega
     unfold cSetR
     rw [if_pos h1,<- hle,<- hlq]
     rfl
   · exact congrArg AV.i (ls_first h).symm
   · rw [hle] at hd
     have hlt:=lt_of_dec hd
     have hm2:=max_prev_lt hlt
     have hF:badR t i g=true->AV.i 21=AV.i (fSetR t i):=fun hb=>by
      rw [fSetR,ls_hit (i:=g) h hd (fun k hk=>by rw [ha k hk];rfl) (by rw [hb];decide),hb]
      rfl
     have hN:badR t i g=false->∃ (g':Nat),(g'<=(t.sg i).e.length∧∀ (j:Nat),j < g'->badR t i j=false)∧(t.sg i).e.length-g' < (t.sg i).e.length-g∧(g:Int)+1=(g':Int):=fun hb =>
      ⟨g+1,⟨hlt,fun j hj=>by by_cases e:j=g;(· rw [e];exact hb);(· exact ha j (by omega))⟩,by omega,rfl⟩
     have hb:badR t i g=(((decide ((g:Int) > 0)) && decide (cI (List.map encI (t.sg i).e) ((g:Int)).toNat > cI (List.map encI (t.sg i).e) (maxI 0 ((g:Int)-1)).toNat)) || (decide ((i:Int) > 0) && decide (cI (List.map encI (t.sg i).e) ((g:Int)).toNat < cI (List.map encI (t.sg (prv i)).e) ((g:Int)).toNat))):=by
      rw [cI_map,cI_map,cI_map]
      unfold badR up
      congr 1
      · by_cases e0:g=0
        · rw [if_pos e0,e0];rfl
        · rw [if_neg e0,max_prev e0,show decide ((g:Int) > 0)=true from decide_eq_true (by omega)];rfl
      · by_cases e0:i=0
        · rw [if_pos e0,show decide ((i:Int) > 0)=false from decide_eq_false (by omega)];rfl
        · rw [if_neg e0,show decide ((i:Int) > 0)=true from decide_eq_true (by omega),show prv i=i-1 from max_prev e0];rfl
     have hpl:decide ((i:Int) > 0)=true->(t.sg i).e.length=t.sq.length->(t.sg i).e.length<=(t.sg (prv i)).e.length:=fun e1 e2=>by
      have e0:i ≠ 0:=by have:=of_decide_eq_true e1;omega
      rw [show prv i=i-1 from max_prev e0]
      exact hp e0 e2
     have hlen:(t.sg i).e.length=t.sq.length:=by
      have hc:cSetR t i=0:=by simpa using h
      unfold cSetR at hc
      exact first4_3 hc
     have hat:=cI_at hlt
     have hat2:=cI_at (l:=(t.sg i).e) (i:=(maxI 0 ((g:Int)-1)).toNat) (by omega)
     rw [hb] at hF hN
     have h64:In64 ((g:Int)+1):=by unfold In64;omega
     have h65:In64 ((g:Int)-1):=by unfold In64;omega
     have hpl:decide ((i:Int) > 0)=true->(g:Int) < (List.map encI (t.sg (prv i)).e).length:=fun e=>by
      have:=hpl e hlen
      omega
     have hat4:(g:Int) < (List.map encI (t.sg (prv i)).e).length->nth (nthR (List.map encI (t.sg (prv i)).e) ((g:Int)).toNat) 0=AV.i (cI (List.map encI (t.sg (prv i)).e) ((g:Int)).toNat):=fun e=>cI_at (by omega)
     generalize hA:decide ((g:Int) > 0)=a at hF hN ⊢
     generalize hB:decide ((i:Int) > 0)=b at hF hN hpl ⊢
     generalize hC:decide (cI (List.map encI (t.sg i).e) ((g:Int)).toNat > cI (List.map encI (t.sg i).e) (maxI 0 ((g:Int)-1)).toNat)=c at hF hN ⊢
     generalize hD:decide (cI (List.map encI (t.sg i).e) ((g:Int)).toNat < cI (List.map encI (t.sg (prv i)).e) ((g:Int)).toNat)=d at hF hN ⊢
     clear hb h ha hA hB hC hD hlen hd hp
     obtain ⟨_,_⟩:=h64
     obtain ⟨_,_⟩:=h65
     cases a <;> cases b <;> cases c <;> cases d
     all_goals repeat' (first | apply And.intro | (intro h;cases h;done) | intro _)
     all_goals try first
      | omega
      | (unfold In64;omega)
      | rfl
      | exact hF rfl
      | (obtain ⟨g',q1,q2,q3⟩:=hN rfl;exact ⟨g',q1,q2,by rw [q3]⟩)
      | exact hpl rfl
      | exact hat
      | exact hat2
      | exact hat4 (hpl rfl)
   · rw [hle] at hd
     exact congrArg AV.i (ls_end h hd hg (fun k hk=>by rw [ha k hk];rfl)).symm
 exact c_of Tryz.f110 ({ fzB (mkB (sp110 t i) 110 [(1,4,rdL 2 encSg t.st 2 true),(1,11,rdL 2 encSg t.st 2 true),(8,7,rdJ),(8,14,rdJ),(8,25,rdJ),(8,30,rdJ)] (fun j=>if j.beq 0 then some (la110 t i) else none)) with cut:=cut110 t i,gs:=gs110,split:=fun j=>if j.beq 2 then 1 else if j.beq 8 then 1 else 0 }) (by kernel_rfl) (by kernel_rfl) (by kernel_rfl) (by kernel_rfl) key (by kernel_rfl)
end Go.Proofs.YtjhjmncjidbieaaGreatDoor
namespace Go.Proofs.YtjhjmncjidbieaaGreatDoor
open Go Go.Av Go.RowKit
theorem ls_zero {c:Int} {f:Nat->Int} {n:Nat} (h:sLS c f n 0=0):c=0∧∀ k,k < n->f k=0:=by
 unfold sLS at h
 split at h
 · rename_i hc;rw [h] at hc;simp at hc
 · rename_i hc
   refine ⟨by simpa using hc,fun k=>?_⟩
   induction k using Nat.strongRecOn with
   | _ k ih =>
    intro hk
    by_cases e:f k=0
    · exact e
    · rw [scan_hit hk (fun j hj=>ih j hj (by omega)) e] at h
      exact absurd h e
structure PathOK (l:List Pt):Prop where
 n1:2<=l.length
 n2:l.length<=16
 b:∀ i,i < l.length -> -100000<=(l.getD i default).x∧(l.getD i default).x<=100000 ∧ -100000<=(l.getD i default).y∧(l.getD i default).y<=100000
end Go.Proofs.YtjhjmncjidbieaaGreatDoor
namespace Go.Proofs.YtjhjmncjidbieaaGreatDoor
open Go Go.Av Go.RowKit
def la125a (t:Ty):LA:={
 pre:=[.reno 4 1,.keep [1,4,23,24,25] [1],.bound 2],post:=[.reno 4 1,.keep [1,4,23,24,25] [1],.bound 2]
 Gh:=Nat
 st:=fun i=>⟨[(1,.elt 13 [encTy t] 0 0),(4,.ptr 1 0),(23,.sl 2 (t.st.map encSg)),(24,.i t.st.length),(25,.i i)],[(1,.box [.i (lastP t i),.sl 1 ((lastE t i).map encI)])],2⟩
 ok:=fun i=>i<=t.st.length∧∀ j,j < i->fSetS t j=0
 ms:=fun i=>t.st.length-i }
def la125b (t:Ty):LA:={
 pre:=[.keep [1,4,6,23,24,25,55,56,57] [1],.bound 2],post:=[.keep [1,4,6,23,24,25,55,56,57] [1],.bound 2]
 Gh:=Nat × Nat
 st:=fun g=>⟨[(1,.elt 13 [encTy t] 0 0),(4,.ptr 1 0),(6,.elt 2 [encSg (t.sg g.1)] 0 0),(23,.sl 2 (t.st.map encSg)),(24,.i t.st.length),(25,.i g.1),(55,.sl 1 ((t.sg g.1).e.map encI)),(56,.i (t.sg g.1).e.length),(57,.i g.2)],[(1,.box [.i (lastP t g.1),.sl 1 ((lastE t g.1).map encI)])],2⟩
 ok:=fun g=>g.1 < t.st.length∧g.2<=(t.sg g.1).e.length∧∀ j,j < g.2->badS t g.1 j=false
 ms:=fun g=>(t.sg g.1).e.length-g.2
 rel:=some fun g h=>h.1=g.1 }
def sSets (t:Ty):Int:=sLS (sCounted t.st.length 6) (fSetS t) t.st.length 0
def sp125:Nat->List AV->Option AV
 | 124,[.sl _ rows,.int _ m]=>some (.i (sFirst (rows.map fun r=>sWithin (hdI r) 0 m)))
 | n,x=>spR n x
theorem c124r (l:List Int) (m:Int) (hl:l.length<=1000):PCall Tryz.prog G0 124 [.sl 1 (l.map encI),.i m] (.i (sFirst ((l.map encI).map fun r=>sWithin (hdI r) 0 m))):=by
 rw [List.map_map]
 exact c124 l m hl
theorem mk56 {a b c d e f g h:AV} {B:List (Nat × ABlk)} {x y:Int} (q:x=y):AS.mk [(1,a),(4,b),(6,c),(23,d),(24,e),(25,f),(55,g),(56,AV.i x),(57,h)] B 2=AS.mk [(1,a),(4,b),(6,c),(23,d),(24,e),(25,f),(55,g),(56,AV.i y),(57,h)] B 2:=by rw [q]
theorem sg_mem {t:Ty} {g:Nat} (h:g < t.st.length):t.sg g ∈ t.st:=by
 rw [Ty.sg,List.getD_eq_getElem?_getD,List.getElem?_eq_getElem h]
 exact List.getElem_mem h
abbrev zc125a (t:Ty):=[[AV.str t.name,AV.sl (1:Nat) (List.map encI t.sh),AV.i t.d0,AV.i t.d1,AV.i t.d2,AV.i t.d3,AV.i t.d4,AV.i t.d5,AV.i t.d6,AV.i t.d7,AV.i t.side,AV.sl (1:Nat) (List.map encI t.sq),AV.sl (2:Nat) (List.map encSg t.st)]]
abbrev zc125c (t:Ty) (g:Nat):=t.st.getD (g:Int).toNat default
abbrev zc125i (t:Ty):=(↑(List.map encI t.sq).length:Int)
abbrev zc125k (t:Ty) (g:Nat):=sFirst (List.map (fun (r:List AV)=>sWithin (hdI r) (0:Int) (100000000:Int)) (List.map encI (zc125c t g).e))
abbrev zc125b (t:Ty) (g:Nat):=[hdI [AV.i (sWithin (zc125c t g).p (1:Int) (100:Int))],hdI [AV.i (sWhen (decide ((zc125c t g).p<=lastP t g)) (11:Int))],hdI [AV.i (sWhen ((↑(List.map encI (zc125c t g).e).length:Int) != (zc125i t)) (2:Int))],hdI [AV.i (zc125k t g)]]
abbrev zc125f (t:Ty) (g_1:Nat × Nat):=List.map encI (t.sg g_1.fst).e
abbrev zc125d (t:Ty) (g_1:Nat × Nat):=[((1:Nat),AV.elt (13:Nat) (zc125a t) (0:Nat) (0:Nat)),((4:Nat),AV.ptr (1:Nat) (0:Nat)),((6:Nat),AV.elt (2:Nat) [[AV.i (t.sg g_1.fst).p,AV.sl (1:Nat) (zc125f t g_1)]] (0:Nat) (0:Nat)),((23:Nat),AV.sl (2:Nat) (List.map encSg t.st)),((24:Nat),AV.i (↑t.st.length:Int)),((25:Nat),AV.i (↑g_1.fst:Int)),((55:Nat),AV.sl (1:Nat) (zc125f t g_1)),((56:Nat),AV.i (↑(t.sg g_1.fst).e.length:Int)),((57:Nat),AV.i ((↑g_1.snd:Int)+1))]
abbrev zc125e (t:Ty) (g':Nat × Nat):=[((1:Nat),AV.elt (13:Nat) (zc125a t) (0:Nat) (0:Nat)),((4:Nat),AV.ptr (1:Nat) (0:Nat)),((6:Nat),AV.elt (2:Nat) [[AV.i (t.sg g'.fst).p,AV.sl (1:Nat) (List.map encI (t.sg g'.fst).e)]] (0:Nat) (0:Nat)),((23:Nat),AV.sl (2:Nat) (List.map encSg t.st)),((24:Nat),AV.i (↑t.st.length:Int)),((25:Nat),AV.i (↑g'.fst:Int)),((55:Nat),AV.sl (1:Nat) (List.map encI (t.sg g'.fst).e)),((56:Nat),AV.i (↑(t.sg g'.fst).e.length:Int)),((57:Nat),AV.i (↑g'.snd:Int))]
abbrev zc125g (g':Nat × Nat) (t:Ty):=(g'.fst < t.st.length∧g'.snd<=(t.sg g'.fst).e.length∧∀ (j:Nat),j < g'.snd->badS t g'.fst j=false)
abbrev zc125h (t:Ty) (g_1:Nat × Nat):=cI (zc125f t g_1) (↑g_1.snd:Int).toNat < cI (List.map encI (lastE t g_1.fst)) (↑g_1.snd:Int).toNat
abbrev zc125j (t:Ty) (g_1:Nat × Nat):=cI (zc125f t g_1) (↑g_1.snd:Int).toNat > cI (zc125f t g_1) ((↑g_1.snd:Int)-1).toNat
abbrev zc125l (t:Ty):=(↑(List.map encSg t.st).length:Int)
theorem c125 (t:Ty) (hn:t.st.length<=1000) (hq:t.sq.length<=1000) (hl:∀ s,s ∈ t.st->s.e.length<=1000):PCall Tryz.prog G0 125 [.agg (encTy t)] (.i (sSets t)):=by
 have key :
  PCall Tryz.prog G0 123 [AV.i (zc125l t),AV.i 6] (AV.i (sCounted (zc125l t) (6:Int)))∧((sCounted (zc125l t) (6:Int) != 0)=true->AV.i (sCounted (zc125l t) (6:Int))=AV.i (sSets t))∧((sCounted (zc125l t) (6:Int) != 0)
  = false->(0:Int)<=(zc125i t)∧(zc125i t)<=(zc125i t)∧(zc125i t)<=9223372036854775807∧(zc125i t) * (8:Int)<=140737488355328∧(∃ (g:Nat),(g<=t.st.length∧∀ (j:Nat),j < g->fSetS t j=(0:Int))∧AS.mk [(1,
  AV.elt 13 [(encTy t)] 0 0),(4,AV.ptr 1 0),(23,AV.sl 2 (List.map encSg t.st)),(24,AV.i (zc125l t)),(25,AV.i 0)] [(1,ABlk.box [AV.i 0,AV.sl 1 (List.replicate (zc125i t).toNat [AV.i 0])])] 2=AS.mk [(1,AV.elt 13 [(encTy
  t)] 0 0),(4,AV.ptr 1 0),(23,AV.sl 2 (List.map encSg t.st)),(24,AV.i (↑t.st.length:Int)),(25,AV.i (g:Int))] [(1,ABlk.box [AV.i (lastP t g),AV.sl 1 (List.map encI (lastE t g))])] 2)∧∀ (g:Nat),(g<=t.st.length∧∀
  (j:Nat),j < g->fSetS t j=(0:Int))->(decide ((g:Int) < (↑t.st.length:Int))=true->(0:Int)<=(g:Int)∧(g:Int) < (zc125l t)∧AV.agg (nthR (List.map encSg t.st) (g:Int).toNat)=AV.agg [AV.i (zc125c t g).p,
  AV.sl 1 (List.map encI (zc125c t g).e)]∧PCall Tryz.prog G0 89 [AV.i (zc125c t g).p,AV.i 1,AV.i 100] (AV.i (sWithin (zc125c t g).p (1:Int) (100:Int)))∧PCall Tryz.prog G0 92 [AV.bool (decide ((zc125c t g).p<=lastP t g)),
  AV.i 11] (AV.i (sWhen (decide ((zc125c t g).p<=lastP t g)) (11:Int)))∧PCall Tryz.prog G0 92 [AV.bool ((↑(List.map encI (zc125c t g).e).length:Int) != (zc125i t)),AV.i 2] (AV.i (sWhen ((↑(List.map encI (zc125c t g).e).length
  : Int) != (zc125i t)) (2:Int)))∧PCall Tryz.prog G0 124 [AV.sl 1 (List.map encI (zc125c t g).e),AV.i 100000000] (AV.i (zc125k t g))∧PCall Tryz.prog G0 87 [AV.sl 1 [[AV.i (sWithin (zc125c t g).p (1:Int) (100:Int))],[AV.i
  (sWhen (decide ((zc125c t g).p<=lastP t g)) (11:Int))],[AV.i (sWhen ((↑(List.map encI (zc125c t g).e).length:Int) != (zc125i t)) (2:Int))],[AV.i (zc125k t g)]]] (AV.i (sFirst (zc125b t g)))∧((sFirst (zc125b t g) != 0) =
  true->AV.i (sFirst (zc125b t g))=AV.i (sSets t))∧((sFirst (zc125b t g) != 0)=false->∃ (g0:Nat × Nat),(g0.fst < t.st.length∧g0.snd<=(t.sg g0.fst).e.length∧∀ (j:Nat),j < g0.snd->badS t g0.fst j=false)∧g0.fst =
  g0.fst∧AS.mk [(1,AV.elt 13 [(encTy t)] 0 0),(4,AV.ptr 1 0),(6,AV.elt 2 [[AV.i (zc125c t g).p,AV.sl 1 (List.map encI (zc125c t g).e)]] 0 0),(23,AV.sl 2 (List.map encSg t.st)),(24,AV.i (↑t.st.length:Int)),(25,AV.i (↑g
  : Int)),(55,AV.sl 1 (List.map encI (zc125c t g).e)),(56,AV.i (↑(List.map encI (zc125c t g).e).length:Int)),(57,AV.i 0)] [(1,ABlk.box [AV.i (lastP t g),AV.sl 1 (List.map encI (lastE t g))])] 2=AS.mk [(1,AV.elt 13
  [(encTy t)] 0 0),(4,AV.ptr 1 0),(6,AV.elt 2 [[AV.i (t.sg g0.fst).p,AV.sl 1 (List.map encI (t.sg g0.fst).e)]] 0 0),(23,AV.sl 2 (List.map encSg t.st)),(24,AV.i (↑t.st.length:Int)),(25,AV.i (↑g0.fst:Int)),(55,AV.sl 1
  (List.map encI (t.sg g0.fst).e)),(56,AV.i (↑(t.sg g0.fst).e.length:Int)),(57,AV.i (↑g0.snd:Int))] [(1,ABlk.box [AV.i (lastP t g0.fst),AV.sl 1 (List.map encI (lastE t g0.fst))])] 2∧∀ (g_1:Nat × Nat),(g_1.fst <
  t.st.length∧g_1.snd<=(t.sg g_1.fst).e.length∧∀ (j:Nat),j < g_1.snd->badS t g_1.fst j=false)->g_1.fst=g0.fst->(decide ((↑g_1.snd:Int) < (↑(t.sg g_1.fst).e.length:Int))=true->(0:Int)<=(↑g_1.snd:Int) ∧
  (↑g_1.snd:Int) < (↑(zc125f t g_1).length:Int)∧nth (nthR (zc125f t g_1) (↑g_1.snd:Int).toNat) 0=AV.i (cI (zc125f t g_1) (↑g_1.snd:Int).toNat)∧(decide ((↑g_1.snd:Int) > 0)=true->(decide (zc125j t g_1)=true->In64
  ((↑g_1.snd:Int)-1)∧(0:Int)<=(↑g_1.snd:Int)-1∧(↑g_1.snd:Int)-1 < (↑(zc125f t g_1).length:Int)∧(true=false->false=true)∧AV.bool (decide ((↑g_1.snd:Int) > 0))=AV.bool true∧nth (nthR (zc125f t g_1)
  ((↑g_1.snd:Int)-1).toNat) 0=AV.i (cI (zc125f t g_1) ((↑g_1.snd:Int)-1).toNat)∧AV.bool (decide (zc125j t g_1))=AV.bool true∧(true=true->AV.i 21=AV.i (sSets t))∧(true=false->In64 ((↑g_1.snd:Int)+1)∧∃
  (g':Nat × Nat),(zc125g g' t)∧g'.fst=g0.fst∧(t.sg g'.fst).e.length-g'.snd < (t.sg g_1.fst).e.length-g_1.snd∧AS.mk (zc125d t g_1) [((1:Nat),ABlk.box [AV.i (lastP t g_1.fst),AV.sl (1:Nat) (List.map encI (lastE t
  g_1.fst))])] (2:Nat)=AS.mk (zc125e t g') [((1:Nat),ABlk.box [AV.i (lastP t g'.fst),AV.sl (1:Nat) (List.map encI (lastE t g'.fst))])] (2:Nat)))∧(decide (zc125j t g_1)=false->In64 ((↑g_1.snd:Int)-1)∧(0:Int) ≤
  (↑g_1.snd:Int)-1∧(↑g_1.snd:Int)-1 < (↑(zc125f t g_1).length:Int)∧(0:Int)<=(↑g_1.snd:Int)∧(↑g_1.snd:Int) < (↑(List.map encI (lastE t g_1.fst)).length:Int)∧AV.bool (decide ((↑g_1.snd:Int) > 0))=AV.bool
  true∧nth (nthR (zc125f t g_1) ((↑g_1.snd:Int)-1).toNat) 0=AV.i (cI (zc125f t g_1) ((↑g_1.snd:Int)-1).toNat)∧AV.bool (decide (zc125j t g_1))=AV.bool false∧nth (nthR (List.map encI (lastE t g_1.fst)) (↑g_1.snd :
  Int).toNat) 0=AV.i (cI (List.map encI (lastE t g_1.fst)) (↑g_1.snd:Int).toNat)∧(decide (zc125h t g_1)=true->AV.i 21=AV.i (sSets t))∧(decide (zc125h t g_1)=false->In64 ((↑g_1.snd:Int)+1)∧∃ (g':Nat × Nat),
  (zc125g g' t)∧g'.fst=g0.fst∧(t.sg g'.fst).e.length-g'.snd < (t.sg g_1.fst).e.length-g_1.snd∧AS.mk (zc125d t g_1) [((1:Nat),ABlk.box [AV.i (lastP t g_1.fst),AV.sl (1:Nat) (List.map encI (lastE t g_1.fst))])] (2 :
  Nat)=AS.mk (zc125e t g') [((1:Nat),ABlk.box [AV.i (lastP t g'.fst),AV.sl (1:Nat) (List.map encI (lastE t g'.fst))])] (2:Nat))))∧(decide ((↑g_1.snd:Int) > 0)=false->(false=true->(false=true->false=true) ∧
  (true=false->false=true)∧AV.bool (decide ((↑g_1.snd:Int) > 0))=AV.bool false∧AV.bool false=AV.bool true∧(true=true->AV.i 21=AV.i (sSets t))∧(true=false->In64 ((↑g_1.snd:Int)+1)∧∃ (g':Nat × Nat),
  (zc125g g' t)∧g'.fst=g0.fst∧(t.sg g'.fst).e.length-g'.snd < (t.sg g_1.fst).e.length-g_1.snd∧AS.mk [(1,AV.elt 13 (zc125a t) 0 (0:Nat)),(4,AV.ptr 1 (0:Nat)),(6,AV.elt 2 [[AV.i (t.sg g_1.fst).p,AV.sl (1:Nat)
  (zc125f t g_1)]] 0 (0:Nat)),(23,AV.sl 2 (List.map encSg t.st)),(24,AV.i (↑t.st.length:Int)),(25,AV.i (↑g_1.fst:Int)),(55,AV.sl 1 (zc125f t g_1)),(56,AV.i (↑(t.sg g_1.fst).e.length:Int)),(57,AV.i ((↑g_1.snd :
  Int)+1))] [(1,ABlk.box [AV.i (lastP t g_1.fst),AV.sl (1:Nat) (List.map encI (lastE t g_1.fst))])] 2=AS.mk [(1,AV.elt 13 (zc125a t) 0 (0:Nat)),(4,AV.ptr 1 (0:Nat)),(6,AV.elt 2 [[AV.i (t.sg g'.fst).p,AV.sl (1:Nat)
  (List.map encI (t.sg g'.fst).e)]] 0 (0:Nat)),(23,AV.sl 2 (List.map encSg t.st)),(24,AV.i (↑t.st.length:Int)),(25,AV.i (↑g'.fst:Int)),(55,AV.sl 1 (List.map encI (t.sg g'.fst).e)),(56,AV.i (↑(t.sg g'.fst).e.length :
  Int)),(57,AV.i (↑g'.snd:Int))] [(1,ABlk.box [AV.i (lastP t g'.fst),AV.sl (1:Nat) (List.map encI (lastE t g'.fst))])] 2))∧(false=false->(false=true->false=true)∧(0:Int)<=(↑g_1.snd:Int)∧(↑g_1.snd:Int) <
  (↑(List.map encI (lastE t g_1.fst)).length:Int)∧AV.bool (decide ((↑g_1.snd:Int) > 0))=AV.bool false∧AV.bool false=AV.bool false∧nth (nthR (List.map encI (lastE t g_1.fst)) (↑g_1.snd:Int).toNat) 0=AV.i (cI
  (List.map encI (lastE t g_1.fst)) (↑g_1.snd:Int).toNat)∧(decide (zc125h t g_1)=true->AV.i 21=AV.i (sSets t))∧(decide (zc125h t g_1)=false->In64 ((↑g_1.snd:Int)+1)∧∃ (g':Nat × Nat),(zc125g g' t)∧g'.fst =
  g0.fst∧(t.sg g'.fst).e.length-g'.snd < (t.sg g_1.fst).e.length-g_1.snd∧AS.mk [(1,AV.elt (13:Nat) (zc125a t) (0:Nat) (0:Nat)),((4:Nat),AV.ptr (1:Nat) (0:Nat)),((6:Nat),AV.elt (2:Nat) [[AV.i (t.sg
  g_1.fst).p,AV.sl (1:Nat) (zc125f t g_1)]] (0:Nat) (0:Nat)),((23:Nat),AV.sl (2:Nat) (List.map encSg t.st)),((24:Nat),AV.i (↑t.st.length:Int)),((25:Nat),AV.i (↑g_1.fst:Int)),((55:Nat),AV.sl (1:Nat)
  (zc125f t g_1)),((56:Nat),AV.i (↑(t.sg g_1.fst).e.length:Int)),((57:Nat),AV.i ((↑g_1.snd:Int)+1))] [(1,ABlk.box [AV.i (lastP t g_1.fst),AV.sl (1:Nat) (List.map encI (lastE t g_1.fst))])] 2=AS.mk [(1,AV.elt (13
  : Nat) (zc125a t) (0:Nat) (0:Nat)),((4:Nat),AV.ptr (1:Nat) (0:Nat)),((6:Nat),AV.elt (2:Nat) [[AV.i (t.sg g'.fst).p,AV.sl (1:Nat) (List.map encI (t.sg g'.fst).e)]] (0:Nat) (0:Nat)),((23:Nat),AV.sl (2 :
  Nat) (List.map encSg t.st)),((24:Nat),AV.i (↑t.st.length:Int)),((25:Nat),AV.i (↑g'.fst:Int)),((55:Nat),AV.sl (1:Nat) (List.map encI (t.sg g'.fst).e)),((56:Nat),AV.i (↑(t.sg g'.fst).e.length:Int)),((57 :
  Nat),AV.i (↑g'.snd:Int))] [(1,ABlk.box [AV.i (lastP t g'.fst),AV.sl (1:Nat) (List.map encI (lastE t g'.fst))])] (2:Nat)))))∧(decide ((↑g_1.snd:Int) < (↑(t.sg g_1.fst).e.length:Int))=false->In64 ((↑g_1.fst:Int) +
  1)∧∃ (g':Nat),(g'<=t.st.length∧∀ (j:Nat),j < g'->fSetS t j=(0:Int))∧t.st.length-g' < t.st.length-g∧AS.mk [(1,AV.elt 13 [(encTy t)] 0 0),(4,AV.ptr 1 0),(23,AV.sl 2 (List.map encSg t.st)),(24,AV.i
  (↑t.st.length:Int)),(25,AV.i ((↑g_1.fst:Int)+1))] [(1,ABlk.box [AV.i (t.sg g_1.fst).p,AV.sl 1 (zc125f t g_1)])] 2=AS.mk [(1,AV.elt 13 [(encTy t)] 0 0),(4,AV.ptr 1 0),(23,AV.sl 2 (List.map encSg t.st)),(24,AV.i
  (↑t.st.length:Int)),(25,AV.i (↑g':Int))] [(1,ABlk.box [AV.i (lastP t g'),AV.sl 1 (List.map encI (lastE t g'))])] 2)))∧(decide ((g:Int) < (↑t.st.length:Int))=false->AV.i 0=AV.i (sSets t))):=by
   delta zc125a zc125b zc125c zc125d zc125e zc125f zc125g zc125h zc125i zc125j zc125k zc125l
   have hlm:(List.map encSg t.st).length=t.st.length:=List.length_map _
   have hlq:(List.map encI t.sq).length=t.sq.length:=List.length_map _
   refine ⟨c123 _ _,fun h=>?_,fun h=>⟨by omega,by omega,by omega,by omega,⟨0,⟨by omega,by intros;omega⟩,?_⟩,fun g ⟨hg,ha⟩=>⟨fun hd=>?_,fun hd=>?_⟩⟩⟩
   · rw [hlm] at h ⊢
     exact congrArg AV.i (ls_first h).symm
   · have e1:List.replicate ((List.map encI t.sq).length:Int).toNat [AV.i 0]=List.map encI (lastE t 0):=by
      rw [Int.toNat_natCast,hlq]
      show _=List.map encI (List.replicate t.sq.length 0)
      rw [List.map_replicate]
      rfl
     rw [e1,hlm]
     rfl
   · have hlt:=lt_of_dec hd
     have hle:(List.map encI (t.sg g).e).length=(t.sg g).e.length:=List.length_map _
     have hS:=hl _ (sg_mem hlt)
     rw [hlm] at h
     have hc:sFirst [sWithin (t.sg g).p 1 100,sWhen (decide ((t.sg g).p<=lastP t g)) 11,sWhen (((List.map encI (t.sg g).e).length:Int) != ((List.map encI t.sq).length:Int)) 2,sFirst (List.map (fun r=>sWithin (hdI r) 0 100000000) (List.map encI (t.sg g).e))]=cSetS t g:=by
      unfold cSetS
      rw [<- hle,<- hlq,List.map_map]
      rfl
     refine ⟨by omega,by omega,congrArg AV.agg (row_at encSg hlt),c89 _ _ _,c92 _ _,c92 _ _,c124r _ _ hS,c87 [_,_,_,_] (by simp),fun hx=>?_,fun hx=>⟨(g,0),⟨hlt,by omega,fun _ hj=>absurd hj (by omega)⟩,rfl,?_,fun ⟨h1,k⟩ ⟨q1,q2,q3⟩ q4=>⟨fun hy=>?_,fun hy=>?_⟩⟩⟩
     · have hx:(cSetS t g != 0)=true:=by rw [<- hc];exact hx
       have e1:fSetS t g=cSetS t g:=ls_first hx
       refine congrArg AV.i ?_
       rw [sSets,ls_hit (i:=g) h hd ha (by rw [e1];exact hx),e1]
       exact hc
     · exact mk56 (congrArg Nat.cast hle)
     · have hx:(cSetS t g != 0)=false:=by rw [<- hc];exact hx
       clear hc
       have q4:h1=g:=q4
       have q3:∀ j,j < k->badS t h1 j=false:=q3
       have hy:decide ((k:Int) < (t.sg h1).e.length)=true:=hy
       clear q1 q2
       subst q4
       have hlt2:=lt_of_dec hy
       have hlE:(t.sg h1).e.length=t.sq.length:=by
        have hcz:cSetS t h1=0:=by simpa using hx
        unfold cSetS at hcz
        exact first4_3 hcz
       have hlL:(lastE t h1).length=t.sq.length:=by
        unfold lastE
        split
        · exact List.length_replicate
        · have hcz:=(ls_zero (ha (h1-1) (by omega))).1
          unfold cSetS at hcz
          exact first4_3 hcz
       have hF:badS t h1 k=true->AV.i 21=AV.i (sSets t):=fun hb=>by
        have e1:fSetS t h1=21:=by
         rw [fSetS,ls_hit (i:=k) hx hy (fun j hj=>by rw [q3 j hj];rfl) (by rw [hb];decide),hb]
         rfl
        rw [sSets,ls_hit (i:=h1) h hd ha (by rw [e1];decide),e1]
       have hN:badS t h1 k=false->∃ (k':Nat),(h1 < t.st.length∧k'<=(t.sg h1).e.length∧∀ (j:Nat),j < k'->badS t h1 j=false)∧(t.sg h1).e.length-k' < (t.sg h1).e.length-k∧(k:Int)+1=(k':Int):=fun hb =>
        ⟨k+1,⟨hlt,hlt2,fun j hj=>by by_cases e:j=k;(· rw [e];exact hb);(· exact q3 j (by omega))⟩,by omega,rfl⟩
       have hb:badS t h1 k=(((decide ((k:Int) > 0)) && decide (cI (List.map encI (t.sg h1).e) ((k:Int)).toNat > cI (List.map encI (t.sg h1).e) ((k:Int)-1).toNat)) || (decide (cI (List.map encI (t.sg h1).e) ((k:Int)).toNat < cI (List.map encI (lastE t h1)) ((k:Int)).toNat))):=by
        rw [cI_map,cI_map,cI_map]
        unfold badS up
        congr 1
        by_cases e0:k=0
        · rw [if_pos e0,e0];rfl
        · rw [if_neg e0,show ((k:Int)-1).toNat=k-1 by omega,show decide ((k:Int) > 0)=true from decide_eq_true (by omega)];rfl
       have hlL2:(List.map encI (lastE t h1)).length=(lastE t h1).length:=List.length_map _
       have hat:=cI_at hlt2
       have hat2:(k:Int) > 0->nth (nthR (List.map encI (t.sg h1).e) ((k:Int)-1).toNat) 0=AV.i (cI (List.map encI (t.sg h1).e) ((k:Int)-1).toNat):=fun _=>cI_at (by omega)
       have hat3:nth (nthR (List.map encI (lastE t h1)) ((k:Int)).toNat) 0=AV.i (cI (List.map encI (lastE t h1)) ((k:Int)).toNat):=cI_at (by omega)
       rw [hb] at hF hN
       have h64:In64 ((k:Int)+1):=by unfold In64;omega
       have h65:In64 ((k:Int)-1):=by unfold In64;omega
       clear hb h hx ha q3 hd hy
       dsimp only
       refine ⟨by omega,by omega,hat,?_⟩
       by_cases hk:(k:Int) > 0
       · have hA:decide ((k:Int) > 0)=true:=decide_eq_true hk
         have hat2:=hat2 hk
         rw [hA] at hF hN ⊢
         generalize hC:decide (cI (List.map encI (t.sg h1).e) ((k:Int)).toNat > cI (List.map encI (t.sg h1).e) ((k:Int)-1).toNat)=c at hF hN ⊢
         generalize hD:decide (cI (List.map encI (t.sg h1).e) ((k:Int)).toNat < cI (List.map encI (lastE t h1)) ((k:Int)).toNat)=d at hF hN ⊢
         clear hA hC hD
         obtain ⟨_,_⟩:=h64
         obtain ⟨_,_⟩:=h65
         cases c <;> cases d
         all_goals repeat' (first | apply And.intro | (intro h;cases h;done) | intro _)
         all_goals try first
          | omega
          | (unfold In64;omega)
          | rfl
          | exact hat2
          | exact hat3
          | exact hF rfl
          | (obtain ⟨g',q1,q2,q3⟩:=hN rfl;exact ⟨(h1,g'),q1,rfl,q2,by rw [q3]⟩)
       · have hA:decide ((k:Int) > 0)=false:=decide_eq_false hk
         rw [hA] at hF hN ⊢
         generalize hC:decide (cI (List.map encI (t.sg h1).e) ((k:Int)).toNat > cI (List.map encI (t.sg h1).e) ((k:Int)-1).toNat)=c at hF hN ⊢
         generalize hD:decide (cI (List.map encI (t.sg h1).e) ((k:Int)).toNat < cI (List.map encI (lastE t h1)) ((k:Int)).toNat)=d at hF hN ⊢
         clear hA hC hD
         obtain ⟨_,_⟩:=h64
         obtain ⟨_,_⟩:=h65
         cases d
         all_goals repeat' (first | apply And.intro | (intro h;cases h;done) | intro _)
         all_goals try first
          | omega
          | (unfold In64;omega)
          | rfl
          | exact hat3
          | exact hF rfl
          | (obtain ⟨g',q1,q2,q3⟩:=hN rfl;exact ⟨(h1,g'),q1,rfl,q2,by rw [q3]⟩)
     · have hx:(cSetS t g != 0)=false:=by rw [<- hc];exact hx
       clear hc
       have q4:h1=g:=q4
       have q3:∀ j,j < k->badS t h1 j=false:=q3
       have q2:k<=(t.sg h1).e.length:=q2
       have hy:decide ((k:Int) < (t.sg h1).e.length)=false:=hy
       subst q4
       have ez:fSetS t h1=0:=ls_end (i:=k) hx hy q2 (fun j hj=>by rw [q3 j hj];rfl)
       exact ⟨by unfold In64;dsimp only;omega,h1+1,⟨hlt,all_succ ha (by rw [ez];rfl)⟩,by omega,rfl⟩
   · rw [hlm] at h
     exact congrArg AV.i (ls_end h hd hg ha).symm
 exact c_of Tryz.f125 ({ fzB (mkB sp125 125 [(7,1,rdL 2 encSg t.st 2 true),(13,2,rdJ),(14,9,rdJ),(14,18,rdJ)] (fun j=>if j.beq 0 then some (la125a t) else if j.beq 2 then some (la125b t) else none)) with split:=fun j=>if j.beq 14 then 1 else 0 }) (by kernel_rfl) (by kernel_rfl) (by kernel_rfl) (by kernel_rfl) key (by kernel_rfl)
end Go.Proofs.YtjhjmncjidbieaaGreatDoor
namespace Go.Proofs.YtjhjmncjidbieaaGreatDoor
open Go Go.Av Go.RowKit
def cTyS1 (t:Ty):Int:=sFirst [sWhen (!sName t.name) 8,sCounted t.sh.length 8,sRanged t.sh 1000,sWhen (sumW t.sh t.sh.length != 1000) 1]
def cTyS2 (t:Ty):Int:=sFirst [sRanged t.dir 2000,sWithin t.side 0 1000,sCounted t.sq.length 8,sRanged t.sq 100000000000]
def sTyS (t:Ty):Int:=if cTyS1 t != 0 then cTyS1 t else sLS (cTyS2 t) (fSq t.sq) t.sq.length (sSets t)
theorem mk3 {a:AV} {x y:Int} (h:x=y):AS.mk [(1,a),(3,AV.i x)] [] 1=AS.mk [(1,a),(3,AV.i y)] [] 1:=by rw [h]
theorem mk4 {a:AV} {x y:Int} (h:x=y):AS.mk [(1,a),(4,AV.i x)] [] 1=AS.mk [(1,a),(4,AV.i y)] [] 1:=by rw [h]
theorem mk5 {a:AV} {x y:Int} (h:x=y):AS.mk [(1,a),(5,AV.i x)] [] 1=AS.mk [(1,a),(5,AV.i y)] [] 1:=by rw [h]
theorem mk49 {a b d:AV} {x y:Int} (h:x=y):AS.mk [(1,a),(48,b),(49,AV.i x),(50,d)] [] 1=AS.mk [(1,a),(48,b),(49,AV.i y),(50,d)] [] 1:=by rw [h]
def sp53 (t:Ty):Nat->List AV->Option AV
 | 122,[.str s]=>some (.bool (sName s))
 | 121,_=>some (.i (sumW t.sh t.sh.length))
 | 125,_=>some (.i (sSets t))
 | 124,[.sl _ rows,.int _ m]=>some (.i (sFirst (rows.map fun r=>sWithin (hdI r) 0 m)))
 | n,x=>spR n x
def la53 (t:Ty):LA:={
 pre:=[.keep [1,48,49,50] [],.bound 1],post:=[.keep [1,48,49,50] [],.bound 1]
 Gh:=Nat
 st:=fun i=>⟨[(1,.elt 13 [encTy t] 0 0),(48,.sl 1 (t.sq.map encI)),(49,.i t.sq.length),(50,.i i)],[],1⟩
 ok:=fun i=>i<=t.sq.length∧∀ k,k < i->fSq t.sq k=0
 ms:=fun i=>t.sq.length-i }
def cut53 (t:Ty):Nat->Option (AS->AS):=fun j=>if j.beq 1 then some (cutA [1,3] [] 1 3 fun _=>.i (cTyS1 t)) else if j.beq 4 then some (cutA [1,4] [] 1 4 fun _=>.i (cTyS2 t)) else none
def gs53:Nat->List GS:=fun j=>if j.beq 1 then [.keep [1,3] [],.bound 1] else if j.beq 4 then [.keep [1,4] [],.bound 1] else []
abbrev zc53a (t:Ty):=sFirst [sWithin (hdI [AV.i t.d0]) (0:Int) (2000:Int),sWithin (hdI [AV.i t.d1]) (0:Int) (2000:Int),sWithin (hdI [AV.i t.d2]) (0:Int) (2000:Int),sWithin (hdI [AV.i t.d3]) (0:Int) (2000:Int),sWithin (hdI [AV.i t.d4]) (0:Int) (2000:Int),sWithin (hdI [AV.i t.d5]) (0:Int) (2000:Int),sWithin (hdI [AV.i t.d6]) (0:Int) (2000:Int),sWithin (hdI [AV.i t.d7]) (0:Int) (2000:Int)]
abbrev zc53b (t:Ty) (g:Nat):=[(1,AV.elt 13 [(encTy t)] 0 0),(48,AV.sl 1 (List.map encI t.sq)),(49,AV.i (↑t.sq.length:Int)),(50,AV.i ((g:Int)+1))]
abbrev zc53c (t:Ty) (g':Nat):=[(1,AV.elt 13 [(encTy t)] 0 0),(48,AV.sl 1 (List.map encI t.sq)),(49,AV.i (↑t.sq.length:Int)),(50,AV.i (↑g':Int))]
abbrev zc53j (t:Ty) (g:Nat):=cI (List.map encI t.sq) (g:Int).toNat<=cI (List.map encI t.sq) ((g:Int)-1).toNat
abbrev zc53g (g':Nat) (t:Ty):=(g'<=t.sq.length∧∀ (k:Nat),k < g'->fSq t.sq k=(0:Int))
abbrev zc53d (t:Ty) (g:Nat):=(decide (zc53j t g)=false->In64 ((g:Int)+1)∧∃ (g':Nat),(zc53g g' t)∧t.sq.length-g' < t.sq.length-g∧AS.mk (zc53b t g) [] 1=AS.mk (zc53c t g') [] 1)
abbrev zc53e (t:Ty):=sFirst (List.map (fun (r:List AV)=>sWithin (hdI r) (0:Int) (100000000000:Int)) (List.map encI t.sq))
abbrev zc53i (t:Ty):=sFirst (List.map (fun (r:List AV)=>sWithin (hdI r) (0:Int) (1000:Int)) (List.map encI t.sh))
abbrev zc53f (t:Ty):=sFirst [hdI [AV.i (sWhen (!sName t.name) (8:Int))],hdI [AV.i (sCounted (↑(List.map encI t.sh).length:Int) (8:Int))],hdI [AV.i (zc53i t)],hdI [AV.i (sWhen (sumW t.sh t.sh.length != 1000) (1:Int))]]
abbrev zc53h (t:Ty):=(↑(List.map encI t.sq).length:Int)
theorem c53 (t:Ty) (hn:t.st.length<=1000) (hs:t.sh.length<=1000) (hq:t.sq.length<=1000) (hl:∀ s,s ∈ t.st->s.e.length<=1000) (hN:t.name.length<=1000000):PCall Tryz.prog G0 53 [.agg (encTy t)] (.i (sTyS t)):=by
 have key :
  (PCall Tryz.prog G0 122 [AV.str t.name] (AV.bool (sName t.name))∧PCall Tryz.prog G0 92 [AV.bool !sName t.name,AV.i 8] (AV.i (sWhen (!sName t.name) (8:Int)))∧PCall Tryz.prog G0 123 [AV.i (↑(List.map encI t.sh).length:Int),
  AV.i 8] (AV.i (sCounted (↑(List.map encI t.sh).length:Int) (8:Int)))∧PCall Tryz.prog G0 124 [AV.sl 1 (List.map encI t.sh),AV.i 1000] (AV.i (zc53i t))∧PCall Tryz.prog G0 121 [AV.sl 1 (List.map encI t.sh)] (AV.i (sumW t.sh
  t.sh.length))∧PCall Tryz.prog G0 92 [AV.bool (sumW t.sh t.sh.length != 1000),AV.i 1] (AV.i (sWhen (sumW t.sh t.sh.length != 1000) (1:Int)))∧PCall Tryz.prog G0 87 [AV.sl 1 [[AV.i (sWhen (!sName t.name) (8:Int))],[AV.i
  (sCounted (↑(List.map encI t.sh).length:Int) (8:Int))],[AV.i (zc53i t)],[AV.i (sWhen (sumW t.sh t.sh.length != 1000) (1:Int))]]] (AV.i (zc53f t))∧AS.mk [(1,AV.elt 13 [(encTy t)] 0 0),(3,AV.i (zc53f t))] [] 1=AS.mk
  [(1,AV.elt 13 [(encTy t)] 0 0),(3,AV.i (cTyS1 t))] [] 1)∧((cTyS1 t != 0)=true->AV.i (cTyS1 t)=AV.i (sTyS t))∧((cTyS1 t != 0)=false->(PCall Tryz.prog G0 124 [AV.sl 1 [[AV.i t.d0],[AV.i t.d1],[AV.i t.d2],[AV.i
  t.d3],[AV.i t.d4],[AV.i t.d5],[AV.i t.d6],[AV.i t.d7]],AV.i 2000] (AV.i (zc53a t))∧PCall Tryz.prog G0 89 [AV.i t.side,AV.i 0,AV.i 1000] (AV.i (sWithin t.side (0:Int) (1000:Int)))∧PCall Tryz.prog G0 123 [AV.i (zc53h
  t),AV.i 8] (AV.i (sCounted (zc53h t) (8:Int)))∧PCall Tryz.prog G0 124 [AV.sl 1 (List.map encI t.sq),AV.i 100000000000] (AV.i (zc53e t))∧PCall Tryz.prog G0 87 [AV.sl 1 [[AV.i (zc53a t)],[AV.i (sWithin t.side (0:Int) (1000
  : Int))],[AV.i (sCounted (zc53h t) (8:Int))],[AV.i (zc53e t)]]] (AV.i (sFirst [hdI [AV.i (zc53a t)],hdI [AV.i (sWithin t.side (0:Int) (1000:Int))],hdI [AV.i (sCounted (zc53h t) (8:Int))],hdI [AV.i (zc53e t)]]))∧AS.mk
  [(1,AV.elt 13 [(encTy t)] 0 0),(4,AV.i (sFirst [hdI [AV.i (zc53a t)],hdI [AV.i (sWithin t.side (0:Int) (1000:Int))],hdI [AV.i (sCounted (zc53h t) (8:Int))],hdI [AV.i (zc53e t)]]))] [] 1=AS.mk [(1,AV.elt 13 [(encTy
  t)] 0 0),(4,AV.i (cTyS2 t))] [] 1)∧((cTyS2 t != 0)=true->AV.i (cTyS2 t)=AV.i (sTyS t))∧((cTyS2 t != 0)=false->(∃ (g:Nat),(g<=t.sq.length∧∀ (k:Nat),k < g->fSq t.sq k=(0:Int))∧AS.mk [(1,AV.elt 13
  [(encTy t)] 0 0),(48,AV.sl 1 (List.map encI t.sq)),(49,AV.i (zc53h t)),(50,AV.i 0)] [] 1=AS.mk [(1,AV.elt 13 [(encTy t)] 0 0),(48,AV.sl 1 (List.map encI t.sq)),(49,AV.i (↑t.sq.length:Int)),(50,AV.i (g:Int))] []
  1)∧∀ (g:Nat),(g<=t.sq.length∧∀ (k:Nat),k < g->fSq t.sq k=(0:Int))->(decide ((g:Int) < (↑t.sq.length:Int))=true->(0:Int)<=(g:Int)∧(g:Int) < (zc53h t)∧nth (nthR (List.map encI t.sq) (↑g :
  Int).toNat) 0=AV.i (cI (List.map encI t.sq) (g:Int).toNat)∧(((g:Int) == 0)=true->((cI (List.map encI t.sq) (g:Int).toNat != 0)=true->(true=false->false=true)∧AV.bool ((g:Int) == 0)=AV.bool true ∧
  AV.bool (cI (List.map encI t.sq) (g:Int).toNat != 0)=AV.bool true∧(true=true->AV.i 11=AV.i (sTyS t))∧(true=false->In64 ((g:Int)+1)∧∃ (g':Nat),(zc53g g' t)∧t.sq.length-g' < t.sq.length-g∧AS.mk
  (zc53b t g) [] 1=AS.mk (zc53c t g') [] 1))∧((cI (List.map encI t.sq) (g:Int).toNat != 0)=false->(decide ((g:Int) > 0)=true->In64 ((g:Int)-1)∧(0:Int)<=(g:Int)-1∧(g:Int)-1 < (zc53h t)∧AV.bool
  ((g:Int) == 0)=AV.bool true∧AV.bool (cI (List.map encI t.sq) (g:Int).toNat != 0)=AV.bool false∧AV.bool (decide ((g:Int) > 0))=AV.bool true∧nth (nthR (List.map encI t.sq) ((g:Int)-1).toNat) 0=AV.i (cI
  (List.map encI t.sq) ((g:Int)-1).toNat)∧(decide (zc53j t g)=true->AV.i 11=AV.i (sTyS t))∧(zc53d t g))∧(decide ((g:Int) > 0)=false->(false=true->false=true)∧AV.bool ((g:Int) == 0)=AV.bool true ∧
  AV.bool (cI (List.map encI t.sq) (g:Int).toNat != 0)=AV.bool false∧AV.bool (decide ((g:Int) > 0))=AV.bool false∧(false=true->AV.i 11=AV.i (sTyS t))∧(false=false->In64 ((g:Int)+1)∧∃ (g':Nat),(zc53g
  g' t)∧t.sq.length-g' < t.sq.length-g∧AS.mk (zc53b t g) [] 1=AS.mk (zc53c t g') [] 1))))∧(((g:Int) == 0)=false->(false=true->(false=true->false=true)∧(true=false->false=true)∧AV.bool ((g:Int) ==
  0)=AV.bool false∧AV.bool false=AV.bool true∧(true=true->AV.i 11=AV.i (sTyS t))∧(true=false->In64 ((g:Int)+1)∧∃ (g':Nat),(zc53g g' t)∧t.sq.length-g' < t.sq.length-g∧AS.mk (zc53b t g) [] 1=AS.mk
  (zc53c t g') [] 1))∧(false=false->(decide ((g:Int) > 0)=true->(false=true->false=true)∧In64 ((g:Int)-1)∧(0:Int)<=(g:Int)-1∧(g:Int)-1 < (zc53h t)∧AV.bool ((g:Int) == 0)=AV.bool false ∧
  AV.bool false=AV.bool false∧AV.bool (decide ((g:Int) > 0))=AV.bool true∧nth (nthR (List.map encI t.sq) ((g:Int)-1).toNat) 0=AV.i (cI (List.map encI t.sq) ((g:Int)-1).toNat)∧(decide (zc53j t g)=true->AV.i
  11=AV.i (sTyS t))∧(zc53d t g))∧(decide ((g:Int) > 0)=false->(false=true->false=true)∧(false=true->false=true)∧AV.bool ((g:Int) == 0)=AV.bool false∧AV.bool false=AV.bool false∧AV.bool (decide
  ((g:Int) > 0))=AV.bool false∧(false=true->AV.i 11=AV.i (sTyS t))∧(false=false->In64 ((g:Int)+1)∧∃ (g':Nat),(zc53g g' t)∧t.sq.length-g' < t.sq.length-g∧AS.mk (zc53b t g) [] 1=AS.mk (zc53c t g')
  [] 1)))))∧(decide ((g:Int) < (↑t.sq.length:Int))=false->PCall Tryz.prog G0 125 [AV.agg (encTy t)] (AV.i (sSets t))∧AV.i (sSets t)=AV.i (sTyS t)))):=by
   delta zc53a zc53b zc53c zc53d zc53e zc53f zc53g zc53h zc53i zc53j
   have hls:(List.map encI t.sh).length=t.sh.length:=List.length_map _
   have hlq:(List.map encI t.sq).length=t.sq.length:=List.length_map _
   have e1:sFirst [sWhen (!sName t.name) 8,sCounted ((List.map encI t.sh).length:Int) 8,sFirst (List.map (fun r=>sWithin (hdI r) 0 1000) (List.map encI t.sh)),sWhen (sumW t.sh t.sh.length != 1000) 1]=cTyS1 t:=by
    unfold cTyS1
    rw [hls,List.map_map]
    rfl
   have e2:sFirst [sRanged t.dir 2000,sWithin t.side 0 1000,sCounted ((List.map encI t.sq).length:Int) 8,sFirst (List.map (fun r=>sWithin (hdI r) 0 100000000000) (List.map encI t.sq))]=cTyS2 t:=by
    unfold cTyS2
    rw [hlq,List.map_map]
    rfl
   refine ⟨⟨c122 _ hN,c92 _ _,c123 _ _,c124r _ _ hs,c121 _ (by omega),c92 _ _,c87 [_,_,_,_] (by simp),mk3 e1⟩,fun h=>?_,fun h=>⟨⟨c124r t.dir 2000 (show (8:Nat)<=1000 by decide),c89 _ _ _,c123 _ _,c124r _ _ hq,c87 [_,_,_,_] (by simp),mk4 e2⟩,fun h2=>?_,fun h2=>⟨⟨0,⟨by omega,by intros;omega⟩,mk49 (congrArg Nat.cast hlq)⟩,fun g ⟨hg,ha⟩=>⟨fun hd=>?_,fun hd=>?_⟩⟩⟩⟩
   · exact congrArg AV.i (if_pos h).symm
   · rw [sTyS,if_neg (by rw [h];decide),ls_first h2]
   · have hlt:=lt_of_dec hd
     have hF:sqBad t.sq g=true->AV.i 11=AV.i (sTyS t):=fun hb=>by
      have e:fSq t.sq g=11:=by rw [fSq,if_pos hb]
      rw [sTyS,if_neg (by rw [h];decide),ls_hit (f:=fSq t.sq) h2 hd ha (by rw [e];decide),e]
     have hN:sqBad t.sq g=false->∃ (g':Nat),(g'<=t.sq.length∧∀ (k:Nat),k < g'->fSq t.sq k=0)∧t.sq.length-g' < t.sq.length-g∧(g:Int)+1=(g':Int):=fun hb =>
      ⟨g+1,⟨hlt,all_succ ha (by rw [(fSq_z t.sq g).2 hb];rfl)⟩,by omega,rfl⟩
     have hb:sqBad t.sq g=(((((g:Int)) == 0) && cI (List.map encI t.sq) ((g:Int)).toNat != 0) || (decide ((g:Int) > 0) && decide (cI (List.map encI t.sq) ((g:Int)).toNat<=cI (List.map encI t.sq) ((g:Int)-1).toNat))):=by
      rw [cI_map,cI_map]
      unfold sqBad
      by_cases e0:g=0
      · subst e0
        exact (Bool.or_false _).symm
      · rw [if_neg e0,show ((g:Int)-1).toNat=g-1 by omega,show decide ((g:Int) > 0)=true from decide_eq_true (by omega),show ((g:Int) == 0)=false from beq_false_of_ne (by omega)]
        rfl
     have hat:nth (nthR (List.map encI t.sq) ((g:Int)).toNat) 0=AV.i (cI (List.map encI t.sq) ((g:Int)).toNat):=cI_at hlt
     have hat2:(g:Int) > 0->nth (nthR (List.map encI t.sq) ((g:Int)-1).toNat) 0=AV.i (cI (List.map encI t.sq) ((g:Int)-1).toNat):=fun _=>cI_at (by omega)
     rw [hb] at hF hN
     have h64:In64 ((g:Int)+1):=by unfold In64;omega
     have h65:In64 ((g:Int)-1):=by unfold In64;omega
     clear hb h h2 ha hd e1 e2
     generalize sTyS t=q at hF ⊢
     generalize hC:(cI (List.map encI t.sq) ((g:Int)).toNat != 0)=c at hF hN ⊢
     generalize hD:decide (cI (List.map encI t.sq) ((g:Int)).toNat<=cI (List.map encI t.sq) ((g:Int)-1).toNat)=d at hF hN ⊢
     clear hC hD
     obtain ⟨_,_⟩:=h64
     obtain ⟨_,_⟩:=h65
     refine ⟨by omega,by omega,hat,?_⟩
     by_cases hk:g=0
     · have hA:decide ((g:Int) > 0)=false:=decide_eq_false (by omega)
       have hB:((g:Int) == 0)=true:=by rw [beq_iff_eq];omega
       rw [hA,hB] at hF hN ⊢
       cases c <;> cases d
       all_goals repeat' (first | apply And.intro | (intro h;cases h;done) | intro _)
       all_goals try first
        | omega
        | (unfold In64;omega)
        | rfl
        | exact hF rfl
        | (obtain ⟨g',q1,q2,q3⟩:=hN rfl;exact ⟨g',q1,q2,by rw [q3]⟩)
     · have hA:decide ((g:Int) > 0)=true:=decide_eq_true (by omega)
       have hB:((g:Int) == 0)=false:=beq_false_of_ne (by omega)
       have hat2:=hat2 (by omega)
       rw [hA,hB] at hF hN ⊢
       cases c <;> cases d
       all_goals repeat' (first | apply And.intro | (intro h;cases h;done) | intro _)
       all_goals try first
        | omega
        | (unfold In64;omega)
        | rfl
        | exact hat2
        | exact hF rfl
        | (obtain ⟨g',q1,q2,q3⟩:=hN rfl;exact ⟨g',q1,q2,by rw [q3]⟩)
   · refine ⟨c125 t hn hq hl,?_⟩
     rw [sTyS,if_neg (by rw [h];decide),ls_end h2 hd hg ha]
 exact c_of Tryz.f53 ({ fzB (mkB (sp53 t) 53 [(9,2,rdJ),(10,16,rdJ)] (fun j=>if j.beq 0 then some (la53 t) else none)) with cut:=cut53 t,gs:=gs53,split:=fun j=>if j.beq 10 then 1 else 0 }) (by kernel_rfl) (by kernel_rfl) (by kernel_rfl) (by kernel_rfl) key (by kernel_rfl)
def cTyR (t:Ty):Int:=sFirst [sWhen (!sName t.name) 8,sShares t.sh,sFirst (t.dir.map fun x=>sWithin x 0 2000),sWithin t.side 0 1000,sSquares t.sq,sWhen ((t.st.length:Int) == 0) 12,sWhen (decide ((t.st.length:Int) > 6)) 5]
def sTyR (t:Ty):Int:=sLS (cTyR t) (fSetR t) t.st.length 0
def sp32 (t:Ty):Nat->List AV->Option AV
 | 107,_=>some (.i (sShares t.sh))
 | 109,_=>some (.i (sSquares t.sq))
 | 110,[_,.int _ n]=>some (.i (fSetR t n.toNat))
 | 108,_=>some (.i (sFirst (t.dir.map fun x=>sWithin x 0 2000)))
 | n,x=>spR n x
def la32 (t:Ty):LA:={
 pre:=[.keep [1,6] [],.bound 1],post:=[.keep [1,6] [],.bound 1]
 Gh:=Nat
 st:=fun i=>⟨[(1,.elt 13 [encTy t] 0 0),(6,.i i)],[],1⟩
 ok:=fun i=>i<=t.st.length∧∀ k,k < i->fSetR t k=0
 ms:=fun i=>t.st.length-i }
def cut32 (t:Ty):Nat->Option (AS->AS):=fun j=>if j.beq 6 then some (cutA [1,5] [] 1 5 fun _=>.i (cTyR t)) else none
def gs32:Nat->List GS:=fun j=>if j.beq 6 then [.keep [1,5] [],.bound 1] else []
def cl32:Operand->Bool
 | .tmp t=>t.beq 10
 | _=>false
abbrev zc32a (t:Ty):=sFirst [sWithin t.d0 (0:Int) (2000:Int),sWithin t.d1 (0:Int) (2000:Int),sWithin t.d2 (0:Int) (2000:Int),sWithin t.d3 (0:Int) (2000:Int),sWithin t.d4 (0:Int) (2000:Int),sWithin t.d5 (0:Int) (2000:Int),sWithin t.d6 (0:Int) (2000:Int),sWithin t.d7 (0:Int) (2000:Int)]
abbrev zc32b (t:Ty):=[[AV.str t.name,AV.sl (1:Nat) (List.map encI t.sh),AV.i t.d0,AV.i t.d1,AV.i t.d2,AV.i t.d3,AV.i t.d4,AV.i t.d5,AV.i t.d6,AV.i t.d7,AV.i t.side,AV.sl (1:Nat) (List.map encI t.sq),AV.sl (2:Nat) (List.map encSg t.st)]]
abbrev zc32d (t:Ty):=(↑(List.map encSg t.st).length:Int)
abbrev zc32c (t:Ty):=sFirst [hdI [AV.i (sWhen (!sName t.name) (8:Int))],hdI [AV.i (sShares t.sh)],hdI [AV.i (zc32a t)],hdI [AV.i (sWithin t.side (0:Int) (1000:Int))],hdI [AV.i (sSquares t.sq)],hdI [AV.i (sWhen ((zc32d t) == 0) (12:Int))],hdI [AV.i (sWhen (decide ((zc32d t) > 6)) (5:Int))]]
theorem c32 (t:Ty) (hn:t.st.length<=1000) (hs:t.sh.length<=1000) (hq:t.sq.length<=1000) (hl:∀ s,s ∈ t.st->s.e.length<=1000) (hN:t.name.length<=1000000):PCall Tryz.prog G0 32 [.agg (encTy t)] (.i (sTyR t)):=by
 have key :
  (0:Int)<=0∧(0:Int) < (8:Int)∧1<=9223372036854775807∧8<=140737488355328∧In64 ((0:Int)+1)∧(0:Int)<=0+1∧(0:Int)+1 < (8:Int)∧2<=9223372036854775807∧16<=140737488355328∧In64 ((0:Int)+1 +
  1)∧(0:Int)<=0+1+1∧(0:Int)+1+1 < (8:Int)∧3<=9223372036854775807∧24<=140737488355328∧In64 ((0:Int)+1+1+1)∧(0:Int)<=0+1+1+1∧(0:Int)+1+1+1 < (8:Int)∧4<=9223372036854775807
  ∧ 32<=140737488355328∧In64 ((0:Int)+1+1+1+1)∧(0:Int)<=0+1+1+1+1∧(0:Int)+1+1+1+1 < (8:Int)∧5<=9223372036854775807∧40<=140737488355328∧In64 ((0:Int)+1+1+1+1+1)∧(0:Int)
  ≤ 0+1+1+1+1+1∧(0:Int)+1+1+1+1+1 < (8:Int)∧6<=9223372036854775807∧48<=140737488355328∧In64 ((0:Int)+1+1+1+1+1+1)∧(0:Int)<=0+1+1+1+1+1+1∧(0:Int)+1+1+1+1 +
  1+1 < (8:Int)∧7<=9223372036854775807∧56<=140737488355328∧In64 ((0:Int)+1+1+1+1+1+1+1)∧(0:Int)<=0+1+1+1+1+1+1+1∧(0:Int)+1+1+1+1+1+1+1 < (8:Int)∧8 ≤
  9223372036854775807∧64<=140737488355328∧In64 ((0:Int)+1+1+1+1+1+1+1+1)∧(PCall Tryz.prog G0 106 [AV.str t.name] (AV.i (sWhen (!sName t.name) (8:Int)))∧PCall Tryz.prog G0 107 [AV.sl 1 (List.map encI
  t.sh)] (AV.i (sShares t.sh))∧PCall Tryz.prog G0 108 [AV.sl 1 [[AV.i t.d0],[AV.i t.d1],[AV.i t.d2],[AV.i t.d3],[AV.i t.d4],[AV.i t.d5],[AV.i t.d6],[AV.i t.d7]],AV.i 0,AV.i 2000] (AV.i (zc32a t))∧PCall Tryz.prog G0 95
  [AV.i t.side,AV.i 0,AV.i 1000] (AV.i (sWithin t.side (0:Int) (1000:Int)))∧PCall Tryz.prog G0 109 [AV.sl 1 (List.map encI t.sq)] (AV.i (sSquares t.sq))∧PCall Tryz.prog G0 94 [AV.bool ((zc32d t) == 0),AV.i 12] (AV.i (sWhen
  ((zc32d t) == 0) (12:Int)))∧PCall Tryz.prog G0 94 [AV.bool (decide ((zc32d t) > 6)),AV.i 5] (AV.i (sWhen (decide ((zc32d t) > 6)) (5:Int)))∧PCall Tryz.prog G0 93 [AV.sl 1 [[AV.i (sWhen (!sName t.name) (8:Int))],[AV.i
  (sShares t.sh)],[AV.i (zc32a t)],[AV.i (sWithin t.side (0:Int) (1000:Int))],[AV.i (sSquares t.sq)],[AV.i (sWhen ((zc32d t) == 0) (12:Int))],[AV.i (sWhen (decide ((zc32d t) > 6)) (5:Int))]]] (AV.i (zc32c t))∧AS.mk
  [(1,AV.elt 13 (zc32b t) 0 (0:Nat)),(5,AV.i (zc32c t))] [] 1=AS.mk [(1,AV.elt 13 (zc32b t) 0 (0:Nat)),(5,AV.i (cTyR t))] [] 1)∧((cTyR t != 0)=true->AV.i (cTyR t)=AV.i (sTyR t))∧((cTyR t != 0)=false->(∃ (g :
  Nat),(g<=t.st.length∧∀ (k:Nat),k < g->fSetR t k=(0:Int))∧AS.mk [(1,AV.elt 13 [(encTy t)] 0 0),(6,AV.i 0)] [] 1=AS.mk [(1,AV.elt 13 [(encTy t)] 0 0),(6,AV.i (g:Int))] [] 1)∧∀ (g:Nat),(g<=t.st.length ∧
  ∀ (k:Nat),k < g->fSetR t k=(0:Int))->(decide ((g:Int) < (zc32d t))=true->PCall Tryz.prog G0 110 [AV.agg (encTy t),AV.i (g:Int)] (AV.i (fSetR t (g:Int).toNat))∧((fSetR t (g:Int).toNat != 0)=true->AV.i
  (fSetR t (g:Int).toNat)=AV.i (sTyR t))∧((fSetR t (g:Int).toNat != 0)=false->In64 ((g:Int)+1)∧∃ (g':Nat),(g'<=t.st.length∧∀ (k:Nat),k < g'->fSetR t k=(0:Int))∧t.st.length-g' < t.st.length-g ∧
  AS.mk [((1:Nat),AV.elt (13:Nat) (zc32b t) (0:Nat) (0:Nat)),((6:Nat),AV.i ((g:Int)+1))] [] (1:Nat)=AS.mk [((1:Nat),AV.elt (13:Nat) (zc32b t) (0:Nat) (0:Nat)),((6:Nat),AV.i (↑g':Int))] [] (1 :
  Nat)))∧(decide ((g:Int) < (zc32d t))=false->AV.i 0=AV.i (sTyR t))):=by
   delta zc32a zc32b zc32c zc32d
   have hlm:(List.map encSg t.st).length=t.st.length:=List.length_map _
   have e1:sFirst [sWhen (!sName t.name) 8,sShares t.sh,sFirst [sWithin t.d0 0 2000,sWithin t.d1 0 2000,sWithin t.d2 0 2000,sWithin t.d3 0 2000,sWithin t.d4 0 2000,sWithin t.d5 0 2000,sWithin t.d6 0 2000,sWithin t.d7 0 2000],sWithin t.side 0 1000,sSquares t.sq,sWhen (((List.map encSg t.st).length:Int) == 0) 12,sWhen (decide (((List.map encSg t.st).length:Int) > 6)) 5]=cTyR t:=by
    unfold cTyR
    rw [<- hlm]
    rfl
   refine ⟨by omega,by omega,by omega,by omega,by unfold In64;omega,by omega,by omega,by omega,by omega,by unfold In64;omega,by omega,by omega,by omega,by omega,by unfold In64;omega,by omega,by omega,by omega,by omega,by unfold In64;omega,by omega,by omega,by omega,by omega,by unfold In64;omega,by omega,by omega,by omega,by omega,by unfold In64;omega,by omega,by omega,by omega,by omega,by unfold In64;omega,by omega,by omega,by omega,by omega,by unfold In64;omega,⟨c106 _ hN,c107 _ hs,c108 t.dir 0 2000 (show (8:Nat)<=1000000 by decide),c95 _ _ _,c109 _ hq,c94 _ _,c94 _ _,c93 [_,_,_,_,_,_,_] (by simp),mk5 e1⟩,fun h=>congrArg AV.i (ls_first h).symm,fun h=>⟨⟨0,⟨by omega,by intros;omega⟩,rfl⟩,fun g ⟨hg,ha⟩=>⟨fun hd=>?_,fun hd=>?_⟩⟩⟩
   · rw [hlm] at hd
     have hlt:=lt_of_dec hd
     refine ⟨c110 t g hlt hn (hl _ (sg_mem hlt)) (fun h0 h1=>?_),fun hx=>?_,fun hx=>⟨by unfold In64;omega,g+1,⟨hlt,all_succ ha hx⟩,by omega,rfl⟩⟩
     · have hc:=(ls_zero (ha (g-1) (by omega))).1
       unfold cSetR at hc
       have:=first4_3 hc
       omega
     · have hx:(fSetR t g != 0)=true:=hx
       rw [sTyR,ls_hit h hd ha hx]
       rfl
   · rw [hlm] at hd
     rw [sTyR,ls_end h hd hg ha]
 exact c_of Tryz.f32 ({ fzB (mkB (sp32 t) 32 [] (fun j=>if j.beq 2 then some (la32 t) else none)) with cut:=cut32 t,gs:=gs32,cl:=cl32,bx:=fun i=>if i.beq 0 then [.frzo 3] else [] }) (by kernel_rfl) (by kernel_rfl) (by kernel_rfl) (by kernel_rfl) key (by kernel_rfl)
end Go.Proofs.YtjhjmncjidbieaaGreatDoor
namespace Go.Proofs.YtjhjmncjidbieaaGreatDoor
open Go Go.Av Go.RowKit
def geN (t:Ty) (p:Int):Nat->Nat
 | 0=>0
 | n+1=>if geN t p n < n then geN t p n else if p<=(t.sg n).p then n else n+1
end Go.Proofs.YtjhjmncjidbieaaGreatDoor
namespace Go.Proofs.YtjhjmncjidbieaaGreatDoor
open Go Go.Av Go.RowKit
def bandN (l:List Int) (d:Int):Nat->Nat
 | 0=>0
 | n+1=>if decide (l.getD n default<=d) then n else bandN l d n
def emi (t:Ty) (p d:Int):Int :=
 if geN t p t.st.length=t.st.length then eAt (t.sg (t.st.length-1)).e (bandN t.sq d t.sq.length)
 else if geN t p t.st.length=0 ∨ (t.sg (geN t p t.st.length)).p=p then eAt (t.sg (geN t p t.st.length)).e (bandN t.sq d t.sq.length)
 else sBetween (eAt (t.sg (geN t p t.st.length-1)).e (bandN t.sq d t.sq.length)) (eAt (t.sg (geN t p t.st.length)).e (bandN t.sq d t.sq.length)) (p-(t.sg (geN t p t.st.length-1)).p) ((t.sg (geN t p t.st.length)).p-(t.sg (geN t p t.st.length-1)).p)
structure OKTy (t:Ty):Prop where
 n1:1<=t.st.length
 n2:t.st.length<=1000
 q1:1<=t.sq.length
 q2:t.sq.length<=1000
 el:∀ i,i < t.st.length->(t.sg i).e.length=t.sq.length
 pb:∀ i,i < t.st.length->1<=(t.sg i).p∧(t.sg i).p<=100
 up:∀ i,i+1 < t.st.length->(t.sg i).p < (t.sg (i+1)).p
 eb:∀ i k,i < t.st.length->k < t.sq.length->0<=eAt (t.sg i).e k∧eAt (t.sg i).e k<=100000000
end Go.Proofs.YtjhjmncjidbieaaGreatDoor
