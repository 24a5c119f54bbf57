/-
  What is wrong with homes and their measures; offers: both sides. The rules of offers, each a function that holds what was seen. Offers checked by the program. Offers: both ways to check them find the same. Plain laws. No condition but the theorems' own.
-/
import Derived.Test.YtfoeefaamjknpaaGreatDoorPE
import Derived.Test.YtfoeefaamjknpaaGreatDoorAvD
import Derived.Test.YtfoeefaamjknpaaGreatDoorPC
import Derived.Test.YtfoeefaamjknpaaGreatDoorPD
namespace Go.Proofs.YtfoeefaamjknpaaGreatDoor
open Go Go.Av Go.RowKit
def decHm:List AV->Hm
 | [.str s,.int _ p,.sl _ rows]=>⟨s,p,rows.map decWn⟩
 | _=>default
theorem decHm_e (h:Hm):decHm (encHm h)=h:=by
 show Hm.mk h.nm h.pe ((h.ws.map encWn).map decWn)=h
 rw [map_dec decWn_e]
def fhI (rows:List (List AV)) (s:List UInt8):Int:=fiI (fun j=>snA (nthR rows j) == s) rows.length
theorem fh_e (hs:List Hm) (s:List UInt8):fhI (hs.map encHm) s=fiI (pFH hs s) hs.length:=by
 unfold fhI fiI
 rw [List.length_map,fi_congr (q:=pFH hs s) (fun j hj=>by rw [row_at encHm hj];rfl)]
theorem dup_e (hs:List Hm) (s:List UInt8):decide (fiI (pFH hs s) hs.length>=0)=hasK (knS (hs.map Hm.nm)) (.str s):=by
 rw [fiI_dec,<- fi_any,List.length_map,fi_congr (p:=pFH hs s) (q:=pS (hs.map Hm.nm) s) (fun j hj=>by
  unfold pFH pS
  simp [List.getD_eq_getElem?_getD,hj])]
def fH1 (hs:List Hm) (i:Nat):Int:=sFirst [fHm (hs.getD i default),sWhen (hasK (knS ((hs.take i).map Hm.nm)) (.str (hs.getD i default).nm)) 9]
def fM2 (hs:List Hm) (ms:List (List Ms)) (i:Nat):Int:=fMs (hs.getD i default) (ms.getD i [])
def finH (hs:List Hm) (ms:List (List Ms)):Int:=if ((ms.length:Int) != (hs.length:Int))=true then 2 else sLS 0 (fM2 hs ms) hs.length 0
def chH (hs:List Hm) (ms:List (List Ms)):Int:=sLS (sWhen (decide ((hs.length:Int) > 16)) 5) (fH1 hs) hs.length (finH hs ms)
def chV (l:List Zn) (hs:List Hm) (ms:List (List Ms)):Int:=sLS (sFirst [fZs l,sWhen (decide ((hs.length:Int) > 16)) 5]) (fH1 hs) hs.length (finH hs ms)
theorem fH1_h {hs:List Hm} {i:Nat} (h:fH1 hs i=0):hasK (knS ((hs.take i).map Hm.nm)) (.str (hs.getD i default).nm)=false:=by
 unfold fH1 at h
 rw [first_zero,first_zero] at h
 exact when_z (by decide) h.2.1
theorem fH1_z {hs:List Hm} {i:Nat} (h:fH1 hs i=0):fHm (hs.getD i default)=0:=by
 unfold fH1 at h
 rw [first_zero] at h
 exact h.1
theorem tk_e (hs:List Hm) (g:Nat):List.take ((g:Int)-(0:Int)).toNat (List.drop 0 (List.map encHm hs))=(hs.take g).map encHm:=by
 rw [List.drop_zero,show ((g:Int)-(0:Int)).toNat=g by omega,List.map_take]
theorem ch_e (l:List Zn) (hs:List Hm) (ms:List (List Ms)):sFirst [fZs l,chH hs ms]=chV l hs ms:=by
 unfold chV chH
 by_cases h:fZs l=0
 · have f0:∀ x:Int,sFirst [0,x]=x:=fun x=>by by_cases q:x=0 <;> simp [sFirst,q]
   rw [h,f0,f0]
 · have f1:∀ x:Int,sFirst [fZs l,x]=fZs l:=fun x=>by simp [sFirst,h]
   rw [f1,f1]
   exact (ls_first (by simpa using h)).symm
def sp63 (l:List Zn):Nat->List AV->Option AV
 | 26,[.agg c]=>some (.i (fHm (decHm c)))
 | 38,[.agg c]=>some (.i (fHm (decHm c)))
 | 55,_=>some (.i (fZs l))
 | 141,[.sl _ rows,.str s]=>some (.i (fhI rows s))
 | 27,[.agg c,.sl _ rows]=>some (.i (fMs (decHm c) (rows.map decMs)))
 | 39,[.agg c,.sl _ rows]=>some (.i (fMs (decHm c) (rows.map decMs)))
 | n,x=>spW n x
def la63 (hs:List Hm) (ms:List (List Ms)) (b:Nat):Option LA:=if b.beq 0 then some {
 pre:=[.keep [0,1,5] [],.bound 1],post:=[.keep [0,1,5] [],.bound 1]
 Gh:=Nat
 st:=fun i=>⟨[(0,.sl 3 (hs.map encHm)),(1,.sl 1 (ms.map encLs)),(5,.i i)],[],1⟩
 ok:=fun i=>i<=hs.length∧∀ j,j < i->fH1 hs j=0
 ms:=fun i=>hs.length-i }
 else if b.beq 2 then some {
  pre:=[.keep [0,1,7] [],.bound 1],post:=[.keep [0,1,7] [],.bound 1]
  Gh:=Nat
  st:=fun i=>⟨[(0,.sl 3 (hs.map encHm)),(1,.sl 1 (ms.map encLs)),(7,.i i)],[],1⟩
  ok:=fun i=>i<=hs.length∧∀ j,j < i->fM2 hs ms j=0
  ms:=fun i=>hs.length-i }
 else none
abbrev zc63a (g:Nat) (hs:List Hm):=decide (fhI (List.take ((g:Int)-0).toNat (List.drop 0 (List.map encHm hs))) (hs.getD g default).nm>=0)
abbrev zc63b (hs:List Hm):=(↑(List.map encHm hs).length:Int)
abbrev zc63c (hs:List Hm) (g:Nat):=[hdI [AV.i (fHm (decHm (encHm (hs.getD g default))))],hdI [AV.i (sWhen (zc63a g hs) (9:Int))]]
theorem c63 (hs:List Hm) (ms:List (List Ms)) (hh:hs.length<=1000) (hb:∀ h,h ∈ hs->h.nm.length<=1000000∧h.ws.length<=1000) (hm0:ms.length<=1000) (hm:∀ x,x ∈ ms->x.length<=1000∧∀ m,m ∈ x->m.nm.length<=1000):PCall Tryz.prog G0 63 [.sl 3 (hs.map encHm),.sl 1 (ms.map encLs)] (.i (chH hs ms)):=by
 have key :
  (decide ((zc63b hs) > 16)=true->AV.i 5=AV.i (chH hs ms))∧(decide ((zc63b hs) > 16)=false->(∃ (g:Nat),(g<=hs.length∧∀ (j:Nat),j < g->fH1 hs j=(0:Int))∧AS.mk [(0,AV.sl 3 (List.map encHm hs)),(1,AV.sl 1
  (List.map encLs ms)),(5,AV.i 0)] [] 1=AS.mk [(0,AV.sl 3 (List.map encHm hs)),(1,AV.sl 1 (List.map encLs ms)),(5,AV.i (g:Int))] [] 1)∧∀ (g:Nat),(g<=hs.length∧∀ (j:Nat),j < g->fH1 hs j=(0:Int))->(decide
  ((g:Int) < (zc63b hs))=true->(0:Int)<=(g:Int)∧(g:Int) < (zc63b hs)∧(0:Int)<=0∧(0:Int)<=(g:Int)∧(g:Int)<=(zc63b hs)∧(0:Int)<=(g:Int)∧(g:Int) < (zc63b hs)∧AV.agg (nthR (List.map
  encHm hs) g)=AV.agg (encHm (hs.getD g default))∧PCall Tryz.prog G0 26 [AV.agg (encHm (hs.getD g default))] (AV.i (fHm (decHm (encHm (hs.getD g default)))))∧nth (nthR (List.map encHm hs) g) 0=AV.str (hs.getD g default).nm ∧
  PCall Tryz.prog G0 141 [AV.sl 3 (List.take ((g:Int)-0).toNat (List.drop 0 (List.map encHm hs))),AV.str (hs.getD g default).nm] (AV.i (fhI (List.take ((g:Int)-0).toNat (List.drop 0 (List.map encHm hs))) (hs.getD g
  default).nm))∧PCall Tryz.prog G0 109 [AV.bool (zc63a g hs),AV.i 9] (AV.i (sWhen (zc63a g hs) (9:Int)))∧PCall Tryz.prog G0 107 [AV.sl 1 [[AV.i (fHm (decHm (encHm (hs.getD g default))))],[AV.i (sWhen (zc63a g hs) (9 :
  Int))]]] (AV.i (sFirst (zc63c hs g)))∧((sFirst (zc63c hs g) != 0)=true->AV.i (sFirst (zc63c hs g))=AV.i (chH hs ms))∧((sFirst (zc63c hs g) != 0)=false->In64 ((g:Int)+1)∧∃ (g':Nat),(g'<=hs.length∧∀ (j :
  Nat),j < g'->fH1 hs j=(0:Int))∧hs.length-g' < hs.length-g∧AS.mk [(0,AV.sl 3 (List.map encHm hs)),(1,AV.sl 1 (List.map encLs ms)),(5,AV.i ((g:Int)+1))] [] 1=AS.mk [(0,AV.sl 3 (List.map encHm hs)),(1,
  AV.sl 1 (List.map encLs ms)),(5,AV.i (↑g':Int))] [] 1))∧(decide ((g:Int) < (zc63b hs))=false->(((↑(List.map encLs ms).length:Int) != (zc63b hs))=true->AV.i 2=AV.i (chH hs ms))∧(((↑(List.map encLs ms).length :
  Int) != (zc63b hs))=false->(∃ (g:Nat),(g<=hs.length∧∀ (j:Nat),j < g->fM2 hs ms j=(0:Int))∧AS.mk [(0,AV.sl 3 (List.map encHm hs)),(1,AV.sl 1 (List.map encLs ms)),(7,AV.i 0)] [] 1=AS.mk [(0,AV.sl 3
  (List.map encHm hs)),(1,AV.sl 1 (List.map encLs ms)),(7,AV.i (g:Int))] [] 1)∧∀ (g:Nat),(g<=hs.length∧∀ (j:Nat),j < g->fM2 hs ms j=(0:Int))->(decide ((g:Int) < (zc63b hs))=true->(0:Int)<=(g:Int) ∧
  (g:Int) < (zc63b hs)∧(0:Int)<=(g:Int)∧(g:Int) < (↑(List.map encLs ms).length:Int)∧AV.agg (nthR (List.map encHm hs) g)=AV.agg (encHm (hs.getD g default))∧nth (nthR (List.map encLs ms) g) 0=AV.sl 19
  (List.map encMs (ms.getD g []))∧PCall Tryz.prog G0 27 [AV.agg (encHm (hs.getD g default)),AV.sl 19 (List.map encMs (ms.getD g []))] (AV.i (fMs (decHm (encHm (hs.getD g default))) (List.map decMs (List.map encMs (ms.getD g
  [])))))∧((fMs (decHm (encHm (hs.getD g default))) (List.map decMs (List.map encMs (ms.getD g []))) != 0)=true->AV.i (fMs (decHm (encHm (hs.getD g default))) (List.map decMs (List.map encMs (ms.getD g []))))=AV.i (chH hs ms))
  ∧ ((fMs (decHm (encHm (hs.getD g default))) (List.map decMs (List.map encMs (ms.getD g []))) != 0)=false->In64 ((g:Int)+1)∧∃ (g':Nat),(g'<=hs.length∧∀ (j:Nat),j < g'->fM2 hs ms j=(0:Int))∧hs.length-g' <
  hs.length-g∧AS.mk [(0,AV.sl 3 (List.map encHm hs)),(1,AV.sl 1 (List.map encLs ms)),(7,AV.i ((g:Int)+1))] [] 1=AS.mk [(0,AV.sl 3 (List.map encHm hs)),(1,AV.sl 1 (List.map encLs ms)),(7,AV.i (↑g':Int))] [] 1))
  ∧ (decide ((g:Int) < (zc63b hs))=false->AV.i 0=AV.i (chH hs ms))))):=by
   delta zc63a zc63b zc63c
   have:(List.map encHm hs).length=hs.length:=by simp only [List.length_map]
   have:(List.map encLs ms).length=ms.length:=by simp only [List.length_map]
   refine ⟨fun h1=>?_,fun h1=>?_⟩
   · have q:=h1
     rw [List.length_map] at q
     have q2:sWhen (decide ((hs.length:Int) > 16)) 5=5:=by rw [q];rfl
     have e:chH hs ms=sWhen (decide ((hs.length:Int) > 16)) 5:=ls_first (by rw [q2];decide)
     rw [e,q2]
   · have hz:(sWhen (decide ((hs.length:Int) > 16)) 5 != 0)=false:=by have q:=h1;rw [List.length_map] at q;rw [q];rfl
     refine ⟨⟨0,⟨by omega,by intros;omega⟩,rfl⟩,fun g ⟨hg,ha⟩=>⟨fun hd=>?_,fun hd=>?_⟩⟩
     · have hlt:g < hs.length:=by have h9:=of_decide_eq_true hd;have h8:=hg;(try simp only [List.length_map] at h8);(try simp only [List.length_map] at h9);omega
       have hfe:fH1 hs g=sFirst [hdI [AV.i (fHm (decHm (encHm (hs.getD g default))))],hdI [AV.i (sWhen (decide (fhI (List.take ((g:Int)-(0:Int)).toNat (List.drop 0 (List.map encHm hs))) (hs.getD g default).nm>=0)) 9)]]:=by rw [tk_e,fh_e,dup_e,decHm_e];rfl
       refine ⟨(by omega),(by omega),(by omega),(by omega),(by omega),(by omega),(by omega),congrArg AV.agg (row_at encHm hlt),((by rw [decHm_e];exact c26 _ (hb _ (getD_mem hlt)).1 (hb _ (getD_mem hlt)).2)),congrArg (fun r=>nth r 0) (row_at encHm hlt),((by rw [tk_e,fh_e];exact c141 _ _ (by rw [List.length_take];omega))),(c109 _ _),(c107 [_,_] (by simp)),fun h2=>?_,fun h2=>⟨(by unfold In64;omega),⟨g+1,⟨by omega,all_ext ha (hfe.trans (bne_f h2))⟩,by omega,rfl⟩⟩⟩
       · have h3:(fH1 hs g != 0)=true:=by rw [hfe];exact h2
         rw [<- hfe]
         exact congrArg AV.i (ls_hit (f:=fH1 hs) hz (decide_eq_true (show (g:Int) < hs.length by omega)) ha h3).symm
     · have hge:g=hs.length:=by have h9:=of_decide_eq_false hd;have h8:=hg;(try simp only [List.length_map] at h8);(try simp only [List.length_map] at h9);omega
       subst hge
       refine ⟨fun h2=>?_,fun h2=>?_⟩
       · have e:chH hs ms=finH hs ms:=ls_end (f:=fH1 hs) hz (decide_eq_false (Int.lt_irrefl _)) (Nat.le_refl _) ha
         have e2:finH hs ms=2:=if_pos (by simpa only [List.length_map] using h2)
         rw [e,e2]
       · have e1:chH hs ms=sLS 0 (fM2 hs ms) hs.length 0:=(ls_end (f:=fH1 hs) hz (decide_eq_false (Int.lt_irrefl _)) (Nat.le_refl _) ha).trans (if_neg (by have q:=h2;simp only [List.length_map] at q;rw [q];decide))
         have hml:ms.length=hs.length:=by have q:=bne_eq_false_iff_eq.1 h2;simp only [List.length_map] at q;omega
         refine ⟨⟨0,⟨by omega,by intros;omega⟩,rfl⟩,fun g ⟨hg2,ha2⟩=>⟨fun hd2=>?_,fun hd2=>?_⟩⟩
         · have hlt2:g < hs.length:=by have h9:=of_decide_eq_true hd2;have h8:=hg2;(try simp only [List.length_map] at h8);(try simp only [List.length_map] at h9);omega
           refine ⟨(by omega),(by omega),(by omega),(by omega),congrArg AV.agg (row_at encHm hlt2),(congrArg (fun r=>nth r 0) (row_at encLs (by omega))),((by rw [decHm_e,map_dec decMs_e];exact c27 _ _ (hb _ (getD_mem hlt2)).1 (hb _ (getD_mem hlt2)).2 (hm _ (getD_mem (l:=ms) (by omega))).1 (hm _ (getD_mem (l:=ms) (by omega))).2)),fun h3=>?_,fun h3=>⟨(by unfold In64;omega),⟨g+1,⟨by omega,all_ext ha2 (by rw [decHm_e,map_dec decMs_e] at h3;exact bne_f h3)⟩,by omega,rfl⟩⟩⟩
           · rw [decHm_e,map_dec decMs_e] at h3 ⊢
             rw [e1]
             exact congrArg AV.i (ls_hit (c:=0) (f:=fM2 hs ms) rfl (decide_eq_true (by omega)) ha2 h3).symm
         · have hge2:g=hs.length:=by have h9:=of_decide_eq_false hd2;have h8:=hg2;(try simp only [List.length_map] at h8);(try simp only [List.length_map] at h9);omega
           subst hge2
           rw [e1]
           exact congrArg AV.i (ls_end (c:=0) (f:=fM2 hs ms) rfl (decide_eq_false (Int.lt_irrefl _)) (Nat.le_refl _) ha2).symm
 exact c_of Tryz.f63 (fzB (mkB (sp63 []) 63 [(6,3,rdL 3 encHm hs 3 true),(6,12,rdL 3 encHm hs 1 false),(14,3,rdL 3 encHm hs 3 true),(14,7,rdL 1 encLs ms 1 false)] (la63 hs ms))) (by kernel_rfl) (by kernel_rfl) (by kernel_rfl) (by kernel_rfl) key (by kernel_rfl)
def la128 (hs:List Hm) (ms:List (List Ms)) (b:Nat):Option LA:=if b.beq 0 then some {
 pre:=[.ren 13 1,.keep [1,2,8,27,28,29] [1],.bound 2],post:=[.keep [1,2,8,27,28,29] [1],.bound 2]
 Gh:=Nat
 st:=fun i=>⟨[(1,.sl 3 (hs.map encHm)),(2,.sl 1 (ms.map encLs)),(8,.ref 1),(27,.sl 3 (hs.map encHm)),(28,.i (hs.map encHm).length),(29,.i i)],[(1,.map (knS ((hs.take i).map Hm.nm)))],2⟩
 ok:=fun i=>i<=hs.length∧∀ j,j < i->fH1 hs j=0
 ms:=fun i=>hs.length-i }
 else if b.beq 2 then some {
  pre:=[.keep [1,2,54,55,56] [],.bound 1],post:=[.keep [1,2,54,55,56] [],.bound 1]
  Gh:=Nat
  st:=fun i=>⟨[(1,.sl 3 (hs.map encHm)),(2,.sl 1 (ms.map encLs)),(54,.sl 3 (hs.map encHm)),(55,.i (hs.map encHm).length),(56,.i i)],[],1⟩
  ok:=fun i=>i<=hs.length∧∀ j,j < i->fM2 hs ms j=0
  ms:=fun i=>hs.length-i }
 else none
abbrev zc128a (hs:List Hm):=(↑(List.map encHm hs).length:Int)
abbrev zc128b (g:Nat) (hs:List Hm):=hasK (knS (List.map Hm.nm (List.take g hs))) (AV.str (hs.getD g default).nm)
abbrev zc128c (hs:List Hm) (g:Nat):=[hdI [AV.i (fHm (decHm (encHm (hs.getD g default))))],hdI [AV.i (sWhen (zc128b g hs) (9:Int))]]
abbrev zc128d (l:List Zn) (hs:List Hm):=[hdI [AV.i (fZs l)],hdI [AV.i (sWhen (decide ((zc128a hs) > 16)) (5:Int))]]
theorem c128 (l:List Zn) (hs:List Hm) (ms:List (List Ms)) (hl:l.length<=1000) (hn:∀ x,x ∈ l->x.nm.length<=1000) (hh:hs.length<=1000) (hb:∀ h,h ∈ hs->h.nm.length<=1000000∧h.ws.length<=1000) (hm0:ms.length<=1000) (hm:∀ x,x ∈ ms->x.length<=1000∧∀ m,m ∈ x->m.nm.length<=1000):PCall Tryz.prog G0 128 [.sl 4 (l.map encZn),.sl 3 (hs.map encHm),.sl 1 (ms.map encLs)] (.i (chV l hs ms)):=by
 have key :
  PCall Tryz.prog G0 55 [AV.sl 4 (List.map encZn l)] (AV.i (fZs l))∧PCall Tryz.prog G0 116 [AV.bool (decide ((zc128a hs) > 16)),AV.i 5] (AV.i (sWhen (decide ((zc128a hs) > 16)) (5:Int)))∧PCall Tryz.prog G0 104 [AV.sl 1 [[AV.i
  (fZs l)],[AV.i (sWhen (decide ((zc128a hs) > 16)) (5:Int))]]] (AV.i (sFirst (zc128d l hs)))∧((sFirst (zc128d l hs) != 0)=true->AV.i (sFirst (zc128d l hs))=AV.i (chV l hs ms))∧((sFirst (zc128d l hs) != 0)=false->(∃ (g
  : Nat),(g<=hs.length∧∀ (j:Nat),j < g->fH1 hs j=(0:Int))∧AS.mk [(1,AV.sl 3 (List.map encHm hs)),(2,AV.sl 1 (List.map encLs ms)),(8,AV.ref 1),(27,AV.sl 3 (List.map encHm hs)),(28,AV.i (zc128a hs)),(29,AV.i
  0)] [(1,ABlk.map [])] 2=AS.mk [(1,AV.sl 3 (List.map encHm hs)),(2,AV.sl 1 (List.map encLs ms)),(8,AV.ref 1),(27,AV.sl 3 (List.map encHm hs)),(28,AV.i (zc128a hs)),(29,AV.i (g:Int))] [(1,ABlk.map (knS (List.map
  Hm.nm (List.take g hs))))] 2)∧∀ (g:Nat),(g<=hs.length∧∀ (j:Nat),j < g->fH1 hs j=(0:Int))->(decide ((g:Int) < (zc128a hs))=true->(0:Int)<=(g:Int)∧(g:Int) < (zc128a hs)∧AV.agg (nthR (List.map encHm
  hs) g)=AV.agg (encHm (hs.getD g default))∧(mlook (AV.str (hs.getD g default).nm) (knS (List.map Hm.nm (List.take g hs)))).isSome=true∧PCall Tryz.prog G0 38 [AV.agg (encHm (hs.getD g default))] (AV.i (fHm (decHm (encHm
  (hs.getD g default)))))∧lookV false (AV.bool false) (mlook (AV.str (hs.getD g default).nm) (knS (List.map Hm.nm (List.take g hs))))=AV.bool (zc128b g hs)∧PCall Tryz.prog G0 116 [AV.bool (zc128b g hs),AV.i 9] (AV.i (sWhen
  (zc128b g hs) (9:Int)))∧PCall Tryz.prog G0 104 [AV.sl 1 [[AV.i (fHm (decHm (encHm (hs.getD g default))))],[AV.i (sWhen (zc128b g hs) (9:Int))]]] (AV.i (sFirst (zc128c hs g)))∧((sFirst (zc128c hs g) != 0)=true->AV.i
  (sFirst (zc128c hs g))=AV.i (chV l hs ms))∧((sFirst (zc128c hs g) != 0)=false->(mput (AV.str (hs.getD g default).nm) (AV.bool true) (knS (List.map Hm.nm (List.take g hs)))).isSome=true∧In64 ((g:Int)+1)∧∃ (g' :
  Nat),(g'<=hs.length∧∀ (j:Nat),j < g'->fH1 hs j=(0:Int))∧hs.length-g' < hs.length-g∧AS.mk [(1,AV.sl 3 (List.map encHm hs)),(2,AV.sl 1 (List.map encLs ms)),(8,AV.ref 1),(27,AV.sl 3 (List.map encHm hs)),
  (28,AV.i (zc128a hs)),(29,AV.i ((g:Int)+1))] [(1,ABlk.map ((mput (AV.str (hs.getD g default).nm) (AV.bool true) (knS (List.map Hm.nm (List.take g hs)))).getD []))] 2=AS.mk [(1,AV.sl 3 (List.map encHm hs)),(2,AV.sl 1
  (List.map encLs ms)),(8,AV.ref 1),(27,AV.sl 3 (List.map encHm hs)),(28,AV.i (zc128a hs)),(29,AV.i (↑g':Int))] [(1,ABlk.map (knS (List.map Hm.nm (List.take g' hs))))] 2))∧(decide ((g:Int) < (zc128a hs))=false →
  (((↑(List.map encLs ms).length:Int) != (zc128a hs))=true->AV.i 2=AV.i (chV l hs ms))∧(((↑(List.map encLs ms).length:Int) != (zc128a hs))=false->(∃ (g:Nat),(g<=hs.length∧∀ (j:Nat),j < g->fM2 hs ms j=(0 :
  Int))∧AS.mk [(1,AV.sl 3 (List.map encHm hs)),(2,AV.sl 1 (List.map encLs ms)),(54,AV.sl 3 (List.map encHm hs)),(55,AV.i (zc128a hs)),(56,AV.i 0)] [] 1=AS.mk [(1,AV.sl 3 (List.map encHm hs)),(2,AV.sl 1 (List.map encLs
  ms)),(54,AV.sl 3 (List.map encHm hs)),(55,AV.i (zc128a hs)),(56,AV.i (g:Int))] [] 1)∧∀ (g:Nat),(g<=hs.length∧∀ (j:Nat),j < g->fM2 hs ms j=(0:Int))->(decide ((g:Int) < (zc128a hs))=true->(0:Int) ≤
  (g:Int)∧(g:Int) < (zc128a hs)∧AV.agg (nthR (List.map encHm hs) g)=AV.agg (encHm (hs.getD g default))∧(0:Int)<=(g:Int)∧(g:Int) < (↑(List.map encLs ms).length:Int)∧nth (nthR (List.map encLs ms) g) 0 =
  AV.sl 19 (List.map encMs (ms.getD g []))∧PCall Tryz.prog G0 39 [AV.agg (encHm (hs.getD g default)),AV.sl 19 (List.map encMs (ms.getD g []))] (AV.i (fMs (decHm (encHm (hs.getD g default))) (List.map decMs (List.map encMs (ms.getD
  g [])))))∧((fMs (decHm (encHm (hs.getD g default))) (List.map decMs (List.map encMs (ms.getD g []))) != 0)=true->AV.i (fMs (decHm (encHm (hs.getD g default))) (List.map decMs (List.map encMs (ms.getD g []))))=AV.i (chV l hs
  ms))∧((fMs (decHm (encHm (hs.getD g default))) (List.map decMs (List.map encMs (ms.getD g []))) != 0)=false->In64 ((g:Int)+1)∧∃ (g':Nat),(g'<=hs.length∧∀ (j:Nat),j < g'->fM2 hs ms j=(0:Int))∧hs.length -
  g' < hs.length-g∧AS.mk [(1,AV.sl 3 (List.map encHm hs)),(2,AV.sl 1 (List.map encLs ms)),(54,AV.sl 3 (List.map encHm hs)),(55,AV.i (zc128a hs)),(56,AV.i ((g:Int)+1))] [] 1=AS.mk [(1,AV.sl 3 (List.map encHm hs)),
  (2,AV.sl 1 (List.map encLs ms)),(54,AV.sl 3 (List.map encHm hs)),(55,AV.i (zc128a hs)),(56,AV.i (↑g':Int))] [] 1))∧(decide ((g:Int) < (zc128a hs))=false->AV.i 0=AV.i (chV l hs ms))))):=by
   delta zc128a zc128b zc128c zc128d
   have:(List.map encHm hs).length=hs.length:=by simp only [List.length_map]
   have:(List.map encLs ms).length=ms.length:=by simp only [List.length_map]
   refine ⟨(c55 l hl hn),(c116 _ _),(c104 [_,_] (by simp)),fun h1=>?_,fun h1=>?_⟩
   · have q:=h1
     rw [List.length_map] at q ⊢
     exact congrArg AV.i (ls_first (f:=fH1 hs) (c:=sFirst [fZs l,sWhen (decide ((hs.length:Int) > 16)) 5]) q).symm
   · have hz:(sFirst [fZs l,sWhen (decide ((hs.length:Int) > 16)) 5] != 0)=false:=by have q:=h1;rw [List.length_map] at q;exact q
     refine ⟨⟨0,⟨by omega,by intros;omega⟩,rfl⟩,fun g ⟨hg,ha⟩=>⟨fun hd=>?_,fun hd=>?_⟩⟩
     · have hlt:g < hs.length:=by have h9:=of_decide_eq_true hd;have h8:=hg;(try simp only [List.length_map] at h8);(try simp only [List.length_map] at h9);omega
       have hfe:fH1 hs g=sFirst [hdI [AV.i (fHm (decHm (encHm (hs.getD g default))))],hdI [AV.i (sWhen (hasK (knS (List.map Hm.nm (List.take g hs))) (AV.str (hs.getD g default).nm)) 9)]]:=by rw [decHm_e];rfl
       refine ⟨(by omega),(by omega),congrArg AV.agg (row_at encHm hlt),(look_some (fun s=>s) _ _),((by rw [decHm_e];exact c38 _ (hb _ (getD_mem hlt)).1 (hb _ (getD_mem hlt)).2)),(look_key (fun s=>s) _ _),(c116 _ _),(c104 [_,_] (by simp)),fun h2=>?_,fun h2=>?_⟩
       · have h3:(fH1 hs g != 0)=true:=by rw [hfe];exact h2
         rw [<- hfe]
         exact congrArg AV.i (ls_hit (f:=fH1 hs) hz (decide_eq_true (show (g:Int) < hs.length by omega)) ha h3).symm
       · have hgh:=fH1_h (hfe.trans (bne_f h2))
         refine ⟨?_,(by unfold In64;omega),⟨g+1,⟨by omega,all_ext ha (hfe.trans (bne_f h2))⟩,by omega,?_⟩⟩
         · rw [put_nm hgh]
           rfl
         · rw [put_nm hgh,take_nm Hm.nm hlt]
           rfl
     · have hge:g=hs.length:=by have h9:=of_decide_eq_false hd;have h8:=hg;(try simp only [List.length_map] at h8);(try simp only [List.length_map] at h9);omega
       subst hge
       refine ⟨fun h2=>?_,fun h2=>?_⟩
       · have e:chV l hs ms=finH hs ms:=ls_end (f:=fH1 hs) hz (decide_eq_false (Int.lt_irrefl _)) (Nat.le_refl _) ha
         have e2:finH hs ms=2:=if_pos (by simpa only [List.length_map] using h2)
         rw [e,e2]
       · have e1:chV l hs ms=sLS 0 (fM2 hs ms) hs.length 0:=(ls_end (f:=fH1 hs) hz (decide_eq_false (Int.lt_irrefl _)) (Nat.le_refl _) ha).trans (if_neg (by have q:=h2;simp only [List.length_map] at q;rw [q];decide))
         have hml:ms.length=hs.length:=by have q:=bne_eq_false_iff_eq.1 h2;simp only [List.length_map] at q;omega
         refine ⟨⟨0,⟨by omega,by intros;omega⟩,rfl⟩,fun g ⟨hg2,ha2⟩=>⟨fun hd2=>?_,fun hd2=>?_⟩⟩
         · have hlt2:g < hs.length:=by have h9:=of_decide_eq_true hd2;have h8:=hg2;(try simp only [List.length_map] at h8);(try simp only [List.length_map] at h9);omega
           refine ⟨(by omega),(by omega),congrArg AV.agg (row_at encHm hlt2),(by omega),(by omega),(congrArg (fun r=>nth r 0) (row_at encLs (by omega))),((by rw [decHm_e,map_dec decMs_e];exact c39 _ _ (hb _ (getD_mem hlt2)).1 (hb _ (getD_mem hlt2)).2 (hm _ (getD_mem (l:=ms) (by omega))).1 (hm _ (getD_mem (l:=ms) (by omega))).2)),fun h3=>?_,fun h3=>⟨(by unfold In64;omega),⟨g+1,⟨by omega,all_ext ha2 (by rw [decHm_e,map_dec decMs_e] at h3;exact bne_f h3)⟩,by omega,rfl⟩⟩⟩
           · rw [decHm_e,map_dec decMs_e] at h3 ⊢
             rw [e1]
             exact congrArg AV.i (ls_hit (c:=0) (f:=fM2 hs ms) rfl (decide_eq_true (by omega)) ha2 h3).symm
         · have hge2:g=hs.length:=by have h9:=of_decide_eq_false hd2;have h8:=hg2;(try simp only [List.length_map] at h8);(try simp only [List.length_map] at h9);omega
           subst hge2
           rw [e1]
           exact congrArg AV.i (ls_end (c:=0) (f:=fM2 hs ms) rfl (decide_eq_false (Int.lt_irrefl _)) (Nat.le_refl _) ha2).symm
 exact c_of Tryz.f128 (fzB (modA 8 5 (fun a=>{ a with rdb:=rdK }) (mkB (sp63 l) 128 [(7,1,rdL 3 encHm hs 3 true),(17,2,rdL 3 encHm hs 3 true),(18,4,rdL 1 encLs ms 1 false)] (la128 hs ms)))) (by kernel_rfl) (by kernel_rfl) (by kernel_rfl) (by kernel_rfl) key (by kernel_rfl)
theorem el_ge {l:List Zn} {h:Hm} (e:elB l h=true):0<=zoE l (outM h.ws h.ws.length):=by
 unfold elB at e
 refine Classical.byContradiction fun q=>?_
 rw [if_neg (by rw [decide_eq_true_eq];omega)] at e
 cases e
theorem chO_bd {h:Hm} {m:List Ms} (hm:fMs h m=0) (t:Int):0<=(chO h m (bst h m t)).c∧(chO h m (bst h m t)).c<=8000000:=by
 obtain ⟨y1,y2,y3⟩:=ms_z hm
 cases e:bst h m t with
 | none=>exact ⟨Int.le_refl 0,show (0:Int)<=8000000 by decide⟩
 | some b =>
  have hx:=(bst_some e).2.1
  obtain ⟨x0,_⟩:=set_z hx
  obtain ⟨x1,_⟩:=ix_z x0
  have h1:=cs_bd y3 x1 (bsM m b).length (Nat.le_refl _)
  have h2:=bs_len m b
  show 0<=costN m (bsM m b)∧costN m (bsM m b)<=8000000
  unfold costN
  omega
theorem of_in {h:Hm} {m:List Ms} (hm:fMs h m=0) (t:Int) {z:Int} (hz:0<=z∧z<=100):In64 ((chO h m (bst h m t)).c * z)∧In64 (((chO h m (bst h m t)).c * z).tdiv 100):=by
 have h1:=chO_bd hm t
 have h2:=mul_bd h1.1 h1.2 hz.1 hz.2
 rw [Int.tdiv_eq_ediv_of_nonneg h2.1]
 unfold In64
 omega
def zH (l:List Zn) (h:Hm):Zn:=l.getD (zoE l (outM h.ws h.ws.length)).toNat default
def offV (l:List Zn) (h:Hm) (m:List Ms):Of:=⟨h.nm,(zH l h).nm,(chO h m (bst h m (zH l h).tg)).s,((chO h m (bst h m (zH l h).tg)).c * (zH l h).sh).tdiv 100⟩
def sp129 (l:List Zn) (h:Hm) (m:List Ms):Nat->List AV->Option AV
 | 122,[_,_,.int _ t]=>some (.tup [.agg (encCh (chO h m (bst h m t))),.bool (bst h m t).isSome])
 | 45,[_,_,.int _ t]=>some (cW h m (bst h m t))
 | n,x=>sp127 l h n x
abbrev zc129a (l:List Zn) (h:Hm):=l.getD (zoE l (outM h.ws h.ws.length)).toNat default
theorem c129 (l:List Zn) (h:Hm) (m:List Ms) (hh:fHm h=0) (hz:fZs l=0) (hm:fMs h m=0) (he:elB l h=true):PCall Tryz.prog G0 129 [.agg (encHm h),.sl 4 (l.map encZn),.sl 19 (m.map encMs)] (.agg (encOf (offV l h m))):=by
 have key :
  (0:Int)<=zoE l (outM h.ws h.ws.length)∧zoE l (outM h.ws h.ws.length) < (↑(List.map encZn l).length:Int)∧PCall Tryz.prog G0 99 [AV.agg (encHm h)] (AV.i (outM h.ws h.ws.length))∧PCall Tryz.prog G0 126 [AV.sl 4 (List.map
  encZn l),AV.i (outM h.ws h.ws.length)] (AV.i (zoE l (outM h.ws h.ws.length)))∧AV.agg (nthR (List.map encZn l) (zoE l (outM h.ws h.ws.length)).toNat)=AV.agg (encZn (zc129a l h))∧PCall Tryz.prog G0 122 [AV.agg (encHm h),AV.sl
  19 (List.map encMs m),AV.i (zc129a l h).tg] (AV.tup [AV.agg [AV.i (chO h m (bst h m (zc129a l h).tg)).c,AV.i (chO h m (bst h m (zc129a l h).tg)).u,AV.sl 1 (List.map encI (chO h m (bst h m (zc129a l h).tg)).s)],AV.bool (bst h m
  (zc129a l h).tg).isSome])∧In64 ((chO h m (bst h m (zc129a l h).tg)).c * (zc129a l h).sh)∧¬(100:Int)=(0:Int)∧In64 (((chO h m (bst h m (zc129a l h).tg)).c * (zc129a l h).sh).tdiv 100)∧AV.agg [AV.str h.nm,AV.str (zc129a
  l h).nm,AV.sl 1 (List.map encI (chO h m (bst h m (zc129a l h).tg)).s),AV.i (((chO h m (bst h m (zc129a l h).tg)).c * (zc129a l h).sh).tdiv 100)]=AV.agg [AV.str h.nm,AV.str (zH l h).nm,AV.sl 1 (List.map encI (chO h m (bst h m
  (zH l h).tg)).s),AV.i (((chO h m (bst h m (zH l h).tg)).c * (zH l h).sh).tdiv 100)]:=by
   delta zc129a
   have hlm:(List.map encZn l).length=l.length:=List.length_map _
   obtain ⟨z1,z2,z3,z4,z5,z6⟩:=hm_z hh
   obtain ⟨y1,y2,y3⟩:=zs_z hz
   have hob:=outM_bd z6 h.ws.length (Nat.le_refl _)
   have hzb : -1<=zoE l (outM h.ws h.ws.length)∧zoE l (outM h.ws h.ws.length) < l.length:=zo_bd l _ l.length
   have hge:=el_ge he
   have hsh:=(zn_z (y3 (zoE l (outM h.ws h.ws.length)).toNat (by omega))).sh
   have:(List.map encZn l).length=l.length:=by simp only [List.length_map]
   exact ⟨(by omega),(by omega),(c99 h z3 z2 z6),(c126 l _ (fEn_z (by omega)) y3 (by omega)),(congrArg AV.agg (row_at encZn (by omega))),(c122 h m _ hm),(of_in hm _ hsh).1,(by decide),(of_in hm _ hsh).2,rfl⟩
 exact c_of Tryz.f129 (fzB (mkB (sp129 l h m) 129 [(1,6,rdL 4 encZn l 4 true)] noLa)) (by kernel_rfl) (by kernel_rfl) (by kernel_rfl) (by kernel_rfl) key (by kernel_rfl)
def ofN (l:List Zn) (hs:List Hm) (ms:List (List Ms)):Nat->List Of
 | 0=>[]
 | i+1=>if elB l (hs.getD i default)=true then ofN l hs ms i++[offV l (hs.getD i default) (ms.getD i [])] else ofN l hs ms i
theorem of_len (l:List Zn) (hs:List Hm) (ms:List (List Ms)):∀ i,(ofN l hs ms i).length<=i
 | 0=>Nat.le_refl 0
 | i+1=>by
  have h:=of_len l hs ms i
  rw [ofN]
  split
  · rw [List.length_append]
    exact Nat.succ_le_succ h
  · omega
def sp64 (l:List Zn):Nat->List AV->Option AV
 | 54,[_,.agg c]=>some (.bool (elB l (decHm c)))
 | 127,[.agg c,_]=>some (.bool (elB l (decHm c)))
 | 142,[_,.agg c,.sl _ rows]=>some (.agg (encOf (offV l (decHm c) (rows.map decMs))))
 | 129,[.agg c,_,.sl _ rows]=>some (.agg (encOf (offV l (decHm c) (rows.map decMs))))
 | n,x=>spW n x
structure ChOK (l:List Zn) (hs:List Hm) (ms:List (List Ms)):Prop where
 z:fZs l=0
 n:hs.length<=16
 h:∀ i,i < hs.length->fH1 hs i=0
 e:ms.length=hs.length
 m:∀ i,i < hs.length->fM2 hs ms i=0
theorem ch_ok {l:List Zn} {hs:List Hm} {ms:List (List Ms)} (e:chV l hs ms=0):ChOK l hs ms:=by
 unfold chV sLS at e
 by_cases h:sFirst [fZs l,sWhen (decide ((hs.length:Int) > 16)) 5]=0
 · rw [if_neg (by rw [h];decide)] at e
   have hs0:∀ k,k < hs.length->fH1 hs k=0:=(scan_zero e).1
   have hf:finH hs ms=0:=(scan_zero e).2
   rw [first_zero,first_zero] at h
   have hw:=of_decide_eq_false (when_z (by decide) h.2.1)
   unfold finH at hf
   by_cases q:(ms.length:Int)=(hs.length:Int)
   · rw [if_neg (by simp [q])] at hf
     exact ⟨h.1,by omega,hs0,by omega,(ls_zero hf).2⟩
   · rw [if_pos (by simpa using q)] at hf
     cases hf
 · rw [if_pos (by simpa using h)] at e
   exact absurd e h
def ofV (l:List Zn) (hs:List Hm) (ms:List (List Ms)):List Of:=if (chV l hs ms != 0)=true then [] else ofN l hs ms hs.length
def sp58 (l:List Zn) (hs:List Hm) (ms:List (List Ms)):Nat->List AV->Option AV
 | 128,_=>some (.i (chV l hs ms))
 | n,x=>sp64 l n x
def la58 (l:List Zn) (hs:List Hm) (ms:List (List Ms)):LA:={
 pre:=[.own 9 160 4,.reno 9 1,.keep [0,2,9,19,20,21] [1],.bound 2],post:=[.reno 9 1,.keep [0,2,9,19,20,21] [1],.bound 2]
 Gh:=Nat
 st:=fun i=>⟨[(0,.sl 4 (l.map encZn)),(2,.sl 1 (ms.map encLs)),(9,.own 1 ((ofN l hs ms i).map encOf).length),(19,.sl 3 (hs.map encHm)),(20,.i (hs.map encHm).length),(21,.i i)],[(1,.buf 160 4 ((ofN l hs ms i).map encOf))],2⟩
 ok:=fun i=>i<=hs.length
 ms:=fun i=>hs.length-i }
abbrev zc58c (hs:List Hm) (g:Nat):=decHm (encHm (hs.getD g default))
abbrev zc58a (hs:List Hm) (g:Nat) (ms:List (List Ms)) (l:List Zn):=chO (zc58c hs g) (List.map decMs (List.map encMs (ms.getD g default))) (bst (zc58c hs g) (List.map decMs (List.map encMs (ms.getD g default))) (zH l (zc58c hs g)).tg)
abbrev zc58b (hs:List Hm):=(↑(List.map encHm hs).length:Int)
theorem c58 (l:List Zn) (hs:List Hm) (ms:List (List Ms)) (hl:l.length<=1000) (hn:∀ x,x ∈ l->x.nm.length<=1000) (hh:hs.length<=1000) (hb:∀ h,h ∈ hs->h.nm.length<=1000000∧h.ws.length<=1000) (hm0:ms.length<=1000) (hm:∀ x,x ∈ ms->x.length<=1000∧∀ m,m ∈ x->m.nm.length<=1000):PCall Tryz.prog G0 58 [.sl 4 (l.map encZn),.sl 3 (hs.map encHm),.sl 1 (ms.map encLs)] (.tup [.sl 4 ((ofV l hs ms).map encOf),.i (chV l hs ms)]):=by
 have key :
  PCall Tryz.prog G0 128 [AV.sl 4 (List.map encZn l),AV.sl 3 (List.map encHm hs),AV.sl 1 (List.map encLs ms)] (AV.i (chV l hs ms))∧((chV l hs ms != 0)=true->AV.tup [AV.sl 4 [],AV.i (chV l hs ms)]=AV.tup [AV.sl 4 (List.map
  encOf (ofV l hs ms)),AV.i (chV l hs ms)])∧((chV l hs ms != 0)=false->(∃ (g:Nat),g<=hs.length∧AS.mk [(0,AV.sl 4 (List.map encZn l)),(2,AV.sl 1 (List.map encLs ms)),(9,AV.own 1 0),(19,AV.sl 3 (List.map encHm hs)),
  (20,AV.i (zc58b hs)),(21,AV.i 0)] [(1,ABlk.buf 160 4 [])] 2=AS.mk [(0,AV.sl 4 (List.map encZn l)),(2,AV.sl 1 (List.map encLs ms)),(9,AV.own 1 (List.map encOf (ofN l hs ms g)).length),(19,AV.sl 3 (List.map encHm hs)),
  (20,AV.i (zc58b hs)),(21,AV.i (g:Int))] [(1,ABlk.buf 160 4 (List.map encOf (ofN l hs ms g)))] 2)∧∀ (g:Nat),g<=hs.length->(decide ((g:Int) < (zc58b hs))=true->(0:Int)<=(g:Int)∧(g:Int) < (zc58b hs) ∧
  AV.agg (nthR (List.map encHm hs) g)=AV.agg (encHm (hs.getD g default))∧PCall Tryz.prog G0 127 [AV.agg (encHm (hs.getD g default)),AV.sl 4 (List.map encZn l)] (AV.bool (elB l (zc58c hs g)))∧(elB l (zc58c hs g)=true->(0 :
  Int)<=(g:Int)∧(g:Int) < (↑(List.map encLs ms).length:Int)∧(List.map encOf (ofN l hs ms g)).length+1<=9223372036854775807∧((List.map encOf (ofN l hs ms g)).length+1) * 64<=140737488355328∧nth (nthR (List.map
  encLs ms) g) 0=AV.sl 19 (List.map encMs (ms.getD g []))∧PCall Tryz.prog G0 129 [AV.agg (encHm (hs.getD g default)),AV.sl 4 (List.map encZn l),AV.sl 19 (List.map encMs (ms.getD g []))] (AV.agg [AV.str (hs.getD g default).nm,
  AV.str (zH l (zc58c hs g)).nm,AV.sl 1 (List.map encI (zc58a hs g ms l).s),AV.i (((zc58a hs g ms l).c * (zH l (zc58c hs g)).sh).tdiv 100)])∧In64 ((g:Int)+1)∧∃ (g':Nat),g'<=hs.length∧hs.length-g' < hs.length-g ∧
  AS.mk [(0,AV.sl 4 (List.map encZn l)),(2,AV.sl 1 (List.map encLs ms)),(9,AV.own 1 ((List.map encOf (ofN l hs ms g)).length+1)),(19,AV.sl 3 (List.map encHm hs)),(20,AV.i (zc58b hs)),(21,AV.i ((g:Int)+1))] [(1,
  ABlk.buf 160 4 (List.map encOf (ofN l hs ms g)++[[AV.str (hs.getD g default).nm,AV.str (zH l (zc58c hs g)).nm,AV.sl 1 (List.map encI (zc58a hs g ms l).s),AV.i (((zc58a hs g ms l).c * (zH l (zc58c hs g)).sh).tdiv 100)]]))] 2 =
  AS.mk [(0,AV.sl 4 (List.map encZn l)),(2,AV.sl 1 (List.map encLs ms)),(9,AV.own 1 (List.map encOf (ofN l hs ms g')).length),(19,AV.sl 3 (List.map encHm hs)),(20,AV.i (zc58b hs)),(21,AV.i (↑g':Int))] [(1,ABlk.buf 160 4
  (List.map encOf (ofN l hs ms g')))] 2)∧(elB l (zc58c hs g)=false->In64 ((g:Int)+1)∧∃ (g':Nat),g'<=hs.length∧hs.length-g' < hs.length-g∧AS.mk [(0,AV.sl 4 (List.map encZn l)),(2,AV.sl 1 (List.map encLs
  ms)),(9,AV.own 1 (List.map encOf (ofN l hs ms g)).length),(19,AV.sl 3 (List.map encHm hs)),(20,AV.i (zc58b hs)),(21,AV.i ((g:Int)+1))] [(1,ABlk.buf 160 4 (List.map encOf (ofN l hs ms g)))] 2=AS.mk [(0,AV.sl 4
  (List.map encZn l)),(2,AV.sl 1 (List.map encLs ms)),(9,AV.own 1 (List.map encOf (ofN l hs ms g')).length),(19,AV.sl 3 (List.map encHm hs)),(20,AV.i (zc58b hs)),(21,AV.i (↑g':Int))] [(1,ABlk.buf 160 4 (List.map encOf
  (ofN l hs ms g')))] 2))∧(decide ((g:Int) < (zc58b hs))=false->AV.tup [AV.sl 4 (List.map encOf (ofN l hs ms g)),AV.i 0]=AV.tup [AV.sl 4 (List.map encOf (ofV l hs ms)),AV.i (chV l hs ms)])):=by
   delta zc58a zc58b zc58c
   have:(List.map encHm hs).length=hs.length:=by simp only [List.length_map]
   have:(List.map encLs ms).length=ms.length:=by simp only [List.length_map]
   refine ⟨(c128 l hs ms hl hn hh hb hm0 hm),fun h1=>?_,fun h1=>?_⟩
   · rw [ofV,if_pos h1]
     rfl
   · have hk:ChOK l hs ms:=ch_ok (bne_f h1)
     refine ⟨⟨0,by omega,rfl⟩,fun g hg=>⟨fun hd=>?_,fun hd=>?_⟩⟩
     · have hlt:g < hs.length:=by have h9:=of_decide_eq_true hd;have h8:=hg;(try simp only [List.length_map] at h8);(try simp only [List.length_map] at h9);omega
       have hfz:=fH1_z (hk.h g hlt)
       have hfm:fMs (hs.getD g default) (ms.getD g [])=0:=hk.m g hlt
       have hke:=hk.e
       have hkn:=hk.n
       have hol:=of_len l hs ms g
       have hol2:(List.map encOf (ofN l hs ms g)).length=(ofN l hs ms g).length:=List.length_map _
       refine ⟨(by omega),(by omega),congrArg AV.agg (row_at encHm hlt),((by rw [decHm_e];exact c127 _ l hfz hk.z)),fun h2=>⟨(by omega),(by omega),(by omega),(by omega),(congrArg (fun r=>nth r 0) (row_at encLs (by omega))),((by rw [decHm_e] at h2;simp only [decHm_e,map_dec decMs_e];exact c129 l _ _ hfz hk.z hfm h2)),(by unfold In64;omega),⟨g+1,by omega,by omega,?_⟩⟩,fun h2=>⟨(by unfold In64;omega),⟨g+1,by omega,by omega,?_⟩⟩⟩
       · rw [decHm_e] at h2
         first
          | (have e:ofN l hs ms (g+1)=ofN l hs ms g++[offV l (hs.getD g default) (ms.getD g [])]:=if_pos h2
             rw [e,List.map_append,List.length_append]
             simp only [decHm_e,map_dec decMs_e]
             rfl)
          | (have e:ofN l hs ms (g+1)=ofN l hs ms g:=if_neg (by rw [h2];decide)
             rw [e]
             rfl)
       · rw [decHm_e] at h2
         first
          | (have e:ofN l hs ms (g+1)=ofN l hs ms g++[offV l (hs.getD g default) (ms.getD g [])]:=if_pos h2
             rw [e,List.map_append,List.length_append]
             simp only [decHm_e,map_dec decMs_e]
             rfl)
          | (have e:ofN l hs ms (g+1)=ofN l hs ms g:=if_neg (by rw [h2];decide)
             rw [e]
             rfl)
     · have hge:g=hs.length:=by have h9:=of_decide_eq_false hd;have h8:=hg;(try simp only [List.length_map] at h8);(try simp only [List.length_map] at h9);omega
       subst hge
       rw [ofV,if_neg (by rw [h1];decide),bne_f h1]
 exact c_of Tryz.f58 (gsB (fun i=>if i.beq 3 then [.nil 6 4] else if i.beq 11 then [.frzo 6] else []) (fzB (mkB (sp58 l hs ms) 58 [(7,2,rdL 3 encHm hs 3 true),(9,6,rdL 1 encLs ms 1 false)] (la0 (la58 l hs ms))))) (by kernel_rfl) (by kernel_rfl) (by kernel_rfl) (by kernel_rfl) key (by kernel_rfl)
def la137 (a b:List Int):LA:={
 pre:=[.keep [0,1,11,12,13] [],.bound 1],post:=[.keep [0,1,11,12,13] [],.bound 1]
 Gh:=Nat
 st:=fun i=>⟨[(0,.sl 1 (a.map encI)),(1,.sl 1 (b.map encI)),(11,.sl 1 (a.map encI)),(12,.i (a.map encI).length),(13,.i i)],[],1⟩
 ok:=fun i=>i<=a.length∧∀ j,j < i->a.getD j default=b.getD j default
 ms:=fun i=>a.length-i }
abbrev zc137a (a:List Int):=(↑(List.map encI a).length:Int)
theorem c137 (a b:List Int) (ha0:a.length<=1000):PCall Tryz.prog G0 137 [.sl 1 (a.map encI),.sl 1 (b.map encI)] (.bool (a == b)):=by
 have key :
  (((zc137a a) != (↑(List.map encI b).length:Int))=true->AV.bool false=AV.bool (a == b))∧(((zc137a a) != (↑(List.map encI b).length:Int))=false->(∃ (g:Nat),(g<=a.length∧∀ (j:Nat),j < g->a.getD j default =
  b.getD j default)∧AS.mk [(0,AV.sl 1 (List.map encI a)),(1,AV.sl 1 (List.map encI b)),(11,AV.sl 1 (List.map encI a)),(12,AV.i (zc137a a)),(13,AV.i 0)] [] 1=AS.mk [(0,AV.sl 1 (List.map encI a)),(1,AV.sl 1 (List.map
  encI b)),(11,AV.sl 1 (List.map encI a)),(12,AV.i (zc137a a)),(13,AV.i (g:Int))] [] 1)∧∀ (g:Nat),(g<=a.length∧∀ (j:Nat),j < g->a.getD j default=b.getD j default)->(decide ((g:Int) < (zc137a a))=true->(0
  : Int)<=(g:Int)∧(g:Int) < (zc137a a)∧(0:Int)<=(g:Int)∧(g:Int) < (↑(List.map encI b).length:Int)∧nth (nthR (List.map encI a) g) 0=AV.i (a.getD g default)∧nth (nthR (List.map encI b) g) 0=AV.i (b.getD
  g default)∧((a.getD g default != b.getD g default)=true->AV.bool false=AV.bool (a == b))∧((a.getD g default != b.getD g default)=false->In64 ((g:Int)+1)∧∃ (g':Nat),(g'<=a.length∧∀ (j:Nat),j < g'->a.getD
  j default=b.getD j default)∧a.length-g' < a.length-g∧AS.mk [(0,AV.sl 1 (List.map encI a)),(1,AV.sl 1 (List.map encI b)),(11,AV.sl 1 (List.map encI a)),(12,AV.i (zc137a a)),(13,AV.i ((g:Int)+1))] [] 1=AS.mk
  [(0,AV.sl 1 (List.map encI a)),(1,AV.sl 1 (List.map encI b)),(11,AV.sl 1 (List.map encI a)),(12,AV.i (zc137a a)),(13,AV.i (↑g':Int))] [] 1))∧(decide ((g:Int) < (zc137a a))=false->AV.bool true=AV.bool (a == b))):=by
   delta zc137a
   have:(List.map encI a).length=a.length:=by simp only [List.length_map]
   have:(List.map encI b).length=b.length:=by simp only [List.length_map]
   refine ⟨fun h1=>?_,fun h1=>?_⟩
   · first
      | exact congrArg AV.bool (beq_false_of_ne (fun q=>by rw [q] at h2;exact absurd h2 (by simp))).symm
      | exact congrArg AV.bool (beq_false_of_ne (fun q=>by rw [q] at h1;exact absurd h1 (by simp))).symm
   · have hab:a.length=b.length:=by have q:=bne_eq_false_iff_eq.1 h1;simp only [List.length_map] at q;omega
     refine ⟨⟨0,⟨by omega,by intros;omega⟩,rfl⟩,fun g ⟨hg,ha⟩=>⟨fun hd=>?_,fun hd=>?_⟩⟩
     · have hlt:g < a.length:=by have h9:=of_decide_eq_true hd;have h8:=hg;(try simp only [List.length_map] at h8);(try simp only [List.length_map] at h9);omega
       refine ⟨(by omega),(by omega),(by omega),(by omega),congrArg (fun r=>nth r 0) (row_at encI hlt),(congrArg (fun r=>nth r 0) (row_at encI (by omega))),fun h2=>?_,fun h2=>⟨(by unfold In64;omega),⟨g+1,⟨by omega,all_ext ha (bne_eq_false_iff_eq.1 h2)⟩,by omega,rfl⟩⟩⟩
       · first
          | exact congrArg AV.bool (beq_false_of_ne (fun q=>by rw [q] at h2;exact absurd h2 (by simp))).symm
          | exact congrArg AV.bool (beq_false_of_ne (fun q=>by rw [q] at h1;exact absurd h1 (by simp))).symm
     · have hge:g=a.length:=by have h9:=of_decide_eq_false hd;have h8:=hg;(try simp only [List.length_map] at h8);(try simp only [List.length_map] at h9);omega
       subst hge
       have e:a=b:=List.ext_getElem hab (fun i p1 p2=>by have q:=ha i p1;simpa [List.getD_eq_getElem?_getD,p1,p2] using q)
       rw [e,beq_self_eq_true]
 exact c_of Tryz.f137 (fzB (mkB spW 137 [(6,3,rdL 1 encI a 1 false),(6,7,rdL 1 encI b 1 false)] (la0 (la137 a b)))) (by kernel_rfl) (by kernel_rfl) (by kernel_rfl) (by kernel_rfl) key (by kernel_rfl)
end Go.Proofs.YtfoeefaamjknpaaGreatDoor
namespace Go.Proofs.YtfoeefaamjknpaaGreatDoor
open Go Go.Av Go.RowKit
def flatK (ns:List (List UInt8)):List AV:=ns.flatMap fun s=>[.str s,.bool true]
theorem pk_e:∀ ns:List (List UInt8),pairsV (flatK ns)=knS ns
 | []=>rfl
 | s::ns=>by
  show (AV.str s,AV.bool true)::pairsV (flatK ns)=_
  rw [pk_e ns]
  rfl
def FO (l:List Zn):AV:=.fn (.func 130) [] [.ptr 1 0,.elt 1 [[.sl 4 (l.map encZn)]] 0 0]
def bsO (ns:List (List UInt8)):List ABlk:=[.box [.ref 2],.map (pairsV (flatK ns))]
def opB (l:List Zn) (ns:List (List UInt8)) (h:Hm):Bool:=if (!hasK (pairsV (flatK ns)) (.str h.nm))=true then elB l h else false
theorem w130 (l:List Zn) (ns:List (List UInt8)) (h:Hm) (hh:fHm h=0) (hz:fZs l=0):WCall Tryz.prog G0 130 [.agg (encHm h),.ptr 1 0,.elt 1 [[.sl 4 (l.map encZn)]] 0 0] (bsO ns) (.bool (opB l ns h)) (bsO ns):=by
 have key :
  (mlook (AV.str h.nm) (pairsV (flatK ns))).isSome=true∧((!hasK (pairsV (flatK ns)) (AV.str h.nm))=true->(!hasK (pairsV (flatK ns)) (AV.str h.nm))=true)∧((!hasK (pairsV (flatK ns)) (AV.str h.nm))=true->(!hasK (pairsV
  (flatK ns)) (AV.str h.nm))=true)∧((!hasK (pairsV (flatK ns)) (AV.str h.nm))=true->(!hasK (pairsV (flatK ns)) (AV.str h.nm))=true)∧lookV false (AV.bool false) (mlook (AV.str h.nm) (pairsV (flatK ns)))=AV.bool (hasK
  (pairsV (flatK ns)) (AV.str h.nm))∧impB (!hasK (pairsV (flatK ns)) (AV.str h.nm)) (PCall Tryz.prog G0 127 [AV.agg (encHm h),AV.sl 4 (List.map encZn l)] (AV.bool (elB l (decHm (nthR [encHm h] 0)))))∧AV.bool (if (!hasK (pairsV
  (flatK ns)) (AV.str h.nm))=true then elB l (decHm (nthR [encHm h] 0)) else false)=AV.bool (opB l ns h)∧[ABlk.box [AV.ref 2],ABlk.map (pairsV (flatK ns))]=[ABlk.box [AV.ref 2],ABlk.map (pairsV (flatK ns))]:=by
   refine ⟨(by rw [pk_e];exact look_some (fun s=>s) _ _),fun h=>h,fun h=>h,fun h=>h,(by rw [pk_e];exact look_key (fun s=>s) _ _),impB_iff.2 fun hb=>((by rw [show nthR [encHm h] 0=encHm h from rfl,decHm_e];exact c127 h l hh hz)),?_,rfl⟩
   · rw [show nthR [encHm h] 0=encHm h from rfl,decHm_e]
     rfl
 exact w_of Tryz.f130 (modA 1 3 (fun a=>{ a with rdb:=rdK }) (mkB (sp64 l) 130 [] noLa)) (by kernel_rfl) (by kernel_rfl) (by kernel_rfl) (by kernel_rfl) (by kernel_rfl) key (by kernel_rfl)
def hs130 (l:List Zn) (ns:List (List UInt8)):Nat->List AV->List ABlk->Option AV
 | 130,.agg c::_,_=>some (.gv true (.tup [.bool (opB l ns (decHm c)),.agg [.ref 2],.tup (flatK ns)]))
 | _,_,_=>none
def opJ (l:List Zn) (ns:List (List UInt8)) (rows:List (List AV)) (j:Nat):Bool:=opB l ns (decHm (nthR rows j))
def la138 (l:List Zn) (ns:List (List UInt8)) (hs:List Hm):LA:={
 pre:=[.keep [0,1,7,8] [0,1,2],.bound 3],post:=[.keep [0,1,7,8] [0,1,2],.bound 3]
 Gh:=Nat
 st:=fun i=>⟨[(0,.sl 3 (hs.map encHm)),(1,FO l),(7,.i (hs.map encHm).length),(8,.i i)],[(0,.pins 3),(1,.box [.ref 2]),(2,.map (pairsV (flatK ns)))],3⟩
 ok:=fun i=>i<=hs.length∧∀ j,j < i->opJ l ns (hs.map encHm) j=false
 ms:=fun i=>hs.length-i }
abbrev zw138a (ns:List (List UInt8)):=[(0,ABlk.pins 3),(1,ABlk.box [AV.ref 2]),(2,ABlk.map (pairsV (flatK ns)))]
abbrev zw138b (ns:List (List UInt8)):=[ABlk.box [AV.ref 2],ABlk.map (pairsV (flatK ns))]
theorem w138 (l:List Zn) (ns:List (List UInt8)) (hs:List Hm) (hz:fZs l=0) (hb:∀ h,h ∈ hs->fHm h=0) (hh:hs.length<=1000):WCall Tryz.prog G0 138 [.sl 3 (hs.map encHm),FO l] (bsO ns) (.i (fiI (opJ l ns (hs.map encHm)) hs.length)) (bsO ns):=by
 have key :
  (∃ (g:Nat),(g<=hs.length∧∀ (j:Nat),j < g->opJ l ns (List.map encHm hs) j=false)∧AS.mk [(0,AV.sl 3 (List.map encHm hs)),(1,AV.fn (Fn.func 130) [] [AV.ptr 1 0,AV.elt 1 [[AV.sl 4 (List.map encZn l)]] 0 0]),(7,AV.i
  (↑(List.map encHm hs).length:Int)),(8,AV.i 0)] (zw138a ns) 3=AS.mk [(0,AV.sl 3 (List.map encHm hs)),(1,AV.fn (Fn.func 130) [] [AV.ptr 1 0,AV.elt 1 [[AV.sl 4 (List.map encZn l)]] 0 0]),(7,AV.i (↑(List.map encHm
  hs).length:Int)),(8,AV.i (g:Int))] (zw138a ns) 3)∧∀ (g:Nat),(g<=hs.length∧∀ (j:Nat),j < g->opJ l ns (List.map encHm hs) j=false)->(decide ((g:Int) < (↑(List.map encHm hs).length:Int))=true->(0:Int) ≤
  (g:Int)∧(g:Int) < (↑(List.map encHm hs).length:Int)∧AV.agg (nthR (List.map encHm hs) g)=AV.agg (encHm (hs.getD g default))∧WCall Tryz.prog G0 130 [AV.agg (encHm (hs.getD g default)),AV.ptr 1 0,AV.elt 1 [[AV.sl 4
  (List.map encZn l)]] 0 0] (zw138b ns) (AV.bool (opB l ns (decHm (encHm (hs.getD g default))))) (zw138b ns)∧(opB l ns (decHm (encHm (hs.getD g default)))=true->AV.i (g:Int)=AV.i (fiI (opJ l ns (List.map encHm hs))
  hs.length)∧(zw138b ns)=(zw138b ns))∧(opB l ns (decHm (encHm (hs.getD g default)))=false->In64 ((g:Int)+1)∧∃ (g':Nat),(g'<=hs.length∧∀ (j:Nat),j < g'->opJ l ns (List.map encHm hs) j=false)∧hs.length -
  g' < hs.length-g∧AS.mk [(0,AV.sl 3 (List.map encHm hs)),(1,AV.fn (Fn.func 130) [] [AV.ptr 1 0,AV.elt 1 [[AV.sl 4 (List.map encZn l)]] 0 0]),(7,AV.i (↑(List.map encHm hs).length:Int)),(8,AV.i ((g:Int)+1))] (zw138a
  ns) 3=AS.mk [(0,AV.sl 3 (List.map encHm hs)),(1,AV.fn (Fn.func 130) [] [AV.ptr 1 0,AV.elt 1 [[AV.sl 4 (List.map encZn l)]] 0 0]),(7,AV.i (↑(List.map encHm hs).length:Int)),(8,AV.i (↑g':Int))] (zw138a ns) 3))∧(decide
  ((g:Int) < (↑(List.map encHm hs).length:Int))=false->AV.i (-1)=AV.i (fiI (opJ l ns (List.map encHm hs)) hs.length)∧(zw138b ns)=(zw138b ns)):=by
   delta zw138a zw138b
   have:(List.map encHm hs).length=hs.length:=by simp only [List.length_map]
   refine ⟨⟨0,⟨by omega,by intros;omega⟩,rfl⟩,fun g ⟨hg,ha⟩=>⟨fun hd=>?_,fun hd=>?_⟩⟩
   · have hlt:g < hs.length:=by have h9:=of_decide_eq_true hd;have h8:=hg;(try simp only [List.length_map] at h8);(try simp only [List.length_map] at h9);omega
     refine ⟨(by omega),(by omega),congrArg AV.agg (row_at encHm hlt),(by rw [decHm_e];exact w130 l ns _ (hb _ (getD_mem hlt)) hz),fun h1=>⟨?_,rfl⟩,fun h1=>⟨(by unfold In64;omega),⟨g+1,⟨by omega,all_ext ha (by unfold opJ;rw [row_at encHm hlt];exact h1)⟩,by omega,rfl⟩⟩⟩
     · rw [fiI,fi_some ha (by unfold opJ;rw [row_at encHm hlt];exact h1) hlt,if_neg (by omega)]
   · have hge:g=hs.length:=by have h9:=of_decide_eq_false hd;have h8:=hg;(try simp only [List.length_map] at h8);(try simp only [List.length_map] at h9);omega
     subst hge
     refine ⟨?_,rfl⟩
     · rw [fiI,fi_none ha,if_pos rfl]
 exact w_of Tryz.f138 ({ mkB spW 138 [(4,4,rdL 3 encHm hs 3 true)] (la1 (la138 l ns hs)) with hs:=hs130 l ns }) (by kernel_rfl) (by kernel_rfl) (by kernel_rfl) (by kernel_rfl) (by kernel_rfl) key (by kernel_rfl)
def hs138 (l:List Zn) (ns:List (List UInt8)):Nat->List AV->List ABlk->Option AV
 | 138,.sl _ rows::_,_=>some (.gv true (.tup [.i (fiI (opJ l ns rows) rows.length),.agg [.ref 2],.tup (flatK ns)]))
 | _,_,_=>none
def opR (l:List Zn) (ns:List (List UInt8)) (rows:List (List AV)):Bool:=decide (fiI (opJ l ns rows) rows.length>=0)
theorem w135 (l:List Zn) (ns:List (List UInt8)) (hs:List Hm) (hz:fZs l=0) (hb:∀ h,h ∈ hs->fHm h=0) (hh:hs.length<=1000):WCall Tryz.prog G0 135 [.sl 3 (hs.map encHm),FO l] (bsO ns) (.bool (opR l ns (hs.map encHm))) (bsO ns):=by
 have key :
  WCall Tryz.prog G0 138 [AV.sl 3 (List.map encHm hs),AV.fn (Fn.func 130) [] [AV.ptr 1 0,AV.elt 1 [[AV.sl 4 (List.map encZn l)]] 0 0]] [ABlk.box [AV.ref 2],ABlk.map (pairsV (flatK ns))] (AV.i (fiI (opJ l ns (List.map encHm hs))
  (List.map encHm hs).length)) [ABlk.box [AV.ref 2],ABlk.map (pairsV (flatK ns))]∧AV.bool (decide (fiI (opJ l ns (List.map encHm hs)) (List.map encHm hs).length>=0))=AV.bool (opR l ns (List.map encHm hs))∧[ABlk.box [AV.ref
  2],ABlk.map (pairsV (flatK ns))]=[ABlk.box [AV.ref 2],ABlk.map (pairsV (flatK ns))]:=by
   have:(List.map encHm hs).length=hs.length:=by simp only [List.length_map]
   exact ⟨(by rw [List.length_map];exact w138 l ns hs hz hb hh),rfl,rfl⟩
 exact w_of Tryz.f135 ({ mkB spW 135 [] noLa with hs:=hs138 l ns }) (by kernel_rfl) (by kernel_rfl) (by kernel_rfl) (by kernel_rfl) (by kernel_rfl) key (by kernel_rfl)
def hs135 (l:List Zn) (ns:List (List UInt8)):Nat->List AV->List ABlk->Option AV
 | 135,.sl _ rows::_,_=>some (.gv true (.tup [.bool (opR l ns rows),.agg [.ref 2],.tup (flatK ns)]))
 | _,_,_=>none
def bsQ (l:List Zn) (ns:List (List UInt8)):List ABlk:=[.box [.fn (.func 130) [] [.ptr 2 0,.elt 1 [[.sl 4 (l.map encZn)]] 0 0]],.box [.ref 3],.map (pairsV (flatK ns))]
theorem w134 (l:List Zn) (ns:List (List UInt8)) (hs:List Hm) (o:Of) (k:Nat) (hz:fZs l=0) (hb:∀ h,h ∈ hs->fHm h=0) (hh:hs.length<=1000) (hk:k<=hs.length):WCall Tryz.prog G0 134 [.agg (encOf o),.i k,.elt 1 [[.sl 3 (hs.map encHm)]] 0 0,.ptr 1 0] (bsQ l ns) (.bool (opR l ns ((hs.take k).map encHm))) (bsQ l ns):=by
 have key :
  (0:Int)<=0∧(0:Int)<=(k:Int)∧(k:Int)<=(↑(List.map encHm hs).length:Int)∧WCall Tryz.prog G0 135 [AV.sl 3 (List.take ((k:Int)-0).toNat (List.drop 0 (List.map encHm hs))),AV.fn (Fn.func 130) [] [AV.ptr 1 0,
  AV.elt 1 [[AV.sl 4 (List.map encZn l)]] 0 0]] [ABlk.box [AV.ref 2],ABlk.map (pairsV (flatK ns))] (AV.bool (opR l ns (List.take ((k:Int)-0).toNat (List.drop 0 (List.map encHm hs))))) [ABlk.box [AV.ref 2],ABlk.map (pairsV
  (flatK ns))]∧AV.bool (opR l ns (List.take ((k:Int)-0).toNat (List.drop 0 (List.map encHm hs))))=AV.bool (opR l ns (List.map encHm (List.take k hs)))∧[ABlk.box [AV.fn (Fn.func 130) [] [AV.ptr 2 0,AV.elt 1 [[AV.sl 4
  (List.map encZn l)]] 0 0]],ABlk.box [AV.ref 3],ABlk.map (pairsV (flatK ns))]=[ABlk.box [AV.fn (Fn.func 130) [] [AV.ptr 2 0,AV.elt 1 [[AV.sl 4 (List.map encZn l)]] 0 0]],ABlk.box [AV.ref 3],ABlk.map (pairsV (flatK ns))]:=by
   have:(List.map encHm hs).length=hs.length:=by simp only [List.length_map]
   exact ⟨(by omega),(by omega),(by omega),(by rw [tk_e];exact w135 l ns (hs.take k) hz (fun h hm=>hb h (List.mem_of_mem_take hm)) (by rw [List.length_take];omega)),(by rw [tk_e]),rfl⟩
 exact w_of Tryz.f134 ({ mkB spW 134 [] noLa with hs:=hs135 l ns }) (by kernel_rfl) (by kernel_rfl) (by kernel_rfl) (by kernel_rfl) (by kernel_rfl) key (by kernel_rfl)
theorem w132 (ns:List (List UInt8)) (o:Of) (k:Int) :WCall Tryz.prog G0 132 [.agg (encOf o),.i k,.ptr 1 0] (bsO ns) (.bool (hasK (pairsV (flatK ns)) (.str o.hm))) (bsO ns):=by
 have key :
  (mlook (AV.str o.hm) (pairsV (flatK ns))).isSome=true∧lookV false (AV.bool false) (mlook (AV.str o.hm) (pairsV (flatK ns)))=AV.bool (hasK (pairsV (flatK ns)) (AV.str o.hm))∧AV.bool (hasK (pairsV (flatK ns)) (AV.str o.hm)) =
  AV.bool (hasK (pairsV (flatK ns)) (AV.str o.hm))∧[ABlk.box [AV.ref 2],ABlk.map (pairsV (flatK ns))]=[ABlk.box [AV.ref 2],ABlk.map (pairsV (flatK ns))]:=by
   exact ⟨(by rw [pk_e];exact look_some (fun s=>s) _ _),(by rw [pk_e];exact look_key (fun s=>s) _ _),rfl,rfl⟩
 exact w_of Tryz.f132 (modA 1 3 (fun a=>{ a with rdb:=rdK }) (mkB spW 132 [] noLa)) (by kernel_rfl) (by kernel_rfl) (by kernel_rfl) (by kernel_rfl) (by kernel_rfl) key (by kernel_rfl)
theorem c131 (o:Of) (k:Int) :PCall Tryz.prog G0 131 [.agg (encOf o),.i k] (.bool (decide (k < 0))):=by
 have key :
  AV.bool (decide (k < 0))=AV.bool (decide (k < 0)):=by
   exact rfl
 exact c_of Tryz.f131 (fzB (mkB spW 131 [] noLa)) (by kernel_rfl) (by kernel_rfl) (by kernel_rfl) (by kernel_rfl) key (by kernel_rfl)
theorem c133 (l:List Zn) (hs:List Hm) (o:Of) (k:Nat) (hz:fZs l=0) (hb:∀ h,h ∈ hs->fHm h=0) (hh:hs.length<=1000) (hk:k < hs.length):PCall Tryz.prog G0 133 [.agg (encOf o),.i k,.elt 1 [[.sl 3 (hs.map encHm)]] 0 0,.elt 1 [[.sl 4 (l.map encZn)]] 0 0] (.bool (!elB l (hs.getD k default))):=by
 have key :
  (0:Int)<=(k:Int)∧(k:Int) < (↑(List.map encHm hs).length:Int)∧AV.agg (nthR (List.map encHm hs) k)=AV.agg (encHm (hs.getD k default))∧PCall Tryz.prog G0 127 [AV.agg (encHm (hs.getD k default)),AV.sl 4 (List.map
  encZn l)] (AV.bool (elB l (decHm (encHm (hs.getD k default)))))∧(AV.bool !elB l (decHm (encHm (hs.getD k default))))=AV.bool !elB l (hs.getD k default):=by
   have:(List.map encHm hs).length=hs.length:=by simp only [List.length_map]
   exact ⟨(by omega),(by omega),(congrArg AV.agg (row_at encHm hk)),((by rw [decHm_e];exact c127 _ l (hb _ (getD_mem hk)) hz)),(by rw [decHm_e])⟩
 exact c_of Tryz.f133 (fzB (mkB (sp64 l) 133 [(1,3,rdL 3 encHm hs 3 true)] noLa)) (by kernel_rfl) (by kernel_rfl) (by kernel_rfl) (by kernel_rfl) key (by kernel_rfl)
def dfX (x o:Of):Bool:=if (if (x.zn != o.zn)=true then true else x.a != o.a)=true then true else !(x.g == o.g)
def sp136 (x o:Of):Nat->List AV->Option AV
 | 129,_=>some (.agg (encOf x))
 | 137,_=>some (.bool (x.g == o.g))
 | n,y=>spW n y
abbrev zc136b (hs:List Hm) (k:Nat) (ms:List (List Ms)) (l:List Zn):=chO (hs.getD k default) (ms.getD k []) (bst (hs.getD k default) (ms.getD k []) (zH l (hs.getD k default)).tg)
abbrev zc136a (l:List Zn) (hs:List Hm) (k:Nat) (o:Of) (ms:List (List Ms)):=!if (!(zH l (hs.getD k default)).nm == o.zn)=true then true else ((zc136b hs k ms l).c * (zH l (hs.getD k default)).sh).tdiv 100 != o.a
abbrev zc136c (l:List Zn) (hs:List Hm) (k:Nat) (o:Of):=(!!(zH l (hs.getD k default)).nm == o.zn)=true->(!!(zH l (hs.getD k default)).nm == o.zn)=true
theorem c136 (l:List Zn) (hs:List Hm) (ms:List (List Ms)) (o:Of) (k:Nat) (hk:ChOK l hs ms) (hlt:k < hs.length) (he:elB l (hs.getD k default)=true):PCall Tryz.prog G0 136 [.agg (encOf o),.i k,.elt 1 [[.sl 3 (hs.map encHm)]] 0 0,.elt 1 [[.sl 4 (l.map encZn)]] 0 0,.elt 1 [[.sl 1 (ms.map encLs)]] 0 0] (.bool (dfX (offV l (hs.getD k default) (ms.getD k [])) o)):=by
 have key :
  (0:Int)<=(k:Int)∧(k:Int) < (↑(List.map encHm hs).length:Int)∧(0:Int)<=(k:Int)∧(k:Int) < (↑(List.map encLs ms).length:Int)∧AV.agg (nthR (List.map encHm hs) k)=AV.agg (encHm (hs.getD k default))∧nth
  (nthR (List.map encLs ms) k) 0=AV.sl 19 (List.map encMs (ms.getD k []))∧PCall Tryz.prog G0 129 [AV.agg (encHm (hs.getD k default)),AV.sl 4 (List.map encZn l),AV.sl 19 (List.map encMs (ms.getD k []))] (AV.agg [AV.str (hs.getD
  k default).nm,AV.str (zH l (hs.getD k default)).nm,AV.sl 1 (List.map encI (zc136b hs k ms l).s),AV.i (((zc136b hs k ms l).c * (zH l (hs.getD k default)).sh).tdiv 100)])∧(zc136c l hs k o)∧(zc136c l hs k o)∧(zc136c l hs k o)
  ∧ (zc136c l hs k o)∧((!(zH l (hs.getD k default)).nm == o.zn)=false->(!!(zH l (hs.getD k default)).nm == o.zn)=true)∧((zc136a l hs k o ms)=true->(zc136a l hs k o ms)=true)∧((zc136a l hs k o ms)=true->(zc136a l hs
  k o ms)=true)∧((zc136a l hs k o ms)=true->(zc136a l hs k o ms)=true)∧((zc136a l hs k o ms)=true->(zc136a l hs k o ms)=true)∧((zc136a l hs k o ms)=true->(zc136a l hs k o ms)=true)∧((if (!(zH l (hs.getD k
  default)).nm == o.zn)=true then true else ((zc136b hs k ms l).c * (zH l (hs.getD k default)).sh).tdiv 100 != o.a)=false->(zc136a l hs k o ms)=true)∧impB (zc136a l hs k o ms) (PCall Tryz.prog G0 137 [AV.sl 1 (List.map encI
  (zc136b hs k ms l).s),AV.sl 1 (List.map encI o.g)] (AV.bool ((zc136b hs k ms l).s == o.g)))∧AV.bool (if (if (!(zH l (hs.getD k default)).nm == o.zn)=true then true else ((zc136b hs k ms l).c * (zH l (hs.getD k
  default)).sh).tdiv 100 != o.a)=true then true else !(zc136b hs k ms l).s == o.g)=AV.bool (dfX (offV l (hs.getD k default) (ms.getD k [])) o):=by
   delta zc136a zc136b zc136c
   have hfz:=fH1_z (hk.h k hlt)
   have hfm:fMs (hs.getD k default) (ms.getD k [])=0:=hk.m k hlt
   have hke:=hk.e
   have hcl:=ch_len (hs.getD k default) (ms.getD k []) (bst (hs.getD k default) (ms.getD k []) (zH l (hs.getD k default)).tg)
   have hm8:=(ms_z hfm).2.1
   have:(List.map encHm hs).length=hs.length:=by simp only [List.length_map]
   have:(List.map encLs ms).length=ms.length:=by simp only [List.length_map]
   exact ⟨(by omega),(by omega),(by omega),(by omega),(congrArg AV.agg (row_at encHm hlt)),(congrArg (fun r=>nth r 0) (row_at encLs (by omega))),(c129 l _ _ hfz hk.z hfm he),fun h=>h,fun h=>h,fun h=>h,fun h=>h,fun h=>by first | exact h | (rw [h];rfl) | simp_all,fun h=>h,fun h=>h,fun h=>h,fun h=>h,fun h=>h,fun h=>by first | exact h | (rw [h];rfl) | simp_all,impB_iff.2 fun hb=>(c137 _ _ (by omega)),rfl⟩
 exact c_of Tryz.f136 (fzB (mkB (sp136 (offV l (hs.getD k default) (ms.getD k [])) o) 136 [(1,3,rdL 3 encHm hs 3 true),(1,8,rdL 1 encLs ms 1 false)] noLa)) (by kernel_rfl) (by kernel_rfl) (by kernel_rfl) (by kernel_rfl) key (by kernel_rfl)
theorem c139 (h:Hm) (o:Of) :PCall Tryz.prog G0 139 [.agg (encHm h),.elt 4 [encOf o] 0 0] (.bool (h.nm == o.hm)):=by
 have key :
  AV.bool (h.nm == o.hm)=AV.bool (h.nm == o.hm):=by
   exact rfl
 exact c_of Tryz.f139 (fzB (mkB spW 139 [] noLa)) (by kernel_rfl) (by kernel_rfl) (by kernel_rfl) (by kernel_rfl) key (by kernel_rfl)
def FE (o:Of):AV:=.fn (.func 139) [] [.elt 4 [encOf o] 0 0]
def la138e (hs:List Hm) (o:Of):LA:={
 pre:=[.keep [0,1,7,8] [],.bound 1],post:=[.keep [0,1,7,8] [],.bound 1]
 Gh:=Nat
 st:=fun i=>⟨[(0,.sl 3 (hs.map encHm)),(1,FE o),(7,.i (hs.map encHm).length),(8,.i i)],[],1⟩
 ok:=fun i=>i<=hs.length∧∀ j,j < i->pFH hs o.hm j=false
 ms:=fun i=>hs.length-i }
def sp138 (o:Of):Nat->List AV->Option AV
 | 139,.agg (.str s::_)::_=>some (.bool (s == o.hm))
 | n,y=>spW n y
theorem c138e (hs:List Hm) (o:Of) (hh:hs.length<=1000):PCall Tryz.prog G0 138 [.sl 3 (hs.map encHm),FE o] (.i (fiI (pFH hs o.hm) hs.length)):=by
 have key :
  (∃ (g:Nat),(g<=hs.length∧∀ (j:Nat),j < g->pFH hs o.hm j=false)∧AS.mk [(0,AV.sl 3 (List.map encHm hs)),(1,AV.fn (Fn.func 139) [] [AV.elt 4 [(encOf o)] 0 0]),(7,AV.i (↑(List.map encHm hs).length:Int)),(8,AV.i
  0)] [] 1=AS.mk [(0,AV.sl 3 (List.map encHm hs)),(1,AV.fn (Fn.func 139) [] [AV.elt 4 [(encOf o)] 0 0]),(7,AV.i (↑(List.map encHm hs).length:Int)),(8,AV.i (g:Int))] [] 1)∧∀ (g:Nat),(g<=hs.length∧∀ (j:Nat),j <
  g->pFH hs o.hm j=false)->(decide ((g:Int) < (↑(List.map encHm hs).length:Int))=true->(0:Int)<=(g:Int)∧(g:Int) < (↑(List.map encHm hs).length:Int)∧AV.agg (nthR (List.map encHm hs) g)=AV.agg (encHm
  (hs.getD g default))∧PCall Tryz.prog G0 139 [AV.agg (encHm (hs.getD g default)),AV.elt 4 [(encOf o)] 0 0] (AV.bool ((hs.getD g default).nm == o.hm))∧(((hs.getD g default).nm == o.hm)=true->AV.i (g:Int)=AV.i (fiI (pFH
  hs o.hm) hs.length))∧(((hs.getD g default).nm == o.hm)=false->In64 ((g:Int)+1)∧∃ (g':Nat),(g'<=hs.length∧∀ (j:Nat),j < g'->pFH hs o.hm j=false)∧hs.length-g' < hs.length-g∧AS.mk [(0,AV.sl 3 (List.map
  encHm hs)),(1,AV.fn (Fn.func 139) [] [AV.elt 4 [(encOf o)] 0 0]),(7,AV.i (↑(List.map encHm hs).length:Int)),(8,AV.i ((g:Int)+1))] [] 1=AS.mk [(0,AV.sl 3 (List.map encHm hs)),(1,AV.fn (Fn.func 139) [] [AV.elt 4
  [(encOf o)] 0 0]),(7,AV.i (↑(List.map encHm hs).length:Int)),(8,AV.i (↑g':Int))] [] 1))∧(decide ((g:Int) < (↑(List.map encHm hs).length:Int))=false->AV.i (-1)=AV.i (fiI (pFH hs o.hm) hs.length)):=by
   have:(List.map encHm hs).length=hs.length:=by simp only [List.length_map]
   refine ⟨⟨0,⟨by omega,by intros;omega⟩,rfl⟩,fun g ⟨hg,ha⟩=>⟨fun hd=>?_,fun hd=>?_⟩⟩
   · have hlt:g < hs.length:=by have h9:=of_decide_eq_true hd;have h8:=hg;(try simp only [List.length_map] at h8);(try simp only [List.length_map] at h9);omega
     refine ⟨(by omega),(by omega),congrArg AV.agg (row_at encHm hlt),(c139 _ o),fun h1=>?_,fun h1=>⟨(by unfold In64;omega),⟨g+1,⟨by omega,all_ext ha h1⟩,by omega,rfl⟩⟩⟩
     · rw [fiI,fi_some ha h1 hlt,if_neg (by omega)]
   · have hge:g=hs.length:=by have h9:=of_decide_eq_false hd;have h8:=hg;(try simp only [List.length_map] at h8);(try simp only [List.length_map] at h9);omega
     subst hge
     rw [fiI,fi_none ha,if_pos rfl]
 exact c_of Tryz.f138 (fzB (mkB (sp138 o) 138 [(4,4,rdL 3 encHm hs 3 true)] (la0 (la138e hs o)))) (by kernel_rfl) (by kernel_rfl) (by kernel_rfl) (by kernel_rfl) key (by kernel_rfl)
end Go.Proofs.YtfoeefaamjknpaaGreatDoor
namespace Go.Proofs.YtfoeefaamjknpaaGreatDoor
open Go Go.Av Go.RowKit
def flatE (es:List (AV × AV)):List AV:=es.flatMap fun p=>[p.1,p.2]
theorem fe_e:∀ ns:List (List UInt8),flatE (pairsV (flatK ns))=flatK ns
 | []=>rfl
 | s::ns=>by
  show AV.str s::AV.bool true::flatE (pairsV (flatK ns))=_
  rw [fe_e ns]
  rfl
def opE (l:List Zn) (es:List (AV × AV)) (rows:List (List AV)):Bool:=decide (fiI (fun j=>if (!hasK es (.str (decHm (nthR rows j)).nm))=true then elB l (decHm (nthR rows j)) else false) rows.length>=0)
def nmO (o:List Of) (i:Nat):List (List UInt8):=(o.take i).map Of.hm
def atO (hs:List Hm) (o:List Of) (i:Nat):Int:=fhI (hs.map encHm) (o.getD i default).hm
def eO (l:List Zn) (hs:List Hm) (ms:List (List Ms)) (o:List Of) (i:Nat):Int :=
 if decide (atO hs o i < 0)=true then 10 else if hasK (pairsV (flatK (nmO o i))) (.str (o.getD i default).hm)=true then 9 else if (!elB l (hs.getD (atO hs o i).toNat default))=true then 30 else if opR l (nmO o i) ((hs.map encHm).take (atO hs o i).toNat)=true then 11 else if dfX (offV l (hs.getD (atO hs o i).toNat default) (ms.getD (atO hs o i).toNat [])) (o.getD i default)=true then 19 else 0
def coS (l:List Zn) (hs:List Hm) (ms:List (List Ms)) (o:List Of):Int:=sLS (sFirst [chV l hs ms,sWhen (decide ((o.length:Int) > 16)) 5]) (eO l hs ms o) o.length (sWhen (opR l (nmO o o.length) (hs.map encHm)) 32)
def eZ (l:List Zn):AV:=.elt 1 [[.sl 4 (l.map encZn)]] 0 0
def eHs (hs:List Hm):AV:=.elt 1 [[.sl 3 (hs.map encHm)]] 0 0
def eLs (ms:List (List Ms)):AV:=.elt 1 [[.sl 1 (ms.map encLs)]] 0 0
def f130 (l:List Zn):AV:=.fn (.func 130) [] [.ptr 2 0,eZ l]
def tbO (l:List Zn) (hs:List Hm) (ms:List (List Ms)):List AV:=[.i 10,.fn (.func 131) [] [],.i 9,.fn (.func 132) [] [.ptr 2 0],.i 30,.fn (.func 133) [] [eHs hs,eZ l],.i 11,.fn (.func 134) [] [eHs hs,.ptr 1 0],.i 19,.fn (.func 136) [] [eHs hs,eZ l,eLs ms]]
def sp61 (l:List Zn) (hs:List Hm) (ms:List (List Ms)):Nat->List AV->Option AV
 | 128,_=>some (.i (chV l hs ms))
 | 138,[.sl _ rows,.fn _ _ [.elt _ [.str s::_] _ _]]=>some (.i (fhI rows s))
 | 131,[_,.int _ k]=>some (.bool (decide (k < 0)))
 | 133,_::.int _ k::_=>some (.bool (!elB l (hs.getD k.toNat default)))
 | 136,.agg c::.int _ k::_=>some (.bool (dfX (offV l (hs.getD k.toNat default) (ms.getD k.toNat [])) (decOf c)))
 | n,y=>spW n y
def hs61 (l:List Zn) (hs:List Hm):Nat->List AV->List ABlk->Option AV
 | 132,.agg (.str s::_)::_,[_,.map es]=>some (.gv true (.tup [.bool (hasK es (.str s)),.agg [.ref 2],.tup (flatE es)]))
 | 134,_::.int _ k::_,[_,_,.map es]=>some (.gv true (.tup [.bool (opE l es ((hs.map encHm).take k.toNat)),.agg [f130 l],.agg [.ref 3],.tup (flatE es)]))
 | 135,.sl _ rows::_,[_,.map es]=>some (.gv true (.tup [.bool (opE l es rows),.agg [.ref 2],.tup (flatE es)]))
 | _,_,_=>none
def bl61 (l:List Zn) (hs:List Hm) (ms:List (List Ms)) (o:List Of) (i:Nat):BL:=[(1,.box [f130 l]),(2,.box [.ref 3]),(3,.map (pairsV (flatK (nmO o i)))),(4,.box (tbO l hs ms))]
def la61 (l:List Zn) (hs:List Hm) (ms:List (List Ms)) (o:List Of):LA:={
 pre:=[.ren 18 3,.ren 19 2,.ren 22 1,.ren 33 4,.keep [4,5,6,10,11,12,43,44,45] [1,2,3,4],.bound 5],post:=[.keep [4,5,6,10,11,12,43,44,45] [1,2,3,4],.bound 5]
 Gh:=Nat
 st:=fun i=>⟨[(4,eZ l),(5,eHs hs),(6,eLs ms),(10,.ptr 2 0),(11,.ptr 1 0),(12,.bsl 4 5),(43,.sl 4 (o.map encOf)),(44,.i (o.map encOf).length),(45,.i i)],bl61 l hs ms o i,5⟩
 ok:=fun i=>i<=o.length∧∀ j,j < i->eO l hs ms o j=0
 ms:=fun i=>o.length-i }
def k61:List Nat:=[4,5,6,10,11,12,14,15,43,44,45,52,53,54]
def gs61 (i:Nat):List GS:=if i.beq 11 then [.keep k61 [1,2,3,4],.bound 5] else if i.beq 13 then [.ren 8 5,.keep (17::k61) [1,2,3,4,5],.bound 6] else if i.beq 14 then [.keep (62::17::k61) [1,2,3,4,5],.bound 6] else if i.beq 16 then [.keep k61 [1,2,3,4],.bound 5] else []
def ansO (l:List Zn) (hs:List Hm) (ms:List (List Ms)) (o:List Of) (i:Nat):Nat->Bool
 | 0=>decide (atO hs o i < 0)
 | 1=>hasK (pairsV (flatK (nmO o i))) (.str (o.getD i default).hm)
 | 2=>!elB l (hs.getD (atO hs o i).toNat default)
 | 3=>opR l (nmO o i) ((hs.map encHm).take (atO hs o i).toNat)
 | _=>dfX (offV l (hs.getD (atO hs o i).toNat default) (ms.getD (atO hs o i).toNat [])) (o.getD i default)
def cut61 (l:List Zn) (hs:List Hm) (ms:List (List Ms)) (o:List Of) (i:Nat):Option (AS->AS) :=
 if i.beq 14 then some fun S=>match slotF S 45,slotF S 54 with
  | some (.int _ n),some (.int _ j)=>⟨(62,.bool (ansO l hs ms o n.toNat j.toNat))::pickL S.s (17::k61),bl61 l hs ms o n.toNat++[(5,blkOf S.b 5)],6⟩
  | _,_=>S
 else none
theorem eO_a (l:List Zn) (hs:List Hm) (ms:List (List Ms)) (o:List Of) (i:Nat):eO l hs ms o i=if ansO l hs ms o i 0=true then 10 else if ansO l hs ms o i 1=true then 9 else if ansO l hs ms o i 2=true then 30 else if ansO l hs ms o i 3=true then 11 else if ansO l hs ms o i 4=true then 19 else 0:=rfl
theorem fiI_bd (p:Nat->Bool) (n:Nat) : -1<=fiI p n∧fiI p n < n:=by
 have h:=fi_le (p:=p) n
 unfold fiI
 split <;> omega
theorem at_bd (hs:List Hm) (o:List Of) (i:Nat) : -1<=atO hs o i∧atO hs o i < hs.length:=by
 unfold atO
 rw [fh_e]
 exact fiI_bd _ _
theorem mem_at {α:Type} [Inhabited α] {L:List α} {x:α} (h:x ∈ L):∃ i,i < L.length∧L.getD i default=x:=by
 obtain ⟨i,hi,e⟩:=List.getElem_of_mem h
 exact ⟨i,hi,by rw [List.getD_eq_getElem?_getD,List.getElem?_eq_getElem hi,e];rfl⟩
theorem ch_hm {l:List Zn} {hs:List Hm} {ms:List (List Ms)} (hk:ChOK l hs ms):∀ h,h ∈ hs->fHm h=0:=fun h hm=>by
 obtain ⟨i,hi,e⟩:=mem_at hm
 rw [<- e]
 exact fH1_z (hk.h i hi)
theorem c133i {l:List Zn} {hs:List Hm} {o:Of} {k:Int} (hz:fZs l=0) (hb:∀ h,h ∈ hs->fHm h=0) (hh:hs.length<=1000) (h0:0<=k) (h1:k < hs.length):PCall Tryz.prog G0 133 [.agg (encOf o),.i k,eHs hs,eZ l] (.bool (!elB l (hs.getD k.toNat default))):=by
 have e:=c133 l hs o k.toNat hz hb hh (by omega)
 rw [Int.toNat_of_nonneg h0] at e
 exact e
theorem w134i {l:List Zn} {ns:List (List UInt8)} {hs:List Hm} {o:Of} {k:Int} (hz:fZs l=0) (hb:∀ h,h ∈ hs->fHm h=0) (hh:hs.length<=1000) (h0:0<=k) (h1:k < hs.length):WCall Tryz.prog G0 134 [.agg (encOf o),.i k,eHs hs,.ptr 1 0] [.box [f130 l],.box [.ref 3],.map (pairsV (flatK ns))] (.bool (opE l (pairsV (flatK ns)) ((hs.map encHm).take k.toNat))) [.box [f130 l],.box [.ref 3],.map (pairsV (flatK ns))]:=by
 have e:=w134 l ns hs o k.toNat hz hb hh (by omega)
 rw [Int.toNat_of_nonneg h0,List.map_take] at e
 exact e
theorem c136i {l:List Zn} {hs:List Hm} {ms:List (List Ms)} {o:Of} {k:Int} (hk:ChOK l hs ms) (h0:0<=k) (h1:k < hs.length) (he:elB l (hs.getD k.toNat default)=true):PCall Tryz.prog G0 136 [.agg (encOf o),.i k,eHs hs,eZ l,eLs ms] (.bool (dfX (offV l (hs.getD k.toNat default) (ms.getD k.toNat [])) o)):=by
 have e:=c136 l hs ms o k.toNat hk (by omega) he
 rw [Int.toNat_of_nonneg h0] at e
 exact e
abbrev zc61a (hs:List Hm) (o:List Of) (g:Nat):=fhI (List.map encHm hs) (o.getD g default).hm
abbrev zc61b (o:List Of):=(↑(List.map encOf o).length:Int)
abbrev zc61c (o:List Of) (g:Nat):=pairsV (flatK (nmO o g))
abbrev zc61d (o:List Of) (g:Nat):=encOf (o.getD g default)
abbrev zc61e (o:List Of):=sWhen (decide ((zc61b o) > 16)) (5:Int)
theorem c61 (l:List Zn) (hs:List Hm) (ms:List (List Ms)) (o:List Of) (hl:l.length<=1000) (hn:∀ x,x ∈ l->x.nm.length<=1000) (hh:hs.length<=1000) (hb:∀ h,h ∈ hs->h.nm.length<=1000000∧h.ws.length<=1000) (hm0:ms.length<=1000) (hm:∀ x,x ∈ ms->x.length<=1000∧∀ m,m ∈ x->m.nm.length<=1000) (ho:o.length<=1000):PCall Tryz.prog G0 61 [.sl 4 (l.map encZn),.sl 3 (hs.map encHm),.sl 1 (ms.map encLs),.sl 4 (o.map encOf)] (.i (coS l hs ms o)):=by
 have key :
  PCall Tryz.prog G0 128 [AV.sl 4 (List.map encZn l),AV.sl 3 (List.map encHm hs),AV.sl 1 (List.map encLs ms)] (AV.i (chV l hs ms))∧PCall Tryz.prog G0 116 [AV.bool (decide ((zc61b o) > 16)),AV.i 5] (AV.i (zc61e o))∧PCall
  Tryz.prog G0 104 [AV.sl 1 [[AV.i (chV l hs ms)],[AV.i (zc61e o)]]] (AV.i (sFirst [hdI [AV.i (chV l hs ms)],hdI [AV.i (zc61e o)]]))∧((sFirst [hdI [AV.i (chV l hs ms)],hdI [AV.i (zc61e o)]] != 0)=true->AV.i (sFirst [hdI [AV.i
  (chV l hs ms)],hdI [AV.i (zc61e o)]])=AV.i (coS l hs ms o))∧((sFirst [hdI [AV.i (chV l hs ms)],hdI [AV.i (zc61e o)]] != 0)=false->(∃ (g:Nat),(g<=o.length∧∀ (j:Nat),j < g->eO l hs ms o j=(0:Int))∧AS.mk [(4,
  eZ l),(5,eHs hs),(6,eLs ms),(10,AV.ptr 2 0),(11,AV.ptr 1 0),(12,AV.bsl 4 5),(43,AV.sl 4 (List.map encOf o)),(44,AV.i (zc61b o)),(45,AV.i 0)] [(1,ABlk.box [f130 l]),(2,ABlk.box [AV.ref 3]),(3,ABlk.map []),(4,
  ABlk.box (tbO l hs ms))] 5=AS.mk [(4,eZ l),(5,eHs hs),(6,eLs ms),(10,AV.ptr 2 0),(11,AV.ptr 1 0),(12,AV.bsl 4 5),(43,AV.sl 4 (List.map encOf o)),(44,AV.i (zc61b o)),(45,AV.i (g:Int))] [(1,ABlk.box [f130 l]),
  (2,ABlk.box [AV.ref 3]),(3,ABlk.map (zc61c o g)),(4,ABlk.box (tbO l hs ms))] 5)∧∀ (g:Nat),(g<=o.length∧∀ (j:Nat),j < g->eO l hs ms o j=(0:Int))->(decide ((g:Int) < (zc61b o))=true->(0:Int)<=(g:Int)
  ∧ (g:Int) < (zc61b o)∧AV.agg (nthR (List.map encOf o) g)=AV.agg (zc61d o g)∧PCall Tryz.prog G0 138 [AV.sl 3 (List.map encHm hs),AV.fn (Fn.func 139) [] [AV.elt 4 [(zc61d o g)] 0 0]] (AV.i (zc61a hs o g))∧(0:Int)<=0 ∧
  (0:Int) < (5:Int)∧(PCall Tryz.prog G0 131 [AV.agg (zc61d o g),AV.i (zc61a hs o g)] (AV.bool (decide (fhI (List.map encHm hs) (o.getD g default).hm < 0)))∧AS.mk [(62,AV.bool (decide (fhI (List.map encHm hs) (o.getD g
  default).hm < 0))),(17,AV.ptr 5 0),(4,eZ l),(5,eHs hs),(6,eLs ms),(10,AV.ptr 2 0),(11,AV.ptr 1 0),(12,AV.bsl 4 5),(14,AV.elt 4 [(zc61d o g)] 0 0),(15,AV.i (zc61a hs o g)),(43,AV.sl 4 (List.map encOf o)),(44,
  AV.i (zc61b o)),(45,AV.i (g:Int)),(52,AV.bsl 4 5),(53,AV.i (5:Int)),(54,AV.i 0)] [(1,ABlk.box [f130 l]),(2,ABlk.box [AV.ref 3]),(3,ABlk.map (zc61c o g)),(4,ABlk.box (tbO l hs ms)),(5,ABlk.box [AV.i 10,AV.fn
  (Fn.func 131) [] []])] 6=AS.mk [(62,AV.bool (ansO l hs ms o g 0)),(17,AV.ptr 5 0),(4,eZ l),(5,eHs hs),(6,eLs ms),(10,AV.ptr 2 0),(11,AV.ptr 1 0),(12,AV.bsl 4 5),(14,AV.elt 4 [(zc61d o g)] 0 0),(15,AV.i (zc61a
  hs o g)),(43,AV.sl 4 (List.map encOf o)),(44,AV.i (zc61b o)),(45,AV.i (g:Int)),(52,AV.bsl 4 5),(53,AV.i (5:Int)),(54,AV.i 0)] [(1,ABlk.box [f130 l]),(2,ABlk.box [AV.ref 3]),(3,ABlk.map (zc61c o g)),(4,
  ABlk.box (tbO l hs ms)),(5,ABlk.box [AV.i 10,AV.fn (Fn.func 131) [] []])] 6)∧(ansO l hs ms o g 0=true->AV.i 10=AV.i (coS l hs ms o))∧(ansO l hs ms o g 0=false->In64 (1:Int)∧(0:Int)<=1∧(1:Int) < (5:Int)
  ∧ (WCall Tryz.prog G0 132 [AV.agg (zc61d o g),AV.i (zc61a hs o g),AV.ptr 1 0] [ABlk.box [AV.ref 2],ABlk.map (zc61c o g)] (AV.bool (hasK (zc61c o g) (AV.str (o.getD g default).hm))) [ABlk.box [AV.ref 2],ABlk.map (pairsV (flatE
  (zc61c o g)))]∧AS.mk [(62,AV.bool (hasK (zc61c o g) (AV.str (o.getD g default).hm))),(17,AV.ptr 5 0),(4,eZ l),(5,eHs hs),(6,eLs ms),(10,AV.ptr 2 0),(11,AV.ptr 1 0),(12,AV.bsl 4 5),(14,AV.elt 4 [(zc61d o g)] 0 0),
  (15,AV.i (zc61a hs o g)),(43,AV.sl 4 (List.map encOf o)),(44,AV.i (zc61b o)),(45,AV.i (g:Int)),(52,AV.bsl 4 5),(53,AV.i (5:Int)),(54,AV.i (1:Int))] [(1,ABlk.box [f130 l]),(2,ABlk.box [AV.ref 3]),(3,
  ABlk.map (pairsV (flatE (zc61c o g)))),(4,ABlk.box (tbO l hs ms)),(5,ABlk.box [AV.i 9,AV.fn (Fn.func 132) [] [AV.ptr 2 0]])] 6=AS.mk [(62,AV.bool (ansO l hs ms o g 1)),(17,AV.ptr 5 0),(4,eZ l),(5,eHs hs),(6,eLs ms),
  (10,AV.ptr 2 0),(11,AV.ptr 1 0),(12,AV.bsl 4 5),(14,AV.elt 4 [(zc61d o g)] 0 0),(15,AV.i (zc61a hs o g)),(43,AV.sl 4 (List.map encOf o)),(44,AV.i (zc61b o)),(45,AV.i (g:Int)),(52,AV.bsl 4 5),(53,AV.i (↑5 :
  Int)),(54,AV.i (1:Int))] [(1,ABlk.box [f130 l]),(2,ABlk.box [AV.ref 3]),(3,ABlk.map (zc61c o g)),(4,ABlk.box (tbO l hs ms)),(5,ABlk.box [AV.i 9,AV.fn (Fn.func 132) [] [AV.ptr 2 0]])] 6)∧(ansO l hs ms o g 1=true →
  AV.i 9=AV.i (coS l hs ms o))∧(ansO l hs ms o g 1=false->In64 (2:Int)∧(0:Int)<=2∧(2:Int) < (5:Int)∧(PCall Tryz.prog G0 133 [AV.agg (zc61d o g),AV.i (zc61a hs o g),eHs hs,eZ l] (AV.bool !elB l (hs.getD
  (zc61a hs o g).toNat default))∧AS.mk [(62,AV.bool !elB l (hs.getD (zc61a hs o g).toNat default)),(17,AV.ptr 5 0),(4,eZ l),(5,eHs hs),(6,eLs ms),(10,AV.ptr 2 0),(11,AV.ptr 1 0),(12,AV.bsl 4 5),(14,AV.elt 4 [(zc61d
  o g)] 0 0),(15,AV.i (zc61a hs o g)),(43,AV.sl 4 (List.map encOf o)),(44,AV.i (zc61b o)),(45,AV.i (g:Int)),(52,AV.bsl 4 5),(53,AV.i (5:Int)),(54,AV.i (2:Int))] [(1,ABlk.box [f130 l]),(2,ABlk.box [AV.ref 3]),
  (3,ABlk.map (zc61c o g)),(4,ABlk.box (tbO l hs ms)),(5,ABlk.box [AV.i 30,AV.fn (Fn.func 133) [] [eHs hs,eZ l]])] 6=AS.mk [(62,AV.bool (ansO l hs ms o g 2)),(17,AV.ptr 5 0),(4,eZ l),(5,eHs hs),(6,eLs ms),(10,
  AV.ptr 2 0),(11,AV.ptr 1 0),(12,AV.bsl 4 5),(14,AV.elt 4 [(zc61d o g)] 0 0),(15,AV.i (zc61a hs o g)),(43,AV.sl 4 (List.map encOf o)),(44,AV.i (zc61b o)),(45,AV.i (g:Int)),(52,AV.bsl 4 5),(53,AV.i (5:Int)),
  (54,AV.i (2:Int))] [(1,ABlk.box [f130 l]),(2,ABlk.box [AV.ref 3]),(3,ABlk.map (zc61c o g)),(4,ABlk.box (tbO l hs ms)),(5,ABlk.box [AV.i 30,AV.fn (Fn.func 133) [] [eHs hs,eZ l]])] 6)∧(ansO l hs ms o g 2=true->AV.i
  30=AV.i (coS l hs ms o))∧(ansO l hs ms o g 2=false->In64 (3:Int)∧(0:Int)<=3∧(3:Int) < (5:Int)∧(WCall Tryz.prog G0 134 [AV.agg (zc61d o g),AV.i (zc61a hs o g),eHs hs,AV.ptr 1 0] [ABlk.box [f130 l],ABlk.box
  [AV.ref 3],ABlk.map (zc61c o g)] (AV.bool (opE l (zc61c o g) (List.take (zc61a hs o g).toNat (List.map encHm hs)))) [ABlk.box [f130 l],ABlk.box [AV.ref 3],ABlk.map (pairsV (flatE (zc61c o g)))]∧AS.mk [(62,AV.bool (opE l
  (zc61c o g) (List.take (zc61a hs o g).toNat (List.map encHm hs)))),(17,AV.ptr 5 0),(4,eZ l),(5,eHs hs),(6,eLs ms),(10,AV.ptr 2 0),(11,AV.ptr 1 0),(12,AV.bsl 4 5),(14,AV.elt 4 [(zc61d o g)] 0 0),(15,AV.i (zc61a hs
  o g)),(43,AV.sl 4 (List.map encOf o)),(44,AV.i (zc61b o)),(45,AV.i (g:Int)),(52,AV.bsl 4 5),(53,AV.i (5:Int)),(54,AV.i (3:Int))] [(1,ABlk.box [f130 l]),(2,ABlk.box [AV.ref 3]),(3,ABlk.map (pairsV (flatE
  (zc61c o g)))),(4,ABlk.box (tbO l hs ms)),(5,ABlk.box [AV.i 11,AV.fn (Fn.func 134) [] [eHs hs,AV.ptr 1 0]])] 6=AS.mk [(62,AV.bool (ansO l hs ms o g 3)),(17,AV.ptr 5 0),(4,eZ l),(5,eHs hs),(6,eLs ms),(10,AV.ptr 2
  0),(11,AV.ptr 1 0),(12,AV.bsl 4 5),(14,AV.elt 4 [(zc61d o g)] 0 0),(15,AV.i (zc61a hs o g)),(43,AV.sl 4 (List.map encOf o)),(44,AV.i (zc61b o)),(45,AV.i (g:Int)),(52,AV.bsl 4 5),(53,AV.i (5:Int)),(54,AV.i
  (3:Int))] [(1,ABlk.box [f130 l]),(2,ABlk.box [AV.ref 3]),(3,ABlk.map (zc61c o g)),(4,ABlk.box (tbO l hs ms)),(5,ABlk.box [AV.i 11,AV.fn (Fn.func 134) [] [eHs hs,AV.ptr 1 0]])] 6)∧(ansO l hs ms o g 3=true->AV.i 11
  = AV.i (coS l hs ms o))∧(ansO l hs ms o g 3=false->In64 (4:Int)∧(0:Int)<=4∧(4:Int) < (5:Int)∧(PCall Tryz.prog G0 136 [AV.agg (zc61d o g),AV.i (zc61a hs o g),eHs hs,eZ l,eLs ms] (AV.bool (dfX (offV l
  (hs.getD (zc61a hs o g).toNat default) (ms.getD (zc61a hs o g).toNat [])) (decOf (zc61d o g))))∧AS.mk [(62,AV.bool (dfX (offV l (hs.getD (zc61a hs o g).toNat default) (ms.getD (zc61a hs o g).toNat [])) (decOf (zc61d o g)))),
  (17,AV.ptr 5 0),(4,eZ l),(5,eHs hs),(6,eLs ms),(10,AV.ptr 2 0),(11,AV.ptr 1 0),(12,AV.bsl 4 5),(14,AV.elt 4 [(zc61d o g)] 0 0),(15,AV.i (zc61a hs o g)),(43,AV.sl 4 (List.map encOf o)),(44,AV.i (zc61b o)),(45,
  AV.i (g:Int)),(52,AV.bsl 4 5),(53,AV.i (5:Int)),(54,AV.i (4:Int))] [(1,ABlk.box [f130 l]),(2,ABlk.box [AV.ref 3]),(3,ABlk.map (zc61c o g)),(4,ABlk.box (tbO l hs ms)),(5,ABlk.box [AV.i 19,AV.fn (Fn.func 136)
  [] [eHs hs,eZ l,eLs ms]])] 6=AS.mk [(62,AV.bool (ansO l hs ms o g 4)),(17,AV.ptr 5 0),(4,eZ l),(5,eHs hs),(6,eLs ms),(10,AV.ptr 2 0),(11,AV.ptr 1 0),(12,AV.bsl 4 5),(14,AV.elt 4 [(zc61d o g)] 0 0),(15,AV.i
  (zc61a hs o g)),(43,AV.sl 4 (List.map encOf o)),(44,AV.i (zc61b o)),(45,AV.i (g:Int)),(52,AV.bsl 4 5),(53,AV.i (5:Int)),(54,AV.i (4:Int))] [(1,ABlk.box [f130 l]),(2,ABlk.box [AV.ref 3]),(3,ABlk.map (zc61c o
  g)),(4,ABlk.box (tbO l hs ms)),(5,ABlk.box [AV.i 19,AV.fn (Fn.func 136) [] [eHs hs,eZ l,eLs ms]])] 6)∧(ansO l hs ms o g 4=true->AV.i 19=AV.i (coS l hs ms o))∧(ansO l hs ms o g 4=false->In64 (5:Int)∧(mput
  (AV.str (o.getD g default).hm) (AV.bool true) (zc61c o g)).isSome=true∧In64 ((g:Int)+1)∧∃ (g':Nat),(g'<=o.length∧∀ (j:Nat),j < g'->eO l hs ms o j=(0:Int))∧o.length-g' < o.length-g∧AS.mk [(4,eZ l),
  (5,eHs hs),(6,eLs ms),(10,AV.ptr 2 0),(11,AV.ptr 1 0),(12,AV.bsl 4 5),(43,AV.sl 4 (List.map encOf o)),(44,AV.i (zc61b o)),(45,AV.i ((g:Int)+1))] [(1,ABlk.box [f130 l]),(2,ABlk.box [AV.ref 3]),(3,ABlk.map
  ((mput (AV.str (o.getD g default).hm) (AV.bool true) (zc61c o g)).getD [])),(4,ABlk.box (tbO l hs ms))] 5=AS.mk [(4,eZ l),(5,eHs hs),(6,eLs ms),(10,AV.ptr 2 0),(11,AV.ptr 1 0),(12,AV.bsl 4 5),(43,AV.sl 4 (List.map
  encOf o)),(44,AV.i (zc61b o)),(45,AV.i (↑g':Int))] [(1,ABlk.box [f130 l]),(2,ABlk.box [AV.ref 3]),(3,ABlk.map (pairsV (flatK (nmO o g')))),(4,ABlk.box (tbO l hs ms))] 5))))))∧(decide ((g:Int) < (zc61b o))=false
  → WCall Tryz.prog G0 135 [AV.sl 3 (List.map encHm hs),AV.fn (Fn.func 130) [] [AV.ptr 1 0,eZ l]] [ABlk.box [AV.ref 2],ABlk.map (zc61c o g)] (AV.bool (opE l (zc61c o g) (List.map encHm hs))) [ABlk.box [AV.ref 2],ABlk.map (pairsV
  (flatE (zc61c o g)))]∧PCall Tryz.prog G0 116 [AV.bool (opE l (zc61c o g) (List.map encHm hs)),AV.i 32] (AV.i (sWhen (opE l (zc61c o g) (List.map encHm hs)) (32:Int)))∧AV.i (sWhen (opE l (zc61c o g) (List.map encHm hs)) (32 :
  Int))=AV.i (coS l hs ms o))):=by
   delta zc61a zc61b zc61c zc61d zc61e
   have:(List.map encOf o).length=o.length:=by simp only [List.length_map]
   refine ⟨(c128 l hs ms hl hn hh hb hm0 hm),(c116 _ _),(c104 [_,_] (by simp)),fun h1=>?_,fun h1=>?_⟩
   · have q:=h1
     rw [List.length_map] at q ⊢
     exact congrArg AV.i (ls_first (f:=eO l hs ms o) (c:=sFirst [chV l hs ms,sWhen (decide ((o.length:Int) > 16)) 5]) q).symm
   · have hz:(sFirst [chV l hs ms,sWhen (decide ((o.length:Int) > 16)) 5] != 0)=false:=by have q:=h1;rw [List.length_map] at q;exact q
     have hk:ChOK l hs ms:=ch_ok (by have q:=bne_f hz;rw [first_zero] at q;exact q.1)
     have hfz:=ch_hm hk
     refine ⟨⟨0,⟨by omega,by intros;omega⟩,rfl⟩,fun g ⟨hg,ha⟩=>⟨fun hd=>?_,fun hd=>?_⟩⟩
     · have hlt:g < o.length:=by have h9:=of_decide_eq_true hd;have h8:=hg;(try simp only [List.length_map] at h8);(try simp only [List.length_map] at h9);omega
       have hb1:=at_bd hs o g
       refine ⟨(by omega),(by omega),congrArg AV.agg (row_at encOf hlt),((by rw [fh_e];exact c138e hs _ hh)),(by omega),(by omega),⟨(c131 _ _),rfl⟩,fun h2=>?_,fun h2=>?_⟩
       · have e:eO l hs ms o g=10:=by rw [eO_a,if_pos h2]
         exact congrArg AV.i ((ls_hit (f:=eO l hs ms o) hz (decide_eq_true (show (g:Int) < o.length by omega)) ha (by rw [e];rfl)).trans e).symm
       · have hp:0<=atO hs o g:=by have q:decide (atO hs o g < 0)=false:=h2;have:=of_decide_eq_false q;omega
         refine ⟨(by unfold In64;omega),(by omega),(by omega),⟨(by rw [fe_e];exact w132 _ _ _),(by rw [fe_e];rfl)⟩,fun h3=>?_,fun h3=>?_⟩
         · have e:eO l hs ms o g=9:=by rw [eO_a,if_neg (by rw [h2];decide),if_pos h3]
           exact congrArg AV.i ((ls_hit (f:=eO l hs ms o) hz (decide_eq_true (show (g:Int) < o.length by omega)) ha (by rw [e];rfl)).trans e).symm
         · have hgh:hasK (knS (nmO o g)) (.str (o.getD g default).hm)=false:=by rw [<- pk_e];exact h3
           refine ⟨(by unfold In64;omega),(by omega),(by omega),⟨(c133i hk.z hfz hh hp hb1.2),rfl⟩,fun h4=>?_,fun h4=>?_⟩
           · have e:eO l hs ms o g=30:=by rw [eO_a,if_neg (by rw [h2];decide),if_neg (by rw [h3];decide),if_pos h4]
             exact congrArg AV.i ((ls_hit (f:=eO l hs ms o) hz (decide_eq_true (show (g:Int) < o.length by omega)) ha (by rw [e];rfl)).trans e).symm
           · have he:elB l (hs.getD (atO hs o g).toNat default)=true:=by have q:(!elB l (hs.getD (atO hs o g).toNat default))=false:=h4;simpa using q
             refine ⟨(by unfold In64;omega),(by omega),(by omega),⟨(by rw [fe_e];exact w134i hk.z hfz hh hp hb1.2),(by rw [fe_e];rfl)⟩,fun h5=>?_,fun h5=>⟨(by unfold In64;omega),(by omega),(by omega),⟨((by rw [decOf_e];exact c136i hk hp hb1.2 he)),(by rw [decOf_e];rfl)⟩,fun h6=>?_,fun h6=>⟨(by unfold In64;omega),?_,(by unfold In64;omega),⟨g+1,⟨by omega,all_ext ha (by rw [eO_a,if_neg (by rw [h2];decide),if_neg (by rw [h3];decide),if_neg (by rw [h4];decide),if_neg (by rw [h5];decide),if_neg (by rw [h6];decide)])⟩,by omega,?_⟩⟩⟩⟩
             · have e:eO l hs ms o g=11:=by rw [eO_a,if_neg (by rw [h2];decide),if_neg (by rw [h3];decide),if_neg (by rw [h4];decide),if_pos h5]
               exact congrArg AV.i ((ls_hit (f:=eO l hs ms o) hz (decide_eq_true (show (g:Int) < o.length by omega)) ha (by rw [e];rfl)).trans e).symm
             · have e:eO l hs ms o g=19:=by rw [eO_a,if_neg (by rw [h2];decide),if_neg (by rw [h3];decide),if_neg (by rw [h4];decide),if_neg (by rw [h5];decide),if_pos h6]
               exact congrArg AV.i ((ls_hit (f:=eO l hs ms o) hz (decide_eq_true (show (g:Int) < o.length by omega)) ha (by rw [e];rfl)).trans e).symm
             · rw [pk_e,put_nm hgh]
               rfl
             · rw [pk_e,put_nm hgh,pk_e,show nmO o (g+1)=nmO o g++[(o.getD g default).hm] from take_nm Of.hm hlt]
               rfl
     · have hge:g=o.length:=by have h9:=of_decide_eq_false hd;have h8:=hg;(try simp only [List.length_map] at h8);(try simp only [List.length_map] at h9);omega
       subst hge
       refine ⟨(by rw [fe_e];exact w135 l _ hs hk.z hfz hh),(c116 _ _),?_⟩
       · exact congrArg AV.i (ls_end (f:=eO l hs ms o) hz (decide_eq_false (Int.lt_irrefl _)) (Nat.le_refl _) ha).symm
 exact c_of Tryz.f61 ({ gsB gs61 (fzB (mkB (sp61 l hs ms) 61 [(9,1,rdL 4 encOf o 4 true)] (la0 (la61 l hs ms o)))) with hs:=hs61 l hs,cl:=clL [55],cut:=cut61 l hs ms o }) (by kernel_rfl) (by kernel_rfl) (by kernel_rfl) (by kernel_rfl) key (by kernel_rfl)
end Go.Proofs.YtfoeefaamjknpaaGreatDoor
namespace Go.Proofs.YtfoeefaamjknpaaGreatDoor
open Go Go.Av Go.RowKit
def elJ (l:List Zn) (hs:List Hm) (k:Nat):Bool:=elB l (hs.getD k default)
def cnJ (l:List Zn) (hs:List Hm) (ms:List (List Ms)) (k:Nat):Nat:=(ofN l hs ms k).length
theorem cn_t {l:List Zn} {hs:List Hm} {ms:List (List Ms)} {k:Nat} (h:elJ l hs k=true):cnJ l hs ms (k+1)=cnJ l hs ms k+1:=by
 unfold cnJ
 rw [show ofN l hs ms (k+1)=ofN l hs ms k++[offV l (hs.getD k default) (ms.getD k [])] from if_pos h,List.length_append]
 rfl
theorem cn_f {l:List Zn} {hs:List Hm} {ms:List (List Ms)} {k:Nat} (h:elJ l hs k=false):cnJ l hs ms (k+1)=cnJ l hs ms k:=by
 unfold cnJ
 rw [show ofN l hs ms (k+1)=ofN l hs ms k from if_neg (by unfold elJ at h;rw [h];decide)]
theorem cn_up (l:List Zn) (hs:List Hm) (ms:List (List Ms)) (k:Nat):∀ d,cnJ l hs ms k<=cnJ l hs ms (k+d)
 | 0=>Nat.le_refl _
 | d+1=>by
  have h:=cn_up l hs ms k d
  cases e:elJ l hs (k+d) with
  | true=>have:=cn_t (ms:=ms) e;rw [<- Nat.add_assoc];omega
  | false=>have:=cn_f (ms:=ms) e;rw [<- Nat.add_assoc];omega
theorem cn_le {l:List Zn} {hs:List Hm} {ms:List (List Ms)} {k m:Nat} (h:k<=m):cnJ l hs ms k<=cnJ l hs ms m:=by
 obtain ⟨d,rfl⟩:=Nat.exists_eq_add_of_le h
 exact cn_up l hs ms k d
theorem cn_lt {l:List Zn} {hs:List Hm} {ms:List (List Ms)} {k m:Nat} (h:k < m) (e:elJ l hs k=true):cnJ l hs ms k < cnJ l hs ms m:=by
 have h1:=cn_t (ms:=ms) e
 have h2:=cn_le (l:=l) (hs:=hs) (ms:=ms) (show k+1<=m from h)
 omega
theorem cn_inj {l:List Zn} {hs:List Hm} {ms:List (List Ms)} {a b:Nat} (ha:elJ l hs a=true) (hb:elJ l hs b=true) (h:cnJ l hs ms a=cnJ l hs ms b):a=b:=by
 rcases Nat.lt_trichotomy a b with q | q | q
 · have:=cn_lt (ms:=ms) q ha;omega
 · exact q
 · have:=cn_lt (ms:=ms) q hb;omega
theorem cn_ex {l:List Zn} {hs:List Hm} {ms:List (List Ms)} {j:Nat}:∀ {m:Nat},j < cnJ l hs ms m->∃ k,k < m∧elJ l hs k=true∧cnJ l hs ms k=j
 | 0,h=>absurd h (Nat.not_lt_zero j)
 | m+1,h=>by
  cases e:elJ l hs m with
  | true =>
   rw [cn_t e] at h
   by_cases q:j < cnJ l hs ms m
   · obtain ⟨k,h1,h2,h3⟩:=cn_ex q
     exact ⟨k,Nat.lt_succ_of_lt h1,h2,h3⟩
   · exact ⟨m,Nat.lt_succ_self m,e,by omega⟩
  | false =>
   rw [cn_f e] at h
   obtain ⟨k,h1,h2,h3⟩:=cn_ex h
   exact ⟨k,Nat.lt_succ_of_lt h1,h2,h3⟩
theorem of_at {l:List Zn} {hs:List Hm} {ms:List (List Ms)} {k:Nat} (e:elJ l hs k=true):∀ {m:Nat},k < m->(ofN l hs ms m).getD (cnJ l hs ms k) default=offV l (hs.getD k default) (ms.getD k [])
 | 0,h=>absurd h (Nat.not_lt_zero k)
 | m+1,h=>by
  by_cases q:k=m
  · rw [<- q,show ofN l hs ms (k+1)=ofN l hs ms k++[offV l (hs.getD k default) (ms.getD k [])] from if_pos e,List.getD_eq_getElem?_getD]
    unfold cnJ
    rw [List.getElem?_append_right (Nat.le_refl _),Nat.sub_self]
    rfl
  · have h1:=of_at (ms:=ms) e (show k < m by omega)
    have h2:=cn_lt (ms:=ms) (show k < m by omega) e
    cases e2:elJ l hs m with
    | true =>
     rw [show ofN l hs ms (m+1)=ofN l hs ms m++[offV l (hs.getD m default) (ms.getD m [])] from if_pos e2,List.getD_eq_getElem?_getD,List.getElem?_append_left h2,<- List.getD_eq_getElem?_getD]
     exact h1
    | false =>
     rw [show ofN l hs ms (m+1)=ofN l hs ms m from if_neg (by unfold elJ at e2;rw [e2];decide)]
     exact h1
theorem gv_iff {o:List Of} {i:Nat} {s:List UInt8} (hi:i<=o.length):hasK (pairsV (flatK (nmO o i))) (.str s)=true ↔ ∃ j,j < i∧(o.getD j default).hm=s:=by
 have ht:∀ j,j < i->(o.take i).getD j default=o.getD j default:=fun j hj=>by simp [List.getD_eq_getElem?_getD,List.getElem?_take,hj]
 have hl:(o.take i).length=i:=by rw [List.length_take];omega
 rw [pk_e]
 unfold knS
 rw [has_map (fun s=>s),List.any_eq_true]
 constructor
 · rintro ⟨x,hx,e⟩
   obtain ⟨y,hy,rfl⟩:=List.mem_map.1 hx
   obtain ⟨j,hj,q⟩:=mem_at hy
   rw [hl] at hj
   rw [ht j hj] at q
   exact ⟨j,hj,by rw [q];exact eq_of_beq e⟩
 · rintro ⟨j,hj,e⟩
   refine ⟨s,List.mem_map.2 ⟨o.getD j default,?_,e⟩,beq_self_eq_true _⟩
   rw [<- ht j hj]
   exact getD_mem (by omega)
theorem op_iff {l:List Zn} {hs:List Hm} {o:List Of} {i m:Nat} (hi:i<=o.length) (hm:m<=hs.length):opR l (nmO o i) ((hs.map encHm).take m)=true ↔ ∃ k,k < m∧elJ l hs k=true∧∀ j,j < i->(o.getD j default).hm ≠ (hs.getD k default).nm:=by
 have hl:((hs.map encHm).take m).length=m:=by rw [List.length_take,List.length_map];omega
 have hr:∀ k,k < m->nthR ((hs.map encHm).take m) k=encHm (hs.getD k default):=fun k hk=>by
  rw [<- List.map_take,row_at encHm (by rw [List.length_take];omega)]
  simp [List.getD_eq_getElem?_getD,List.getElem?_take,hk]
 have hj:∀ k,k < m->(opJ l (nmO o i) ((hs.map encHm).take m) k=true ↔ elJ l hs k=true∧∀ j,j < i->(o.getD j default).hm ≠ (hs.getD k default).nm):=fun k hk=>by
  unfold opJ opB
  rw [hr k hk,decHm_e]
  cases e:hasK (pairsV (flatK (nmO o i))) (.str (hs.getD k default).nm) with
  | true =>
   obtain ⟨j,h1,h2⟩:=(gv_iff hi).1 e
   exact ⟨fun q=>(by cases q),fun q=>absurd h2 (q.2 j h1)⟩
  | false =>
   refine ⟨fun q=>⟨q,fun j h1 h2=>?_⟩,fun q=>q.1⟩
   rw [(gv_iff hi).2 ⟨j,h1,h2⟩] at e
   cases e
 unfold opR
 rw [fiI_dec,hl,decide_eq_true_eq]
 constructor
 · intro h
   exact ⟨_,h,(hj _ h).1 (fi_hit h)⟩
 · rintro ⟨k,h1,h2⟩
   exact fi_ex h1 ((hj k h1).2 h2)
theorem nm_inj {hs:List Hm} (h:∀ i,i < hs.length->fH1 hs i=0) {a b:Nat} (ha:a < hs.length) (hb:b < hs.length) (e:(hs.getD a default).nm=(hs.getD b default).nm):a=b:=by
 have key:∀ a b:Nat,a < b->b < hs.length->(hs.getD a default).nm ≠ (hs.getD b default).nm:=fun a b hab hb e=>by
  have h1:=fH1_h (h b hb)
  unfold knS at h1
  rw [has_map (fun s=>s)] at h1
  have ht:(hs.take b).getD a default=hs.getD a default:=by simp [List.getD_eq_getElem?_getD,List.getElem?_take,hab]
  have h2:(hs.getD a default).nm ∈ (hs.take b).map Hm.nm:=List.mem_map.2 ⟨hs.getD a default,by rw [<- ht];exact getD_mem (by rw [List.length_take];omega),rfl⟩
  have h3:=List.any_eq_false.1 h1 _ h2
  exact h3 (by rw [e];exact beq_self_eq_true _)
 rcases Nat.lt_trichotomy a b with q | q | q
 · exact absurd e (key a b q hb)
 · exact q
 · exact absurd e.symm (key b a q ha)
theorem at_nm {hs:List Hm} {o:List Of} {i:Nat} (h:0<=atO hs o i):(atO hs o i).toNat < hs.length∧(hs.getD (atO hs o i).toNat default).nm=(o.getD i default).hm:=by
 have h1:=at_bd hs o i
 have e:atO hs o i=fiI (pFH hs (o.getD i default).hm) hs.length:=fh_e hs _
 rw [e] at h h1 ⊢
 unfold fiI at h h1 ⊢
 by_cases q:fiN (pFH hs (o.getD i default).hm) hs.length=hs.length
 · rw [if_pos q] at h
   omega
 · rw [if_neg q] at h1 ⊢
   rw [Int.toNat_natCast]
   have h2:=fi_le (p:=pFH hs (o.getD i default).hm) hs.length
   exact ⟨by omega,eq_of_beq (fi_hit (p:=pFH hs (o.getD i default).hm) (by omega))⟩
def pD (o:List Of) (i j:Nat):Bool:=(o.getD j default).hm == (o.getD i default).hm
def dupO (o:List Of) (i:Nat):Bool:=decide (fiN (pD o i) i < i)
theorem dup_iff {o:List Of} {i:Nat}:dupO o i=true ↔ ∃ j,j < i∧(o.getD j default).hm=(o.getD i default).hm:=by
 unfold dupO
 rw [decide_eq_true_eq]
 exact ⟨fun h=>⟨_,h,eq_of_beq (fi_hit h)⟩,fun ⟨j,h1,h2⟩=>fi_ex h1 (by unfold pD;rw [h2];exact beq_self_eq_true _)⟩
def eR (l:List Zn) (hs:List Hm) (ms:List (List Ms)) (o:List Of) (i:Nat):Int :=
 if decide (atO hs o i < 0)=true then 10 else if dupO o i=true then 9 else if (!elB l (hs.getD (atO hs o i).toNat default))=true then 30 else if (!(((ofN l hs ms hs.length).getD i default).hm == (o.getD i default).hm))=true then 11 else if (!sameO ((ofN l hs ms hs.length).getD i default) (o.getD i default))=true then 19 else 0
def coR (l:List Zn) (hs:List Hm) (ms:List (List Ms)) (o:List Of):Int:=if decide ((o.length:Int) > 16)=true then 5 else sLS 0 (eR l hs ms o) o.length (sWhen (decide ((o.length:Int) < ((ofN l hs ms hs.length).length:Int))) 32)
def GO (l:List Zn) (hs:List Hm) (ms:List (List Ms)) (o:List Of) (i:Nat):Prop:=∀ j,j < i->0<=atO hs o j∧elJ l hs (atO hs o j).toNat=true∧cnJ l hs ms (atO hs o j).toNat=j
section
variable {l : List Zn} {hs : List Hm} {ms : List (List Ms)} {o : List Of} {i : Nat}
theorem GO.ge (hk:ChOK l hs ms) (G:GO l hs ms o i) {k:Nat} (hkn:k < hs.length) (he:elJ l hs k=true) (hd:∀ j,j < i->(o.getD j default).hm ≠ (hs.getD k default).nm):i<=cnJ l hs ms k:=by
 refine Classical.byContradiction fun q=>?_
 obtain ⟨g1,g2,g3⟩:=G (cnJ l hs ms k) (by omega)
 have e:=cn_inj g2 he g3
 have h2:=(at_nm g1).2
 rw [e] at h2
 exact hd _ (by omega) h2.symm
theorem GO.lt (hk:ChOK l hs ms) (G:GO l hs ms o i) (ha:0<=atO hs o i) (hd:dupO o i=false) (he:elJ l hs (atO hs o i).toNat=true):i<=cnJ l hs ms (atO hs o i).toNat∧i < (ofN l hs ms hs.length).length:=by
 obtain ⟨h1,h2⟩:=at_nm ha
 have h3:i<=cnJ l hs ms (atO hs o i).toNat:=G.ge hk h1 he fun j hj e=>by
  rw [h2] at e
  rw [dup_iff.2 ⟨j,hj,e⟩] at hd
  cases hd
 have h4:=cn_lt (ms:=ms) h1 he
 exact ⟨h3,by unfold cnJ at h3 h4;omega⟩
theorem GO.nm (hk:ChOK l hs ms) (G:GO l hs ms o i) (ha:0<=atO hs o i) (hd:dupO o i=false) (he:elJ l hs (atO hs o i).toNat=true):((ofN l hs ms hs.length).getD i default).hm=(o.getD i default).hm ↔ cnJ l hs ms (atO hs o i).toNat=i:=by
 obtain ⟨h1,h2⟩:=at_nm ha
 obtain ⟨h3,h4⟩:=G.lt hk ha hd he
 obtain ⟨k,k1,k2,k3⟩:=cn_ex h4
 have e:=of_at (ms:=ms) k2 k1
 rw [k3] at e
 rw [e,<- h2]
 constructor
 · intro q
   have:=nm_inj hk.h k1 h1 q
   rw [<- this]
   exact k3
 · intro q
   rw [cn_inj k2 he (k3.trans q.symm)]
   rfl
theorem GO.op (hk:ChOK l hs ms) (hi:i<=o.length) (G:GO l hs ms o i) (ha:0<=atO hs o i) (hd:dupO o i=false) (he:elJ l hs (atO hs o i).toNat=true):opR l (nmO o i) ((hs.map encHm).take (atO hs o i).toNat)=!(((ofN l hs ms hs.length).getD i default).hm == (o.getD i default).hm):=by
 obtain ⟨h1,h2⟩:=at_nm ha
 obtain ⟨h3,h4⟩:=G.lt hk ha hd he
 have hn:=G.nm hk ha hd he
 rw [Bool.eq_iff_iff,op_iff hi (Nat.le_of_lt h1),Bool.not_eq_true',beq_eq_false_iff_ne,Ne,hn]
 constructor
 · rintro ⟨k,k1,k2,k3⟩ e
   have a1:=G.ge hk (show k < hs.length by omega) k2 k3
   have a2:=cn_lt (ms:=ms) k1 k2
   omega
 · intro q
   obtain ⟨k,k1,k2,k3⟩:=cn_ex (show i < cnJ l hs ms (atO hs o i).toNat by omega)
   refine ⟨k,k1,k2,fun j hj e=>?_⟩
   obtain ⟨g1,g2,g3⟩:=G j hj
   obtain ⟨g4,g5⟩:=at_nm g1
   have:=nm_inj hk.h g4 (show k < hs.length by omega) (g5.trans e)
   rw [this] at g3
   omega
theorem same_df {x y:Of} (h:x.hm=y.hm):dfX x y=!sameO x y:=by
 unfold dfX sameO
 rw [h,beq_self_eq_true,if_pos rfl]
 by_cases h1:x.zn=y.zn
 · by_cases h2:x.a=y.a
   · simp [h1,h2]
   · simp [h1,h2]
 · simp [h1]
theorem GO.eq (hk:ChOK l hs ms) (hi:i<=o.length) (G:GO l hs ms o i):eO l hs ms o i=eR l hs ms o i:=by
 have e2:hasK (pairsV (flatK (nmO o i))) (.str (o.getD i default).hm)=dupO o i:=by
  rw [Bool.eq_iff_iff,gv_iff hi,dup_iff]
 unfold eO eR
 rw [e2]
 by_cases ha:atO hs o i < 0
 · rw [if_pos (decide_eq_true ha),if_pos (decide_eq_true ha)]
 · have ha2:decide (atO hs o i < 0)=false:=decide_eq_false ha
   cases hd:dupO o i with
   | true=>simp only [ha2,Bool.false_eq_true,reduceIte]
   | false =>
    cases he:elB l (hs.getD (atO hs o i).toNat default) with
    | false=>simp only [ha2,Bool.not_false,Bool.false_eq_true,reduceIte]
    | true =>
     have h1:=G.op hk hi (by omega) hd he
     rw [h1]
     cases hr:(((ofN l hs ms hs.length).getD i default).hm == (o.getD i default).hm) with
     | false=>simp only [ha2,Bool.not_true,Bool.not_false,Bool.false_eq_true,reduceIte]
     | true =>
      have h2:((ofN l hs ms hs.length).getD i default).hm=(o.getD i default).hm:=eq_of_beq hr
      have h3:=(G.nm hk (by omega) hd he).1 h2
      have h4:=of_at (ms:=ms) (show elJ l hs (atO hs o i).toNat=true from he) (at_nm (show 0<=atO hs o i by omega)).1
      rw [h3] at h4
      simp only [ha2,Bool.not_true,Bool.false_eq_true,reduceIte]
      rw [<- h4,same_df h2]
theorem GO.next (hk:ChOK l hs ms) (G:GO l hs ms o i) (e:eR l hs ms o i=0):GO l hs ms o (i+1):=by
 intro j hj
 by_cases q:j=i
 · subst q
   unfold eR at e
   by_cases ha:atO hs o j < 0
   · rw [if_pos (decide_eq_true ha)] at e
     cases e
   · rw [if_neg (by simpa using ha)] at e
     cases hd:dupO o j with
     | true=>rw [hd] at e;cases e
     | false =>
      rw [hd,if_neg (by decide)] at e
      cases he:elB l (hs.getD (atO hs o j).toNat default) with
      | false=>rw [he] at e;cases e
      | true =>
       rw [he,if_neg (by decide)] at e
       cases hr:(((ofN l hs ms hs.length).getD j default).hm == (o.getD j default).hm) with
       | false=>rw [hr] at e;cases e
       | true=>exact ⟨by omega,he,(G.nm hk (by omega) hd he).1 (eq_of_beq hr)⟩
 · exact G j (by omega)
theorem GO.all (hk:ChOK l hs ms):∀ {i:Nat},(∀ j,j < i->eR l hs ms o j=0)->GO l hs ms o i
 | 0,_=>fun j hj=>absurd hj (Nat.not_lt_zero j)
 | i+1,h=>GO.next hk (GO.all hk fun j hj=>h j (by omega)) (h i (by omega))
theorem GO.end (hk:ChOK l hs ms) (G:GO l hs ms o o.length):opR l (nmO o o.length) (hs.map encHm)=decide ((o.length:Int) < ((ofN l hs ms hs.length).length:Int)):=by
 have h:=op_iff (l:=l) (hs:=hs) (o:=o) (Nat.le_refl o.length) (Nat.le_refl hs.length)
 rw [List.take_of_length_le (by rw [List.length_map];exact Nat.le_refl _)] at h
 rw [Bool.eq_iff_iff,h,decide_eq_true_eq]
 constructor
 · rintro ⟨k,k1,k2,k3⟩
   have a1:=G.ge hk k1 k2 k3
   have a2:=cn_lt (ms:=ms) k1 k2
   unfold cnJ at a1 a2
   omega
 · intro q
   obtain ⟨k,k1,k2,k3⟩:=cn_ex (l:=l) (hs:=hs) (ms:=ms) (m:=hs.length) (show o.length < cnJ l hs ms hs.length by unfold cnJ;omega)
   refine ⟨k,k1,k2,fun j hj e=>?_⟩
   obtain ⟨g1,g2,g3⟩:=G j hj
   obtain ⟨g4,g5⟩:=at_nm g1
   have:=nm_inj hk.h g4 k1 (g5.trans e)
   rw [this] at g3
   omega
end
theorem least {f:Nat->Int}:∀ n:Nat,(∀ j,j < n->f j=0) ∨ ∃ i,i < n∧f i ≠ 0∧∀ j,j < i->f j=0
 | 0=>.inl fun j hj=>absurd hj (Nat.not_lt_zero j)
 | n+1=>by
  rcases least (f:=f) n with h | ⟨i,h1,h2,h3⟩
  · by_cases q:f n=0
    · refine .inl fun j hj=>?_
      by_cases e:j=n
      · rw [e];exact q
      · exact h j (by omega)
    · exact .inr ⟨n,Nat.lt_succ_self n,q,h⟩
  · exact .inr ⟨i,by omega,h2,h3⟩
theorem co_eq {l:List Zn} {hs:List Hm} {ms:List (List Ms)} {o:List Of} (hk:ChOK l hs ms) (hc:chV l hs ms=0):coS l hs ms o=coR l hs ms o:=by
 unfold coS coR
 rw [hc]
 by_cases h16:(o.length:Int) > 16
 · rw [if_pos (decide_eq_true h16),decide_eq_true h16]
   rfl
 · rw [if_neg (by simpa using h16),decide_eq_false h16]
   show sScan (eO l hs ms o) o.length _=sScan (eR l hs ms o) o.length _
   rcases least (f:=eR l hs ms o) o.length with h | ⟨i,h1,h2,h3⟩
   · have hO:∀ j,j < o.length->eO l hs ms o j=0:=fun j hj=>((GO.all hk fun a ha=>h a (by omega)).eq hk (by omega)).trans (h j hj)
     rw [scan_end hO,scan_end h,(GO.all hk h).end hk]
   · have hO:∀ j,j < i->eO l hs ms o j=0:=fun j hj=>((GO.all hk fun a ha=>h3 a (by omega)).eq hk (by omega)).trans (h3 j hj)
     have e:=(GO.all hk h3).eq hk (show i<=o.length by omega)
     rw [scan_hit h1 hO (by rw [e];exact h2),scan_hit h1 h3 h2,e]
end Go.Proofs.YtfoeefaamjknpaaGreatDoor
namespace Go.Proofs.YtfoeefaamjknpaaGreatDoor
open Go Go.Av Go.RowKit
def ofR (l:List Zn) (hs:List Hm) (ms:List (List Ms)):List Of:=ofN l hs ms hs.length
theorem of_g {l:List Zn} {hs:List Hm} {ms:List (List Ms)} (hk:ChOK l hs ms):∀ {m:Nat},m<=hs.length->∀ x,x ∈ ofN l hs ms m->x.g.length<=1000
 | 0,_,x,h=>by cases h
 | m+1,hm,x,h=>by
  rw [ofN] at h
  split at h
  · rcases List.mem_append.1 h with h | h
    · exact of_g hk (by omega) x h
    · rw [List.mem_singleton] at h
      rw [h]
      have h1:=ch_len (hs.getD m default) (ms.getD m []) (bst (hs.getD m default) (ms.getD m []) (zH l (hs.getD m default)).tg)
      have h2:=(ms_z (hk.m m (by omega))).2.1
      show (chO (hs.getD m default) (ms.getD m []) (bst (hs.getD m default) (ms.getD m []) (zH l (hs.getD m default)).tg)).s.length<=1000
      omega
  · exact of_g hk (by omega) x h
theorem sh_hs {hs:List Hm} {ms:List (List Ms)} (h:shHs hs ms=true):hs.length<=17∧(∀ x,x ∈ hs->x.nm.length<=40∧x.ws.length<=9)∧ms.length<=5∧∀ x,x ∈ ms->x.length<=9∧∀ m,m ∈ x->m.nm.length<=1000:=by
 unfold shHs at h
 by_cases h1:fiN (bdH hs) hs.length < hs.length
 · rw [if_pos (decide_eq_true h1)] at h
   cases h
 · rw [if_neg (by simpa using h1)] at h
   by_cases h2:fiN (bdM ms) ms.length < ms.length
   · rw [if_pos (decide_eq_true h2)] at h
     cases h
   · rw [if_neg (by simpa using h2)] at h
     have a1:=fi_all h1
     have a2:=fi_all h2
     refine ⟨?_,fun x hx=>?_,?_,fun x hx=>?_⟩
     · by_cases q:(hs.length:Int)<=4
       · omega
       · rw [decide_eq_false q] at h
         by_cases q2:(hs.length:Int)=17
         · omega
         · rw [show ((hs.length:Int) == 17)=false by simpa using q2] at h
           simp at h
     · obtain ⟨i,hi,e⟩:=mem_at hx
       have q:=a1 i hi
       unfold bdH at q
       rw [e] at q
       exact sh_hm (by simpa using q)
     · have q3:∀ a b c:Bool,(if (if a=true then true else b)=true then c else false)=true->c=true:=by decide
       have:=of_decide_eq_true (q3 _ _ _ h)
       omega
     · obtain ⟨i,hi,e⟩:=mem_at hx
       have q:=a2 i hi
       unfold bdM at q
       rw [show ms.getD i []=x from e] at q
       exact sh_ms (by simpa using q)
theorem same_o (x:Of):sameO x x=true:=by
 unfold sameO
 simp
end Go.Proofs.YtfoeefaamjknpaaGreatDoor
namespace Go.Proofs.YtfoeefaamjknpaaGreatDoor
open Go Go.Av Go.RowKit
theorem eR_congr {l:List Zn} {hs:List Hm} {ms:List (List Ms)} {o p:List Of} {j:Nat} (h:∀ i,i<=j->o.getD i default=p.getD i default):eR l hs ms o j=eR l hs ms p j:=by
 have e1:atO hs o j=atO hs p j:=by unfold atO;rw [h j (Nat.le_refl j)]
 have e2:dupO o j=dupO p j:=by
  unfold dupO
  rw [fi_congr (q:=pD p j) (fun i hi=>by unfold pD;rw [h i (by omega),h j (Nat.le_refl j)])]
 unfold eR
 rw [e1,e2,h j (Nat.le_refl j)]
theorem at_k {hs:List Hm} (hn:∀ i,i < hs.length->fH1 hs i=0) {o:List Of} {j k:Nat} (hk:k < hs.length) (e:(o.getD j default).hm=(hs.getD k default).nm):atO hs o j=(k:Int):=by
 have h1:atO hs o j=fiI (pFH hs (o.getD j default).hm) hs.length:=fh_e hs _
 have h2:fiN (pFH hs (o.getD j default).hm) hs.length=k:=fi_some (fun i hi=>by
  unfold pFH
  rw [beq_eq_false_iff_ne]
  intro q
  have:=nm_inj hn (show i < hs.length by omega) hk (q.trans e)
  omega) (by unfold pFH;rw [e];exact beq_self_eq_true _) hk
 rw [h1,fiI,h2,if_neg (by omega)]
theorem eR_at {l:List Zn} {hs:List Hm} {ms:List (List Ms)} (hn:∀ i,i < hs.length->fH1 hs i=0) {o:List Of} {j k:Nat} (hk:k < hs.length) (he:elJ l hs k=true) (e:(o.getD j default).hm=(hs.getD k default).nm) (hd:dupO o j=false):eR l hs ms o j=if (!(((ofR l hs ms).getD j default).hm == (o.getD j default).hm))=true then 11 else if (!sameO ((ofR l hs ms).getD j default) (o.getD j default))=true then 19 else 0:=by
 have h1:=at_k hn hk e
 have h2:elB l (hs.getD k default)=true:=he
 unfold eR
 rw [h1,Int.toNat_natCast,hd,h2,decide_eq_false (show ¬ (k:Int) < 0 by omega)]
 rfl
section
variable {l : List Zn} {hs : List Hm} {ms : List (List Ms)}
theorem R_ex {j:Nat} (hj:j < (ofR l hs ms).length):∃ k,k < hs.length∧elJ l hs k=true∧cnJ l hs ms k=j∧(ofR l hs ms).getD j default=offV l (hs.getD k default) (ms.getD k []):=by
 obtain ⟨k,h1,h2,h3⟩:=cn_ex (l:=l) (hs:=hs) (ms:=ms) (m:=hs.length) (j:=j) hj
 have h4:=of_at (ms:=ms) h2 h1
 rw [h3] at h4
 exact ⟨k,h1,h2,h3,h4⟩
theorem R_inj (hk:ChOK l hs ms) {i j:Nat} (hi:i < (ofR l hs ms).length) (hj:j < (ofR l hs ms).length) (e:((ofR l hs ms).getD i default).hm=((ofR l hs ms).getD j default).hm):i=j:=by
 obtain ⟨a,a1,a2,a3,a4⟩:=R_ex hi
 obtain ⟨b,b1,b2,b3,b4⟩:=R_ex hj
 rw [a4,b4] at e
 have:=nm_inj hk.h a1 b1 e
 rw [this] at a3
 omega
theorem R_zero (hk:ChOK l hs ms) {j:Nat} (hj:j < (ofR l hs ms).length):eR l hs ms (ofR l hs ms) j=0:=by
 obtain ⟨k,h1,h2,h3,h4⟩:=R_ex hj
 have hd:dupO (ofR l hs ms) j=false:=by
  cases q:dupO (ofR l hs ms) j with
  | false=>rfl
  | true =>
   obtain ⟨i,i1,i2⟩:=dup_iff.1 q
   have:=R_inj hk (show i < (ofR l hs ms).length by omega) hj i2
   omega
 rw [eR_at hk.h h1 h2 (by rw [h4];rfl) hd,beq_self_eq_true,same_o]
 rfl
theorem R_len (l:List Zn) (hs:List Hm) (ms:List (List Ms)):(ofR l hs ms).length<=hs.length:=of_len l hs ms hs.length
theorem co_sc {o:List Of} (h16:o.length<=16):coR l hs ms o=sScan (eR l hs ms o) o.length (sWhen (decide ((o.length:Int) < ((ofR l hs ms).length:Int))) 32):=by
 unfold coR
 rw [decide_eq_false (show ¬ (o.length:Int) > 16 by omega)]
 rfl
theorem R_right (hk:ChOK l hs ms):coR l hs ms (ofR l hs ms)=0:=by
 have h1:=R_len l hs ms
 have h2:=hk.n
 rw [co_sc (by omega),scan_end fun j hj=>R_zero hk hj,decide_eq_false (Int.lt_irrefl _)]
 rfl
theorem R_less (hk:ChOK l hs ms) {a:Nat} (ha:a < (ofR l hs ms).length):coR l hs ms ((ofR l hs ms).take a++(ofR l hs ms).drop (a+1))=if a+1=(ofR l hs ms).length then 32 else 11:=by
 have h1:=R_len l hs ms
 have h2:=hk.n
 have hlen:((ofR l hs ms).take a++(ofR l hs ms).drop (a+1)).length=(ofR l hs ms).length-1:=by
  rw [List.length_append,List.length_take,List.length_drop]
  omega
 have g1:∀ i,i < a->((ofR l hs ms).take a++(ofR l hs ms).drop (a+1)).getD i default=(ofR l hs ms).getD i default:=fun i hi=>by
  rw [List.getD_eq_getElem?_getD,List.getElem?_append_left (by rw [List.length_take];omega),List.getElem?_take,if_pos hi,<- List.getD_eq_getElem?_getD]
 have g2:((ofR l hs ms).take a++(ofR l hs ms).drop (a+1)).getD a default=(ofR l hs ms).getD (a+1) default:=by
  rw [List.getD_eq_getElem?_getD,List.getElem?_append_right (by rw [List.length_take];omega),List.getElem?_drop,List.length_take,show a+1+(a-min a (ofR l hs ms).length)=a+1 by omega,<- List.getD_eq_getElem?_getD]
 have z:∀ j,j < a->eR l hs ms ((ofR l hs ms).take a++(ofR l hs ms).drop (a+1)) j=0:=fun j hj=>by
  rw [eR_congr (p:=ofR l hs ms) fun i hi=>g1 i (by omega)]
  exact R_zero hk (by omega)
 rw [co_sc (by omega),hlen]
 by_cases q:a+1=(ofR l hs ms).length
 · rw [if_pos q,scan_end fun j hj=>z j (by omega),decide_eq_true (show (((ofR l hs ms).length-1:Nat):Int) < ((ofR l hs ms).length:Int) by omega)]
   rfl
 · rw [if_neg q]
   obtain ⟨k,k1,k2,k3,k4⟩:=R_ex (show a+1 < (ofR l hs ms).length by omega)
   have e:eR l hs ms ((ofR l hs ms).take a++(ofR l hs ms).drop (a+1)) a=11:=by
    rw [eR_at hk.h k1 k2 (by rw [g2,k4];rfl) ?_,g2]
    · have hne:((ofR l hs ms).getD a default).hm ≠ ((ofR l hs ms).getD (a+1) default).hm:=fun q2=>by
       have:=R_inj hk ha (show a+1 < (ofR l hs ms).length by omega) q2
       omega
      rw [beq_false_of_ne hne]
      rfl
    · cases q2:dupO ((ofR l hs ms).take a++(ofR l hs ms).drop (a+1)) a with
      | false=>rfl
      | true =>
       obtain ⟨i,i1,i2⟩:=dup_iff.1 q2
       rw [g1 i i1,g2] at i2
       have:=R_inj hk (show i < (ofR l hs ms).length by omega) (show a+1 < (ofR l hs ms).length by omega) i2
       omega
   rw [scan_hit (i:=a) (by omega) z (by rw [e];decide),e]
theorem R_twice (hk:ChOK l hs ms) (h15:hs.length<=15) {a:Nat} (ha:a < (ofR l hs ms).length):coR l hs ms (ofR l hs ms++[(ofR l hs ms).getD a default])=9:=by
 have h1:=R_len l hs ms
 have hlen:(ofR l hs ms++[(ofR l hs ms).getD a default]).length=(ofR l hs ms).length+1:=by rw [List.length_append];rfl
 have g1:∀ i,i < (ofR l hs ms).length->(ofR l hs ms++[(ofR l hs ms).getD a default]).getD i default=(ofR l hs ms).getD i default:=fun i hi=>by
  rw [List.getD_eq_getElem?_getD,List.getElem?_append_left hi,<- List.getD_eq_getElem?_getD]
 have g2:(ofR l hs ms++[(ofR l hs ms).getD a default]).getD (ofR l hs ms).length default=(ofR l hs ms).getD a default:=by
  rw [List.getD_eq_getElem?_getD,List.getElem?_append_right (Nat.le_refl _),Nat.sub_self]
  rfl
 obtain ⟨k,k1,k2,k3,k4⟩:=R_ex ha
 have e:eR l hs ms (ofR l hs ms++[(ofR l hs ms).getD a default]) (ofR l hs ms).length=9:=by
  have e1:=at_k hk.h (o:=ofR l hs ms++[(ofR l hs ms).getD a default]) (j:=(ofR l hs ms).length) k1 (by rw [g2,k4];rfl)
  have e2:dupO (ofR l hs ms++[(ofR l hs ms).getD a default]) (ofR l hs ms).length=true:=dup_iff.2 ⟨a,ha,by rw [g1 a ha,g2]⟩
  unfold eR
  rw [e1,e2,decide_eq_false (show ¬ (k:Int) < 0 by omega)]
  rfl
 rw [co_sc (by omega),scan_hit (i:=(ofR l hs ms).length) (by omega) (fun j hj=>by
  rw [eR_congr (p:=ofR l hs ms) fun i hi=>g1 i (by omega)]
  exact R_zero hk hj) (by rw [e];decide),e]
def upO (x:Of):Of:=⟨x.hm,x.zn,x.g,x.a+1⟩
theorem R_wrong (hk:ChOK l hs ms) {a:Nat} (ha:a < (ofR l hs ms).length):coR l hs ms ((ofR l hs ms).set a (upO ((ofR l hs ms).getD a default)))=19:=by
 have h1:=R_len l hs ms
 have h2:=hk.n
 have hlen:((ofR l hs ms).set a (upO ((ofR l hs ms).getD a default))).length=(ofR l hs ms).length:=List.length_set
 have g1:∀ i,i < a->((ofR l hs ms).set a (upO ((ofR l hs ms).getD a default))).getD i default=(ofR l hs ms).getD i default:=fun i hi=>by
  rw [List.getD_eq_getElem?_getD,List.getElem?_set_ne (by omega),<- List.getD_eq_getElem?_getD]
 have g2:((ofR l hs ms).set a (upO ((ofR l hs ms).getD a default))).getD a default=upO ((ofR l hs ms).getD a default):=by
  rw [List.getD_eq_getElem?_getD,List.getElem?_set_self ha]
  rfl
 obtain ⟨k,k1,k2,k3,k4⟩:=R_ex ha
 have e:eR l hs ms ((ofR l hs ms).set a (upO ((ofR l hs ms).getD a default))) a=19:=by
  rw [eR_at hk.h k1 k2 (by rw [g2,k4];rfl) ?_,g2]
  · have e1:(((ofR l hs ms).getD a default).hm == (upO ((ofR l hs ms).getD a default)).hm)=true:=beq_self_eq_true _
    have e2:sameO ((ofR l hs ms).getD a default) (upO ((ofR l hs ms).getD a default))=false:=by
     unfold sameO upO
     simp
     omega
    rw [e1,e2]
    rfl
  · cases q2:dupO ((ofR l hs ms).set a (upO ((ofR l hs ms).getD a default))) a with
    | false=>rfl
    | true =>
     obtain ⟨i,i1,i2⟩:=dup_iff.1 q2
     rw [g1 i i1,g2] at i2
     have:=R_inj hk (show i < (ofR l hs ms).length by omega) ha i2
     omega
 rw [co_sc (by omega),hlen,scan_hit (i:=a) ha (fun j hj=>by
  rw [eR_congr (p:=ofR l hs ms) fun i hi=>g1 i (by omega)]
  exact R_zero hk (by omega)) (by rw [e];decide),e]
end
def rotL {α:Type} (b:Nat) (x:List α):List α:=x.drop b++x.take b
def rotI (n b i:Nat):Nat:=if i < n-b then b+i else i-(n-b)
theorem rot_len {α:Type} {b:Nat} {x:List α} (hb:b<=x.length):(rotL b x).length=x.length:=by
 unfold rotL
 rw [List.length_append,List.length_drop,List.length_take]
 omega
theorem rot_at {α:Type} [Inhabited α] {b i:Nat} {x:List α} (hb:b<=x.length) (hi:i < x.length):(rotL b x).getD i default=x.getD (rotI x.length b i) default:=by
 unfold rotL rotI
 by_cases q:i < x.length-b
 · rw [if_pos q,List.getD_eq_getElem?_getD,List.getElem?_append_left (by rw [List.length_drop];exact q),List.getElem?_drop,<- List.getD_eq_getElem?_getD]
 · rw [if_neg q,List.getD_eq_getElem?_getD,List.getElem?_append_right (by rw [List.length_drop];omega),List.length_drop,List.getElem?_take,if_pos (by omega),<- List.getD_eq_getElem?_getD]
theorem rotI_lt {n b i:Nat} (hb:b<=n) (hi:i < n):rotI n b i < n:=by
 unfold rotI
 split <;> omega
theorem rotI_inj {n b i j:Nat} (hb:b<=n) (hi:i < n) (hj:j < n) (e:rotI n b i=rotI n b j):i=j:=by
 unfold rotI at e
 split at e <;> split at e <;> omega
theorem fH1_of {hs:List Hm} {i:Nat} (hi:i < hs.length) (h:fHm (hs.getD i default)=0) (hd:∀ j,j < i->(hs.getD j default).nm ≠ (hs.getD i default).nm):fH1 hs i=0:=by
 have e:hasK (knS ((hs.take i).map Hm.nm)) (.str (hs.getD i default).nm)=false:=by
  unfold knS
  rw [has_map (fun s=>s),List.any_eq_false]
  intro s hs2 q
  obtain ⟨y,hy,rfl⟩:=List.mem_map.1 hs2
  obtain ⟨j,hj,e⟩:=mem_at hy
  rw [List.length_take] at hj
  have ht:(hs.take i).getD j default=hs.getD j default:=by simp [List.getD_eq_getElem?_getD,List.getElem?_take,show j < i by omega]
  rw [ht] at e
  exact hd j (by omega) (by rw [e];exact eq_of_beq q)
 unfold fH1
 rw [h,e]
 rfl
theorem ch_of {l:List Zn} {hs:List Hm} {ms:List (List Ms)} (hk:ChOK l hs ms):chV l hs ms=0:=by
 have h1:=hk.n
 have h2:=hk.e
 have e1:sFirst [fZs l,sWhen (decide ((hs.length:Int) > 16)) 5]=0:=by
  rw [hk.z,decide_eq_false (by omega)]
  rfl
 have e2:finH hs ms=0:=by
  unfold finH
  rw [if_neg (by simp [h2])]
  exact ls_end (c:=0) (f:=fM2 hs ms) (i:=hs.length) rfl (decide_eq_false (Int.lt_irrefl _)) (Nat.le_refl _) hk.m
 unfold chV
 rw [e1,ls_end (f:=fH1 hs) (i:=hs.length) rfl (decide_eq_false (Int.lt_irrefl _)) (Nat.le_refl _) hk.h,e2]
theorem rot_ok {l:List Zn} {hs:List Hm} {ms:List (List Ms)} (hk:ChOK l hs ms) {b:Nat} (hb:b<=hs.length):ChOK l (rotL b hs) (rotL b ms):=by
 have hbm:b<=ms.length:=by rw [hk.e];exact hb
 have e1:=rot_len hb
 have e2:=rot_len hbm
 refine ⟨hk.z,by rw [e1];exact hk.n,fun i hi=>?_,by rw [e1,e2];exact hk.e,fun i hi=>?_⟩
 · rw [e1] at hi
   refine fH1_of (by rw [e1];exact hi) (by rw [rot_at hb hi];exact fH1_z (hk.h _ (rotI_lt hb hi))) fun j hj q=>?_
   rw [rot_at hb (show j < hs.length by omega),rot_at hb hi] at q
   have:=rotI_inj hb (show j < hs.length by omega) hi (nm_inj hk.h (rotI_lt hb (by omega)) (rotI_lt hb hi) q)
   omega
 · rw [e1] at hi
   have e3:(rotL b ms).getD i []=ms.getD (rotI hs.length b i) []:=by
    have:=rot_at (i:=i) hbm (by rw [hk.e];exact hi)
    rw [hk.e] at this
    exact this
   have:=hk.m _ (rotI_lt hb hi)
   unfold fM2 at this ⊢
   rw [rot_at hb hi,e3]
   exact this
theorem cn_fil (l:List Zn) (hs:List Hm) (ms:List (List Ms)):∀ k,k<=hs.length->cnJ l hs ms k=((hs.take k).filter (elB l)).length
 | 0,_=>rfl
 | k+1,h=>by
  have ih:=cn_fil l hs ms k (by omega)
  have ht:hs.take (k+1)=hs.take k++[hs.getD k default]:=by
   rw [List.take_add_one]
   simp [List.getD_eq_getElem?_getD,show k < hs.length by omega]
  rw [ht,List.filter_append,List.length_append,<- ih]
  cases e:elJ l hs k with
  | true =>
   rw [cn_t e,List.filter_cons_of_pos (by exact e)]
   rfl
  | false =>
   rw [cn_f e,List.filter_cons_of_neg (by unfold elJ at e;rw [e];decide)]
   rfl
theorem rot_R {l:List Zn} {hs:List Hm} {ms:List (List Ms)} (hk:ChOK l hs ms) {b:Nat} (hb:b<=hs.length):(ofR l (rotL b hs) (rotL b ms)).length=(ofR l hs ms).length∧∀ j,j < (ofR l hs ms).length->∃ i,i < (ofR l hs ms).length∧(ofR l hs ms).getD i default=(ofR l (rotL b hs) (rotL b ms)).getD j default:=by
 have hbm:b<=ms.length:=by rw [hk.e];exact hb
 have e1:=rot_len hb
 have hlen:(ofR l (rotL b hs) (rotL b ms)).length=(ofR l hs ms).length:=by
  have a1:=cn_fil l (rotL b hs) (rotL b ms) _ (Nat.le_refl _)
  have a2:=cn_fil l hs ms _ (Nat.le_refl _)
  rw [List.take_length] at a1 a2
  have a3:(rotL b hs).filter (elB l)=(hs.drop b).filter (elB l)++(hs.take b).filter (elB l):=List.filter_append ..
  have a4:hs.filter (elB l)=(hs.take b).filter (elB l)++(hs.drop b).filter (elB l):=by rw [<- List.filter_append,List.take_append_drop]
  rw [a3,List.length_append] at a1
  rw [a4,List.length_append] at a2
  unfold cnJ at a1 a2
  unfold ofR
  omega
 refine ⟨hlen,fun j hj=>?_⟩
 obtain ⟨k,k1,k2,k3,k4⟩:=R_ex (l:=l) (hs:=rotL b hs) (ms:=rotL b ms) (show j < (ofR l (rotL b hs) (rotL b ms)).length by omega)
 rw [e1] at k1
 have e3:(rotL b ms).getD k []=ms.getD (rotI hs.length b k) []:=by
  have:=rot_at (i:=k) hbm (by rw [hk.e];exact k1)
  rw [hk.e] at this
  exact this
 have he:elJ l hs (rotI hs.length b k)=true:=by
  unfold elJ at k2 ⊢
  rw [rot_at hb k1] at k2
  exact k2
 refine ⟨cnJ l hs ms (rotI hs.length b k),cn_lt (rotI_lt hb k1) he,?_⟩
 rw [k4,rot_at hb k1,e3]
 exact of_at he (rotI_lt hb k1)
def orN (p:Nat->Bool):Nat->Bool
 | 0=>false
 | i+1=>if orN p i=true then true else p i
theorem or_hit {p:Nat->Bool} {i:Nat} (hp:p i=true):∀ {n:Nat},i < n->orN p n=true
 | 0,h=>absurd h (Nat.not_lt_zero i)
 | n+1,h=>by
  rw [orN]
  split
  · rfl
  · rename_i q
    by_cases e:i=n
    · rw [<- e];exact hp
    · exact absurd (or_hit hp (show i < n by omega)) q
end Go.Proofs.YtfoeefaamjknpaaGreatDoor
namespace Go.Proofs.YtfoeefaamjknpaaGreatDoor
open Go Go.Av Go.RowKit
def wS (h:Hm) (l:List Ms) (t:Int):List Int:=if (chE h l t != 0)=true then [] else (chO h l (bst h l t)).s
def wC (h:Hm) (l:List Ms) (t:Int):Int:=if (chE h l t != 0)=true then 0 else (chO h l (bst h l t)).c
def wE (h:Hm) (l:List Ms) (t:Int):Int:=if (chE h l t != 0)=true then chE h l t else if (bst h l t).isSome=true then 0 else 18
structure K4 (h:Hm) (l:List Ms):Prop where
 ko:h.nm.length<=40
 kw:h.ws.length<=9
 kl:l.length<=9
 kn:∀ y,y ∈ l->y.nm.length<=1000
def m4a (h:Hm) (l:List Ms) (t p:Int):List (Nat × AV):=[(1,.sl 19 (l.map encMs)),(3,.elt 3 [encHm h] 0 0),(5,.elt 2 [[.i t,.i p]] 0 0),(7,.sl 1 ((wS h l t).map encI)),(8,.i (wC h l t)),(9,.i (wE h l t)),(10,.i (bdV h l t p)),(11,.i (bdE h l t p)),(13,.i (bdE h l t p))]
def m4 (h:Hm) (l:List Ms) (t p:Int):List (Option (List GS × AS × Prop)) :=
 [none,none,none,none,none,none,none,none,
  mdB [.nil 14 1] (K4 h l) (m4a h l t p++[(12,.i (chE h l t)),(14,.sl 1 []),(15,.i 0),(16,.i 0)]) [] 1,none,
  mdB [] (K4 h l) (m4a h l t p++[(12,.i (wE h l t)),(14,.sl 1 ((wS h l t).map encI)),(15,.i (wC h l t)),(16,.i 0)]) [] 1,none,
  mdB [] (K4 h l) (m4a h l t p++[(12,.i (wE h l t)),(14,.sl 1 ((wS h l t).map encI)),(15,.i (wC h l t)),(16,.i (bdV h l t p))]) [] 1,none]
end Go.Proofs.YtfoeefaamjknpaaGreatDoor
