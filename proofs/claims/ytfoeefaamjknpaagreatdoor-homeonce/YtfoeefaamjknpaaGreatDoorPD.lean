/-
  A home after a set of measures: both sides. Complaints: those that are due, the source's; what is wrong, the reference's; copies. A contract from its body's parts. HomeZones returns true. HomeWindows returns true. No condition but the theorems' own.
-/
import Derived.Test.YtfoeefaamjknpaaGreatDoorPC
import Derived.Test.YtfoeefaamjknpaaGreatDoorAvD
import Derived.Test.YtfoeefaamjknpaaGreatDoorPB
import Derived.Test.YtfoeefaamjknpaaGreatDoorPA
namespace Go.Proofs.YtfoeefaamjknpaaGreatDoor
open Go Go.Av Go.RowKit
def afH (h:Hm) (l:List Ms) (g:List Int):Hm:=⟨h.nm,h.pe,aft h.ws l g⟩
def la103 (h:Hm) (l:List Ms) (g:List Int):LA:={
 pre:=[.reno 7 3,.keep [1,3,6,7,18,19,20] [1,2,3],.bound 4],post:=[.keep [1,3,6,7,18,19,20] [1,2,3],.bound 4]
 Gh:=Nat
 st:=fun i=>⟨[(1,.sl 19 (l.map encMs)),(3,.ptr 1 0),(6,.ptr 2 0),(7,.own 3 (h.ws.map encWn).length),(18,.sl 1 (g.map encI)),(19,.i (g.map encI).length),(20,.i i)],[(1,.box (encHm h)),(2,.box [.str [],.i 0,.ex (.slice none 0 0)]),(3,.buf 189 25 ((aftN h.ws l g i).map encWn))],4⟩
 ok:=fun i=>i<=g.length
 ms:=fun i=>g.length-i }
theorem copy_all (rows:List (List AV)) (z:List AV):List.take ((rows.length:Nat):Int).toNat rows++List.drop rows.length (List.replicate ((rows.length:Nat):Int).toNat z)=rows:=by
 rw [Int.toNat_natCast,List.take_length,List.drop_replicate,Nat.sub_self]
 simp
theorem put_wi {ws:List Wn} {i:Nat} (hi:i < ws.length) (m:Ms):putRow (ws.map encWn) i 9 (encPm m)=(ws.set i (wiM (ws.getD i default) m)).map encWn:=by
 unfold putRow
 rw [row_at encWn hi,List.map_set]
 rfl
abbrev zc103a (h:Hm):=(↑(List.map encWn h.ws).length:Int)
abbrev zc103b (l:List Ms) (g:List Int) (g_1:Nat):=l.getD (g.getD (g_1:Int).toNat default).toNat default
theorem c103 (h:Hm) (l:List Ms) (g:List Int) (hh:fMs h l=0) (hg:fSet l g=0) (hg0:g.length<=1000):PCall Tryz.prog G0 103 [.agg (encHm h),.sl 19 (l.map encMs),.sl 1 (g.map encI)] (.agg (encHm (afH h l g))):=by
 have key :
  (0:Int)<=(zc103a h)∧(zc103a h)<=(zc103a h)∧(zc103a h)<=9223372036854775807∧(zc103a h) * (200:Int)<=140737488355328∧(∃ (g_1:Nat),g_1<=g.length∧AS.mk [(1,AV.sl 19 (List.map encMs l)),(3,AV.ptr 1 0),(6,
  AV.ptr 2 0),(7,AV.own 3 (zc103a h).toNat),(18,AV.sl 1 (List.map encI g)),(19,AV.i (↑(List.map encI g).length:Int)),(20,AV.i 0)] [(1,ABlk.box (encHm h)),(2,ABlk.box [AV.str [],AV.i 0,AV.ex (Value.slice none 0 0)]),
  (3,ABlk.buf 189 25 (List.take (zc103a h).toNat (List.map encWn h.ws)++List.drop (List.map encWn h.ws).length (List.replicate (zc103a h).toNat [AV.i 0,AV.i 0,AV.i 0,AV.i 0,AV.i 0,AV.i 0,AV.i 0,AV.i 0,AV.i 0,AV.i 0,AV.i
  0,AV.i 0,AV.i 0,AV.i 0,AV.i 0,AV.i 0,AV.i 0,AV.i 0,AV.i 0,AV.i 0,AV.i 0,AV.i 0,AV.i 0,AV.i 0,AV.i 0])))] 4=AS.mk [(1,AV.sl 19 (List.map encMs l)),(3,AV.ptr 1 0),(6,AV.ptr 2 0),(7,AV.own 3 (List.map encWn
  h.ws).length),(18,AV.sl 1 (List.map encI g)),(19,AV.i (↑(List.map encI g).length:Int)),(20,AV.i (g_1:Int))] [(1,ABlk.box (encHm h)),(2,ABlk.box [AV.str [],AV.i 0,AV.ex (Value.slice none 0 0)]),(3,ABlk.buf 189 25
  (List.map encWn (aftN h.ws l g g_1)))] 4)∧∀ (g_1:Nat),g_1<=g.length->(decide ((g_1:Int) < (↑(List.map encI g).length:Int))=true->(0:Int)<=(g_1:Int)∧(g_1:Int) < (↑(List.map encI g).length:Int)∧nth (nthR
  (List.map encI g) (g_1:Int).toNat) 0=AV.i (g.getD (g_1:Int).toNat default)∧(0:Int)<=g.getD (g_1:Int).toNat default∧g.getD (g_1:Int).toNat default < (↑(List.map encMs l).length:Int)∧(0:Int)<=g.getD (↑g_1
  : Int).toNat default∧g.getD (g_1:Int).toNat default < (↑(List.map encMs l).length:Int)∧(0:Int)<=(zc103b l g g_1).w∧(zc103b l g g_1).w < (zc103a h)∧(zc103b l g g_1).w.toNat < (List.map encWn (aftN h.ws l g
  g_1)).length∧nth (nthR (List.map encMs l) (g.getD (g_1:Int).toNat default).toNat) 1=AV.i (zc103b l g g_1).w∧AV.agg (List.take 16 (List.drop 3 (nthR (List.map encMs l) (g.getD (g_1:Int).toNat default).toNat)))=AV.agg
  (encPm (zc103b l g g_1))∧In64 ((g_1:Int)+1)∧∃ (g':Nat),g'<=g.length∧g.length-g' < g.length-g_1∧AS.mk [(1,AV.sl 19 (List.map encMs l)),(3,AV.ptr 1 0),(6,AV.ptr 2 0),(7,AV.own 3 (List.map encWn
  h.ws).length),(18,AV.sl 1 (List.map encI g)),(19,AV.i (↑(List.map encI g).length:Int)),(20,AV.i ((g_1:Int)+1))] [(1,ABlk.box (encHm h)),(2,ABlk.box [AV.str [],AV.i 0,AV.ex (Value.slice none 0 0)]),(3,ABlk.buf
  189 25 (putRow (List.map encWn (aftN h.ws l g g_1)) (zc103b l g g_1).w.toNat 9 (encPm (zc103b l g g_1))))] 4=AS.mk [(1,AV.sl 19 (List.map encMs l)),(3,AV.ptr 1 0),(6,AV.ptr 2 0),(7,AV.own 3 (List.map encWn h.ws).length),
  (18,AV.sl 1 (List.map encI g)),(19,AV.i (↑(List.map encI g).length:Int)),(20,AV.i (↑g':Int))] [(1,ABlk.box (encHm h)),(2,ABlk.box [AV.str [],AV.i 0,AV.ex (Value.slice none 0 0)]),(3,ABlk.buf 189 25 (List.map encWn
  (aftN h.ws l g g')))] 4)∧(decide ((g_1:Int) < (↑(List.map encI g).length:Int))=false->AV.agg [AV.str h.nm,AV.i h.pe,AV.sl 25 (List.map encWn (aftN h.ws l g g_1))]=AV.agg [AV.str h.nm,AV.i h.pe,AV.sl 25 (List.map
  encWn (aft h.ws l g))]):=by
   delta zc103a zc103b
   have hlm:(List.map encMs l).length=l.length:=List.length_map _
   have hgm:(List.map encI g).length=g.length:=List.length_map _
   have hwm:(List.map encWn h.ws).length=h.ws.length:=List.length_map _
   obtain ⟨y1,y2,y3⟩:=ms_z hh
   obtain ⟨z1,z2,z3,z4,z5,z6⟩:=hm_z y1
   obtain ⟨x0,_⟩:=set_z hg
   obtain ⟨x1,_⟩:=ix_z x0
   have:(List.map encWn h.ws).length=h.ws.length:=by simp only [List.length_map]
   have:(List.map encI g).length=g.length:=by simp only [List.length_map]
   have:(List.map encMs l).length=l.length:=by simp only [List.length_map]
   refine ⟨(by omega),(by omega),(by omega),(by omega),⟨⟨0,by omega,(by rw [copy_all];rfl)⟩,fun g_1 hg=>⟨fun hd=>?_,fun hd=>?_⟩⟩⟩
   · have hlt:g_1 < g.length:=by have h9:=of_decide_eq_true hd;have h8:=hg;(try simp only [List.length_map] at h8);(try simp only [List.length_map] at h9);omega
     have hx:=x1 g_1 hlt
     have hmk:=(y3 (g.getD g_1 default).toNat (by omega)).w0
     have hal:=aft_len h.ws l g g_1
     have ham:(List.map encWn (aftN h.ws l g g_1)).length=(aftN h.ws l g g_1).length:=List.length_map _
     try rw [show (g_1:Int).toNat=g_1 from Int.toNat_natCast g_1]
     refine ⟨(by omega),(by omega),(congrArg (fun r=>nth r 0) (row_at encI hlt)),(by omega),(by omega),(by omega),(by omega),(by omega),(by omega),(by omega),(congrArg (fun r=>nth r 1) (row_at encMs (by omega))),(congrArg (fun r=>AV.agg (List.take 16 (List.drop 3 r))) (row_at encMs (by omega))),(by unfold In64;omega),⟨g_1+1,by omega,by omega,?_⟩⟩
     · rw [put_wi (by omega)]
       rfl
   · have hge:g_1=g.length:=by have h9:=of_decide_eq_false hd;have h8:=hg;(try simp only [List.length_map] at h8);(try simp only [List.length_map] at h9);omega
     subst hge
     first | rfl | trivial
 exact c_of Tryz.f103 ({ fzB (mkB spW 103 [(5,1,rdL 1 encI g 1 false),(6,5,rdL 19 encMs l 1 false),(6,10,rdL 19 encMs l 16 true)] (la0 (la103 h l g))) with bx:=fun i=>if i.beq 0 then [.frzo 7] else [] }) (by kernel_rfl) (by kernel_rfl) (by kernel_rfl) (by kernel_rfl) key (by kernel_rfl)
end Go.Proofs.YtfoeefaamjknpaaGreatDoor
namespace Go.Proofs.YtfoeefaamjknpaaGreatDoor
open Go Go.Av Go.RowKit
end Go.Proofs.YtfoeefaamjknpaaGreatDoor
namespace Go.Proofs.YtfoeefaamjknpaaGreatDoor
open Go Go.Av Go.RowKit
theorem c_ofH {f : Nat} {args : List AV} {r : AV} (fn : Func) (B : BA) (ms : List (Option (List GS × AS × Prop))) (hf : Tryz.prog.funcs[f]? = some fn) (hb : fn.body = some (bodyOf fn)) (hn : (fn.name == "runtime.NumGoroutine") = false) (hlen : Nat.ble args.length fn.ntmps = true)
 {q:Prop} (hq:q) (h:partsH (bodyE Tryz.prog T0 G0 fn.ntmps []) B (retQ T0 fn fun v=>v=r) (flatSeq (bodyOf fn)) ms (startS args)=q):PCall Tryz.prog G0 f args r :=
 call_of_partsH tok mix hf hb hn (Nat.le_of_ble_eq_true hlen) B ms (vc_of hq h)
end Go.Proofs.YtfoeefaamjknpaaGreatDoor
namespace Go.Proofs.YtfoeefaamjknpaaGreatDoor
open Go Go.Av Go.RowKit
def BET:List UInt8:=[98,101,116,116,101,114]
def WOR:List UInt8:=[119,111,114,115,101]
def PLA:List UInt8:=[97,115,32,112,108,97,110,110,101,100]
def vdS (lo hi:Int) (x:Iv):List UInt8:=if decide (x.b < lo)=true then BET else if decide (x.a > hi)=true then WOR else PLA
def afL (h:Hm) (l:List Ms) (g:List Int):Int:=inL (aft h.ws l g) h.ws.length
def afU (h:Hm) (l:List Ms) (g:List Int):Int:=inH (aft h.ws l g) h.ws.length
theorem af_ok {h:Hm} {l:List Ms} {g:List Int} (hh:fMs h l=0) (hg:fSet l g=0):WsOK (aft h.ws l g)∧(aft h.ws l g).length=h.ws.length∧h.ws.length<=8∧1<=h.ws.length:=by
 obtain ⟨y1,y2,y3⟩:=ms_z hh
 obtain ⟨z1,z2,z3,z4,z5,z6⟩:=hm_z y1
 obtain ⟨x0,_⟩:=set_z hg
 obtain ⟨x1,_⟩:=ix_z x0
 have hal:(aft h.ws l g).length=h.ws.length:=aft_len h.ws l g g.length
 exact ⟨fun i hi=>aft_ok z6 y3 x1 g.length (Nat.le_refl _) i (by omega),hal,z3,z2⟩
def afV (h:Hm) (l:List Ms) (g:List Int):Hm:=if (ckE h l g != 0)=true then ⟨[],0,[]⟩ else afH h l g
def suE (h:Hm) (l:List Ms) (g:List Int) (t:Int):Int:=sFirst [ckE h l g,fEn t]
def suV (h:Hm) (l:List Ms) (g:List Int) (t:Int):Bool:=if (suE h l g t != 0)=true then false else decide (afU h l g<=t)
def veE (h:Hm) (l:List Ms) (g:List Int) (x:Iv):Int:=sFirst [ckE h l g,fEnds x.a x.b 10000000000000]
def veV (h:Hm) (l:List Ms) (g:List Int) (x:Iv):List UInt8:=if (veE h l g x != 0)=true then [] else vdS (afL h l g) (afU h l g) x
def lnM (l:List Ms) (j:Nat):Bool:=decide (((l.getD j default).nm.length:Int) > 40)
def shM (l:List Ms):Bool:=if decide (fiN (lnM l) l.length < l.length)=true then false else if decide ((l.length:Int)<=6)=true then true else (l.length:Int) == 9
def la15 (l:List Ms):LA:={
 pre:=[.keep [0,3] [],.bound 1],post:=[.keep [0,3] [],.bound 1]
 Gh:=Nat
 st:=fun i=>⟨[(0,.sl 19 (l.map encMs)),(3,.i i)],[],1⟩
 ok:=fun i=>i<=l.length∧∀ j,j < i->lnM l j=false
 ms:=fun i=>l.length-i }
abbrev zc15a (l:List Ms):=(↑(List.map encMs l).length:Int)
theorem c15 (l:List Ms) (hl:l.length<=maxLen):PCall Tryz.prog G0 15 [.sl 19 (l.map encMs)] (.bool (shM l)):=by
 have key :
  (∃ (g:Nat),(g<=l.length∧∀ (j:Nat),j < g->lnM l j=false)∧AS.mk [(0,AV.sl 19 (List.map encMs l)),(3,AV.i 0)] [] 1=AS.mk [(0,AV.sl 19 (List.map encMs l)),(3,AV.i (g:Int))] [] 1)∧∀ (g:Nat),(g<=l.length ∧
  ∀ (j:Nat),j < g->lnM l j=false)->(decide ((g:Int) < (zc15a l))=true->(0:Int)<=(g:Int)∧(g:Int) < (zc15a l)∧nth (nthR (List.map encMs l) (g:Int).toNat) 0=AV.str (l.getD (g:Int).toNat default).nm ∧
  (decide ((↑(l.getD (g:Int).toNat default).nm.length:Int) > 40)=true->AV.bool false=AV.bool (shM l))∧(decide ((↑(l.getD (g:Int).toNat default).nm.length:Int) > 40)=false->In64 ((g:Int)+1)∧∃ (g':Nat),(g'
  ≤ l.length∧∀ (j:Nat),j < g'->lnM l j=false)∧l.length-g' < l.length-g∧AS.mk [(0,AV.sl 19 (List.map encMs l)),(3,AV.i ((g:Int)+1))] [] 1=AS.mk [(0,AV.sl 19 (List.map encMs l)),(3,AV.i (↑g':Int))] [] 1))
  ∧ (decide ((g:Int) < (zc15a l))=false->((!decide ((zc15a l)<=6))=true->(!decide ((zc15a l)<=6))=true)∧((!decide ((zc15a l)<=6))=true->(!decide ((zc15a l)<=6))=true)∧(decide ((zc15a l)<=6)=false->(!decide
  ((zc15a l)<=6))=true)∧AV.bool (if decide ((zc15a l)<=6)=true then true else (zc15a l) == 9)=AV.bool (shM l)):=by
   delta zc15a
   have hlm:(List.map encMs l).length=l.length:=List.length_map _
   have hmx:maxLen=9223372036854775807:=rfl
   have:(List.map encMs l).length=l.length:=by simp only [List.length_map]
   refine ⟨⟨0,⟨by omega,by intros;omega⟩,rfl⟩,fun g ⟨hg,ha⟩=>⟨fun hd=>?_,fun hd=>?_⟩⟩
   · have hlt:g < l.length:=by have h9:=of_decide_eq_true hd;have h8:=hg;(try simp only [List.length_map] at h8);(try simp only [List.length_map] at h9);omega
     try rw [show (g:Int).toNat=g from Int.toNat_natCast g]
     refine ⟨(by omega),(by omega),congrArg (fun r=>nth r 0) (row_at encMs hlt),fun h1=>?_,fun h1=>⟨(by unfold In64;omega),⟨g+1,⟨by omega,all_ext ha h1⟩,by omega,rfl⟩⟩⟩
     · rw [shM,if_pos (decide_eq_true (fi_ex (p:=lnM l) hlt h1))]
   · have hge:g=l.length:=by have h9:=of_decide_eq_false hd;have h8:=hg;(try simp only [List.length_map] at h8);(try simp only [List.length_map] at h9);omega
     subst hge
     refine ⟨fun h=>h,fun h=>h,fun h=>by first | exact h | (rw [h];rfl) | simp_all,?_⟩
     · have e:shM l=if decide ((l.length:Int)<=6)=true then true else (l.length:Int) == 9:=if_neg (by rw [fi_none ha];simp)
       rw [hlm,e]
 exact c_of Tryz.f15 (fzB (mkB spW 15 [(4,4,rdL 19 encMs l 1 false)] (la0 (la15 l)))) (by kernel_rfl) (by kernel_rfl) (by kernel_rfl) (by kernel_rfl) key (by kernel_rfl)
def la27 (h:Hm) (l:List Ms):LA:={
 pre:=[.own 6 9 1,.reno 6 1,.keep [1,2,6,7] [1],.bound 2],post:=[.reno 6 1,.keep [1,2,6,7] [1],.bound 2]
 Gh:=Nat
 st:=fun i=>⟨[(1,.sl 19 (l.map encMs)),(2,.elt 3 [encHm h] 0 0),(6,.own 1 (((l.take i).map Ms.nm).map encS).length),(7,.i i)],[(1,.buf 9 1 (((l.take i).map Ms.nm).map encS))],2⟩
 ok:=fun i=>i<=l.length∧∀ j,j < i->fM1 h.ws.length l j=0
 ms:=fun i=>l.length-i }
def sp27 (h:Hm):Nat->List AV->Option AV
 | 111,[.sl _ rows,.str s]=>some (.bool (hwR rows s))
 | n,x=>sp39 h n x
theorem fM1_r (h:Hm) (l:List Ms) (i:Nat):fM1 h.ws.length l i=sFirst [sWhen (!sName (l.getD i default).nm) 8,sWhen (hwR (((l.take i).map Ms.nm).map encS) (l.getD i default).nm) 9,sWhen (if decide ((l.getD i default).w < 0)=true then true else decide ((l.getD i default).w>=((List.map encWn h.ws).length:Int))) 10,sWithin (l.getD i default).c 0 1000000,fPaC (encPm (l.getD i default))]:=by
 rw [fM1_m,hwR,dS_e]
abbrev zc27b (l:List Ms) (g:Nat):=l.getD (g:Int).toNat default
abbrev zc27c (g:Nat) (l:List Ms):=List.map encS (List.map Ms.nm (List.take g l))
abbrev zc27d (l:List Ms) (g:Nat) (h:Hm):=if decide ((zc27b l g).w < 0)=true then true else decide ((zc27b l g).w>=(↑(List.map encWn h.ws).length:Int))
abbrev zc27a (l:List Ms) (g:Nat) (h:Hm):=[hdI [AV.i (sWhen (!sName (zc27b l g).nm) (8:Int))],hdI [AV.i (sWhen (hwR (zc27c g l) (zc27b l g).nm) (9:Int))],hdI [AV.i (sWhen (zc27d l g h) (10:Int))],hdI [AV.i (sWithin (zc27b l g).c (0:Int) (1000000:Int))],hdI [AV.i (fPaC (encPm (zc27b l g)))]]
abbrev zc27e (l:List Ms):=sWhen (decide ((↑(List.map encMs l).length:Int) > 8)) (5:Int)
abbrev zc27f (l:List Ms) (g:Nat):=(!decide ((zc27b l g).w < 0))=true->(!decide ((zc27b l g).w < 0))=true
theorem c27 (h:Hm) (l:List Ms) (hm:h.nm.length<=1000000) (hw:h.ws.length<=1000) (hl:l.length<=1000) (hn:∀ x,x ∈ l->x.nm.length<=1000):PCall Tryz.prog G0 27 [.agg (encHm h),.sl 19 (l.map encMs)] (.i (fMs h l)):=by
 have key :
  PCall Tryz.prog G0 26 [AV.agg (encHm h)] (AV.i (fHm h))∧PCall Tryz.prog G0 109 [AV.bool (decide ((↑(List.map encMs l).length:Int) > 8)),AV.i 5] (AV.i (zc27e l))∧PCall Tryz.prog G0 107 [AV.sl 1 [[AV.i (fHm h)],[AV.i (zc27e
  l)]]] (AV.i (sFirst [hdI [AV.i (fHm h)],hdI [AV.i (zc27e l)]]))∧((sFirst [hdI [AV.i (fHm h)],hdI [AV.i (zc27e l)]] != 0)=true->AV.i (sFirst [hdI [AV.i (fHm h)],hdI [AV.i (zc27e l)]])=AV.i (fMs h l))∧((sFirst [hdI [AV.i
  (fHm h)],hdI [AV.i (zc27e l)]] != 0)=false->(∃ (g:Nat),(g<=l.length∧∀ (j:Nat),j < g->fM1 h.ws.length l j=(0:Int))∧AS.mk [(1,AV.sl 19 (List.map encMs l)),(2,AV.elt 3 [(encHm h)] 0 0),(6,AV.own 1 0),(7,AV.i
  0)] [(1,ABlk.buf 9 1 [])] 2=AS.mk [(1,AV.sl 19 (List.map encMs l)),(2,AV.elt 3 [(encHm h)] 0 0),(6,AV.own 1 (zc27c g l).length),(7,AV.i (g:Int))] [(1,ABlk.buf 9 1 (zc27c g l))] 2)∧∀ (g:Nat),(g<=l.length∧∀ (j :
  Nat),j < g->fM1 h.ws.length l j=(0:Int))->(decide ((g:Int) < (↑(List.map encMs l).length:Int))=true->(0:Int)<=(g:Int)∧(g:Int) < (↑(List.map encMs l).length:Int)∧AV.agg (nthR (List.map encMs l) (↑g :
  Int).toNat)=AV.agg (encMs (zc27b l g))∧(zc27f l g)∧(zc27f l g)∧(zc27f l g)∧(zc27f l g)∧(zc27f l g)∧(decide ((zc27b l g).w < 0)=false->(!decide ((zc27b l g).w < 0))=true)∧PCall Tryz.prog G0 108 [AV.str (zc27b l
  g).nm] (AV.i (sWhen (!sName (zc27b l g).nm) (8:Int)))∧PCall Tryz.prog G0 111 [AV.sl 1 (zc27c g l),AV.str (zc27b l g).nm] (AV.bool (hwR (zc27c g l) (zc27b l g).nm))∧PCall Tryz.prog G0 109 [AV.bool (hwR (zc27c g l) (zc27b l
  g).nm),AV.i 9] (AV.i (sWhen (hwR (zc27c g l) (zc27b l g).nm) (9:Int)))∧PCall Tryz.prog G0 109 [AV.bool (zc27d l g h),AV.i 10] (AV.i (sWhen (zc27d l g h) (10:Int)))∧PCall Tryz.prog G0 81 [AV.i (zc27b l g).c,AV.i 0,AV.i
  1000000] (AV.i (sWithin (zc27b l g).c (0:Int) (1000000:Int)))∧PCall Tryz.prog G0 112 [AV.agg (encPm (zc27b l g))] (AV.i (fPaC (encPm (zc27b l g))))∧PCall Tryz.prog G0 107 [AV.sl 1 [[AV.i (sWhen (!sName (zc27b l g).nm) (8 :
  Int))],[AV.i (sWhen (hwR (zc27c g l) (zc27b l g).nm) (9:Int))],[AV.i (sWhen (zc27d l g h) (10:Int))],[AV.i (sWithin (zc27b l g).c (0:Int) (1000000:Int))],[AV.i (fPaC (encPm (zc27b l g)))]]] (AV.i (sFirst (zc27a l g h)))
  ∧ ((sFirst (zc27a l g h) != 0)=true->AV.i (sFirst (zc27a l g h))=AV.i (fMs h l))∧((sFirst (zc27a l g h) != 0)=false->(zc27c g l).length+1<=9223372036854775807∧((zc27c g l).length+1) * 16<=140737488355328∧In64
  ((g:Int)+1)∧∃ (g':Nat),(g'<=l.length∧∀ (j:Nat),j < g'->fM1 h.ws.length l j=(0:Int))∧l.length-g' < l.length-g∧AS.mk [(1,AV.sl 19 (List.map encMs l)),(2,AV.elt 3 [(encHm h)] 0 0),(6,AV.own 1 ((zc27c
  g l).length+1)),(7,AV.i ((g:Int)+1))] [(1,ABlk.buf 9 1 (List.map encS (List.map Ms.nm (List.take g l))++[[AV.str (zc27b l g).nm]]))] 2=AS.mk [(1,AV.sl 19 (List.map encMs l)),(2,AV.elt 3 [(encHm h)] 0 0),(6,AV.own
  1 (List.map encS (List.map Ms.nm (List.take g' l))).length),(7,AV.i (↑g':Int))] [(1,ABlk.buf 9 1 (List.map encS (List.map Ms.nm (List.take g' l))))] 2))∧(decide ((g:Int) < (↑(List.map encMs l).length:Int))=false →
  AV.i 0=AV.i (fMs h l))):=by
   delta zc27a zc27b zc27c zc27d zc27e zc27f
   have hlm:(List.map encMs l).length=l.length:=List.length_map _
   have:(List.map encMs l).length=l.length:=by simp only [List.length_map]
   have:(List.map encWn h.ws).length=h.ws.length:=by simp only [List.length_map]
   refine ⟨(c26 h hm hw),(c109 _ _),(c107 [_,_] (by simp)),fun h1=>?_,fun h1=>?_⟩
   · have e:fMs h l=fMh h l:=ls_first (by rw [fMh_m];exact h1)
     rw [e,fMh_m]
     rfl
   · have hz:(fMh h l != 0)=false:=by rw [fMh_m];exact h1
     refine ⟨⟨0,⟨by omega,by intros;omega⟩,rfl⟩,fun g ⟨hg,ha⟩=>⟨fun hd=>?_,fun hd=>?_⟩⟩
     · have hlt:g < l.length:=by have h9:=of_decide_eq_true hd;have h8:=hg;(try simp only [List.length_map] at h8);(try simp only [List.length_map] at h9);omega
       have:(List.map encS (List.map Ms.nm (List.take g l))).length=g:=by simp only [List.length_map,List.length_take];omega
       have hfe:=fM1_r h l g
       have hpl:(List.map encS (List.map Ms.nm (List.take g l))).length=g:=by rw [List.length_map,List.length_map,List.length_take];omega
       try rw [show (g:Int).toNat=g from Int.toNat_natCast g]
       refine ⟨(by omega),(by omega),congrArg AV.agg (row_at encMs hlt),fun h=>h,fun h=>h,fun h=>h,fun h=>h,fun h=>h,fun h=>by first | exact h | (rw [h];rfl) | simp_all,(c108 _ (by have:=hn _ (getD_mem hlt);omega)),(c111h _ _ (by rw [List.length_map,List.length_take];omega)),(c109 _ _),(c109 _ _),(c81 _ _ _),((by rw [fPaC_m];exact c112 (l.getD g default).lo (l.getD g default).hi)),(c107 [_,_,_,_,_] (by simp)),fun h2=>?_,fun h2=>?_⟩
       · have h3:(fM1 h.ws.length l g != 0)=true:=by rw [hfe];exact h2
         have e:=ls_hit (fin:=0) (f:=fM1 h.ws.length l) hz (decide_eq_true (show (g:Int) < l.length by omega)) ha h3
         rw [show fMs h l=fM1 h.ws.length l g from e,hfe]
         rfl
       · have hgz:fM1 h.ws.length l g=0:=hfe.trans (bne_f h2)
         refine ⟨(by omega),(by omega),(by unfold In64;omega),⟨g+1,⟨by omega,all_ext ha hgz⟩,by omega,?_⟩⟩
         · rw [take_nm Ms.nm hlt,List.map_append,List.length_append]
           rfl
     · have hge:g=l.length:=by have h9:=of_decide_eq_false hd;have h8:=hg;(try simp only [List.length_map] at h8);(try simp only [List.length_map] at h9);omega
       subst hge
       exact congrArg AV.i (ls_end (f:=fM1 h.ws.length l) hz (decide_eq_false (Int.lt_irrefl _)) (Nat.le_refl _) ha).symm
 exact c_of Tryz.f27 (fzB (mkB (sp27 h) 27 [(8,3,rdL 19 encMs l 19 true)] (la0 (la27 h l)))) (by kernel_rfl) (by kernel_rfl) (by kernel_rfl) (by kernel_rfl) key (by kernel_rfl)
end Go.Proofs.YtfoeefaamjknpaaGreatDoor
namespace Go.Proofs.YtfoeefaamjknpaaGreatDoor
open Go Go.Av Go.RowKit
end Go.Proofs.YtfoeefaamjknpaaGreatDoor
namespace Go.Proofs.YtfoeefaamjknpaaGreatDoor
open Go Go.Av Go.RowKit
structure K5 (l:List Zn) (h:Hm):Prop where
 kl:l.length<=7
 kn:∀ x,x ∈ l->x.nm.length<=1000
 ko:h.nm.length<=40
 kw:h.ws.length<=9
theorem sh_zn {l:List Zn} (h:shZ l=true):l.length<=7∧∀ x,x ∈ l->x.nm.length<=1000:=by
 unfold shZ at h
 split at h
 · cases h
 · rename_i h1
   rw [decide_eq_true_eq] at h1
   have h2:=of_decide_eq_true h
   refine ⟨by omega,fun x hx=>?_⟩
   obtain ⟨i,hi,e⟩:=List.mem_iff_getElem.1 hx
   have h3:=fi_all h1 i hi
   unfold lnZ at h3
   rw [List.getD_eq_getElem?_getD,List.getElem?_eq_getElem hi,e] at h3
   have h3:decide ((x.nm.length:Int) > 40)=false:=h3
   have:=of_decide_eq_false h3
   omega
theorem sh_hm {h:Hm} (e:shH h=true):h.nm.length<=40∧h.ws.length<=9:=by
 unfold shH at e
 split at e
 · rename_i h1
   rw [decide_eq_true_eq] at h1
   have:=of_decide_eq_true e
   exact ⟨by omega,by omega⟩
 · cases e
end Go.Proofs.YtfoeefaamjknpaaGreatDoor
namespace Go.Proofs.YtfoeefaamjknpaaGreatDoor
open Go Go.Av Go.RowKit
structure Wk where
 s:List Int
 t:Int
 p:Int
 m:Iv
def encWk (x:Wk):List AV:=[.sl 1 (x.s.map encI),.i x.t,.i x.p,.i x.m.a,.i x.m.b]
def iV1 (h:Hm):Int:=if (fHm h != 0)=true then 0 else inL h.ws h.ws.length
def iV2 (h:Hm):Int:=if (fHm h != 0)=true then 0 else inH h.ws h.ws.length
def lV1 (h:Hm):Int:=if (fHm h != 0)=true then 0 else lvl (inL h.ws h.ws.length)
def lV2 (h:Hm):Int:=if (fHm h != 0)=true then 0 else lvl (inH h.ws h.ws.length)
structure K3 (h:Hm) (l:List Ms) (x:Wk):Prop where
 ko:h.nm.length<=40
 kw:h.ws.length<=9
 kl:l.length<=9
 kn:∀ y,y ∈ l->y.nm.length<=1000
 ks:x.s.length<=9
def mdB (g:List GS) (p:Prop) (l:List (Nat × AV)) (b:BL) (n:Nat):Option (List GS × AS × Prop):=some (g++[.keep (l.map (·.1)) (b.map (·.1)),.bound n],⟨l,b,n⟩,p)
def m3a (h:Hm) (l:List Ms) (x:Wk):List (Nat × AV):=[(1,.sl 19 (l.map encMs)),(3,.elt 3 [encHm h] 0 0),(5,.elt 5 [encWk x] 0 0),(7,.i (ouV h)),(8,.i (fHm h)),(9,.elt 2 [[.i (iV1 h),.i (iV2 h)]] 0 0),(10,.i (fHm h)),(11,.elt 2 [[.i (lV1 h),.i (lV2 h)]] 0 0),(12,.i (fHm h)),(13,.elt 3 [encHm (afV h l x.s)] 0 0),(14,.i (ckE h l x.s)),(15,.bool (suV h l x.s x.t)),(16,.i (suE h l x.s x.t)),(17,.str (veV h l x.s x.m)),(18,.i (veE h l x.s x.m)),(19,.i (fHm h))]
def m3b (h:Hm) (_:List Ms) (_:Wk):List (Nat × AV):=[(21,.i (ouV h)),(24,.elt 2 [[.i (iV1 h),.i (iV2 h)]] 0 0),(25,.elt 2 [[.i (lV1 h),.i (lV2 h)]] 0 0)]
def b26:ABlk:=.box [.str [],.i 0,.sl 25 []]
def m3 (h:Hm) (l:List Ms) (x:Wk):List (Option (List GS × AS × Prop)) :=
 [none,none,none,none,none,none,none,none,none,none,none,none,none,
  mdB [.reno 24 1,.reno 25 2,.reno 26 3,.nilb 3 2 25] (K3 h l x) (m3a h l x++[(20,.i (fMs h l)),(21,.i 0),(22,.bool false),(23,.str []),(24,.ptr 1 0),(25,.ptr 2 0),(26,.ptr 3 0)]) [(1,.box [.i 0,.i 0]),(2,.box [.i 0,.i 0]),(3,b26)] 4,none,
  mdB [.frzo 24,.frzo 25,.reno 26 1] (K3 h l x) (m3a h l x++[(20,.i (fMs h l)),(22,.bool false),(23,.str []),(26,.ptr 1 0)]++m3b h l x) [(1,b26)] 2,none,
  mdB [] (K3 h l x) (m3a h l x++[(20,.i (ckE h l x.s)),(22,.bool false),(23,.str []),(26,.ptr 1 0)]++m3b h l x) [(1,b26)] 2,
  mdB [] (K3 h l x) (m3a h l x++[(20,.i (ckE h l x.s)),(22,.bool false),(23,.str []),(26,.ptr 1 0),(27,.i (suE h l x.s x.t)),(28,.i (veE h l x.s x.m))]++m3b h l x) [(1,b26)] 2,none,
  mdB [.frzo 26] (K3 h l x) (m3a h l x++[(20,.i (ckE h l x.s)),(22,.bool false),(23,.str []),(26,.elt 3 [encHm (afV h l x.s)] 0 0),(27,.i (suE h l x.s x.t)),(28,.i (veE h l x.s x.m))]++m3b h l x) [] 1,none,
  mdB [] (K3 h l x) (m3a h l x++[(20,.i (ckE h l x.s)),(22,.bool (suV h l x.s x.t)),(23,.str []),(26,.elt 3 [encHm (afV h l x.s)] 0 0),(27,.i (suE h l x.s x.t)),(28,.i (veE h l x.s x.m))]++m3b h l x) [] 1,none,
  mdB [] (K3 h l x) (m3a h l x++[(20,.i (ckE h l x.s)),(22,.bool (suV h l x.s x.t)),(23,.str (veV h l x.s x.m)),(26,.elt 3 [encHm (afV h l x.s)] 0 0),(27,.i (suE h l x.s x.t)),(28,.i (veE h l x.s x.m))]++m3b h l x) [] 1,none]
theorem sh_ms {l:List Ms} (h:shM l=true):l.length<=9∧∀ x,x ∈ l->x.nm.length<=1000:=by
 unfold shM at h
 split at h
 · cases h
 · rename_i h1
   rw [decide_eq_true_eq] at h1
   refine ⟨?_,fun x hx=>?_⟩
   · split at h
     · rename_i h2
       rw [decide_eq_true_eq] at h2
       omega
     · have:(l.length:Int)=9:=by simpa using h
       omega
   · obtain ⟨i,hi,e⟩:=List.mem_iff_getElem.1 hx
     have h3:=fi_all h1 i hi
     unfold lnM at h3
     rw [List.getD_eq_getElem?_getD,List.getElem?_eq_getElem hi,e] at h3
     have h3:decide ((x.nm.length:Int) > 40)=false:=h3
     have:=of_decide_eq_false h3
     omega
end Go.Proofs.YtfoeefaamjknpaaGreatDoor
namespace Go.Proofs.YtfoeefaamjknpaaGreatDoor
open Go Go.Av Go.RowKit Go.ChangeShapes Go.WideShapes
end Go.Proofs.YtfoeefaamjknpaaGreatDoor
namespace Go.Proofs.YtfoeefaamjknpaaGreatDoor
open Go Go.Av Go.RowKit
def lx:List Int->List Int->Bool
 | [],[]=>false
 | [],_::_=>true
 | _::_,[]=>false
 | x::a,y::b=>if x=y then lx a b else decide (x < y)
theorem drop_at {a:List Int} {i:Nat} (h:i < a.length):a.drop i=a.getD i default::a.drop (i+1):=by
 rw [List.getD_eq_getElem?_getD,List.getElem?_eq_getElem h]
 exact List.drop_eq_getElem_cons h
theorem c207 (x:Int) :PCall Tryz.prog G0 207 [.i x] (.bool false):=by
 have key :
  AV.bool (x != x)=AV.bool false∧AV.bool false=AV.bool false:=by
   refine ⟨?_,?_⟩
   · first | rfl | exact congrArg AV.bool (bne_self_eq_false x)
   · first | rfl | exact congrArg AV.bool (bne_self_eq_false x)
 exact c_of Tryz.f207 (mkB spW 207 [(1,2,fun _=>some (.bool false))] noLa) (by kernel_rfl) (by kernel_rfl) (by kernel_rfl) (by kernel_rfl) key (by kernel_rfl)
def cmI (x y:Int):Int:=if decide (x < y)=true then -1 else if decide (x > y)=true then 1 else 0
def sp193:Nat->List AV->Option AV
 | 207,_=>some (.bool false)
 | n,x=>spW n x
theorem c193 (x y:Int) :PCall Tryz.prog G0 193 [.i x,.i y] (.i (cmI x y)):=by
 have key :
  PCall Tryz.prog G0 207 [AV.i x] (AV.bool false)∧PCall Tryz.prog G0 207 [AV.i y] (AV.bool false)∧(decide (x < y)=true->AV.i (-1)=AV.i (cmI x y))∧(decide (x < y)=false->(decide (x > y)=true->AV.i 1=AV.i (cmI x y))
  ∧ (decide (x > y)=false->AV.i 0=AV.i (cmI x y))):=by
   refine ⟨(c207 _),(c207 _),fun h1=>?_,fun h1=>⟨fun h2=>?_,fun h2=>?_⟩⟩
   · unfold cmI
     simp only [*,if_true,if_false,Bool.false_eq_true]
   · unfold cmI
     simp only [*,if_true,if_false,Bool.false_eq_true]
   · unfold cmI
     simp only [*,if_true,if_false,Bool.false_eq_true]
 exact c_of Tryz.f193 ({ mkB sp193 193 [] noLa with cl:=clL [11,13] }) (by kernel_rfl) (by kernel_rfl) (by kernel_rfl) (by kernel_rfl) key (by kernel_rfl)
def cmL:List Int->List Int->Int
 | [],[]=>0
 | [],_::_ => -1
 | _::_,[]=>1
 | x::a,y::b=>if x=y then cmL a b else if x < y then -1 else 1
theorem cmL_pre:∀ {i:Nat} {a b:List Int},i<=a.length->(∀ j,j < i->a.getD j default=b.getD j default∧j < b.length)->cmL a b=cmL (a.drop i) (b.drop i)
 | 0,_,_,_,_=>rfl
 | i+1,[],_,h,_=>by simp at h
 | i+1,x::a,[],_,h=>by have:=(h 0 (by omega)).2;simp at this
 | i+1,x::a,y::b,h,hj=>by
  have e:x=y:=(hj 0 (by omega)).1
  rw [cmL,if_pos e,List.drop_succ_cons,List.drop_succ_cons]
  refine cmL_pre (by simpa using h) fun j hj2=>?_
  have:=hj (j+1) (by omega)
  simpa using this
theorem cmL_lx:∀ a b:List Int,(cmL a b < 0 ↔ lx a b=true)∧(cmL a b=0 ↔ a=b)
 | [],[]=>by simp [cmL,lx]
 | [],_::_=>by simp [cmL,lx]
 | _::_,[]=>by simp [cmL,lx]
 | x::a,y::b=>by
  rw [cmL,lx]
  by_cases e:x=y
  · rw [if_pos e,if_pos e]
    have:=cmL_lx a b
    refine ⟨this.1,?_⟩
    rw [this.2,e]
    simp
  · rw [if_neg e,if_neg e]
    by_cases h:x < y
    · rw [if_pos h,decide_eq_true h]
      simp [e]
    · rw [if_neg h,decide_eq_false h]
      simp [e]
def sp194:Nat->List AV->Option AV
 | 193,[.int _ x,.int _ y]=>some (.i (cmI x y))
 | n,x=>spW n x
def la194 (a b:List Int):LA:={
 pre:=[.keep [0,1,9,10,11] [],.bound 1],post:=[.keep [0,1,9,10,11] [],.bound 1]
 Gh:=Nat
 st:=fun i=>⟨[(0,.sl 1 (a.map encI)),(1,.sl 1 (b.map encI)),(9,.sl 1 (a.map encI)),(10,.i (a.map encI).length),(11,.i i)],[],1⟩
 ok:=fun i=>i<=a.length∧∀ j,j < i->a.getD j default=b.getD j default∧j < b.length
 ms:=fun i=>a.length-i }
theorem cmI_0 {x y:Int} (h:(cmI x y != 0)=false):x=y:=by
 unfold cmI at h
 by_cases h1:x < y
 · rw [if_pos (decide_eq_true h1)] at h;cases h
 · rw [if_neg (by simpa using h1)] at h
   by_cases h2:x > y
   · rw [if_pos (decide_eq_true h2)] at h;cases h
   · omega
theorem cmI_ne {x y:Int} (h:(cmI x y != 0)=true):¬ x=y∧cmI x y=if x < y then -1 else 1:=by
 unfold cmI at h ⊢
 by_cases h1:x < y
 · rw [if_pos (decide_eq_true h1),if_pos h1];exact ⟨by omega,rfl⟩
 · rw [if_neg (by simpa using h1)] at h ⊢
   rw [if_neg h1]
   by_cases h2:x > y
   · rw [if_pos (decide_eq_true h2)];exact ⟨by omega,rfl⟩
   · rw [if_neg (by simpa using h2)] at h;cases h
abbrev zc194a (a:List Int):=(↑(List.map encI a).length:Int)
theorem c194 (a b:List Int) (ha0:a.length<=1000) (hb0:b.length<=1000):PCall Tryz.prog G0 194 [.sl 1 (a.map encI),.sl 1 (b.map encI)] (.i (cmL a b)):=by
 have key :
  (∃ (g:Nat),(g<=a.length∧∀ (j:Nat),j < g->a.getD j default=b.getD j default∧j < b.length)∧AS.mk [(0,AV.sl 1 (List.map encI a)),(1,AV.sl 1 (List.map encI b)),(9,AV.sl 1 (List.map encI a)),(10,AV.i (zc194a a)),
  (11,AV.i 0)] [] 1=AS.mk [(0,AV.sl 1 (List.map encI a)),(1,AV.sl 1 (List.map encI b)),(9,AV.sl 1 (List.map encI a)),(10,AV.i (zc194a a)),(11,AV.i (g:Int))] [] 1)∧∀ (g:Nat),(g<=a.length∧∀ (j:Nat),j < g →
  a.getD j default=b.getD j default∧j < b.length)->(decide ((g:Int) < (zc194a a))=true->(0:Int)<=(g:Int)∧(g:Int) < (zc194a a)∧nth (nthR (List.map encI a) (g:Int).toNat) 0=AV.i (a.getD (g:Int).toNat
  default)∧(decide ((g:Int)>=(↑(List.map encI b).length:Int))=true->AV.i 1=AV.i (cmL a b))∧(decide ((g:Int)>=(↑(List.map encI b).length:Int))=false->(0:Int)<=(g:Int)∧(g:Int) < (↑(List.map encI
  b).length:Int)∧nth (nthR (List.map encI b) (g:Int).toNat) 0=AV.i (b.getD (g:Int).toNat default)∧PCall Tryz.prog G0 193 [AV.i (a.getD (g:Int).toNat default),AV.i (b.getD (g:Int).toNat default)] (AV.i (cmI
  (a.getD (g:Int).toNat default) (b.getD (g:Int).toNat default)))∧((cmI (a.getD (g:Int).toNat default) (b.getD (g:Int).toNat default) != 0)=true->AV.i (cmI (a.getD (g:Int).toNat default) (b.getD (g:Int).toNat
  default))=AV.i (cmL a b))∧((cmI (a.getD (g:Int).toNat default) (b.getD (g:Int).toNat default) != 0)=false->In64 ((g:Int)+1)∧∃ (g':Nat),(g'<=a.length∧∀ (j:Nat),j < g'->a.getD j default=b.getD j
  default∧j < b.length)∧a.length-g' < a.length-g∧AS.mk [(0,AV.sl 1 (List.map encI a)),(1,AV.sl 1 (List.map encI b)),(9,AV.sl 1 (List.map encI a)),(10,AV.i (zc194a a)),(11,AV.i ((g:Int)+1))] [] 1=AS.mk [(0,
  AV.sl 1 (List.map encI a)),(1,AV.sl 1 (List.map encI b)),(9,AV.sl 1 (List.map encI a)),(10,AV.i (zc194a a)),(11,AV.i (↑g':Int))] [] 1)))∧(decide ((g:Int) < (zc194a a))=false->(decide ((zc194a a) < (↑(List.map encI
  b).length:Int))=true->AV.i (-1)=AV.i (cmL a b))∧(decide ((zc194a a) < (↑(List.map encI b).length:Int))=false->AV.i 0=AV.i (cmL a b))):=by
   delta zc194a
   have:(List.map encI a).length=a.length:=by simp only [List.length_map]
   have:(List.map encI b).length=b.length:=by simp only [List.length_map]
   refine ⟨⟨0,⟨by omega,by intros;omega⟩,rfl⟩,fun g ⟨hg,ha⟩=>⟨fun hd=>?_,fun hd=>?_⟩⟩
   · have hlt:g < a.length:=by have h9:=of_decide_eq_true hd;have h8:=hg;(try simp only [List.length_map] at h8);(try simp only [List.length_map] at h9);omega
     try rw [show (g:Int).toNat=g from Int.toNat_natCast g]
     refine ⟨(by omega),(by omega),congrArg (fun r=>nth r 0) (row_at encI hlt),fun h1=>?_,fun h1=>?_⟩
     · have hbl:b.length<=g:=by have h9:=of_decide_eq_true h1;rw [List.length_map] at h9;omega
       rw [cmL_pre hg ha,drop_at hlt,List.drop_of_length_le hbl]
       rfl
     · have hbl:g < b.length:=by have h9:=of_decide_eq_false h1;rw [List.length_map] at h9;omega
       refine ⟨(by omega),(by omega),congrArg (fun r=>nth r 0) (row_at encI hbl),(c193 _ _),fun h2=>?_,fun h2=>⟨(by unfold In64;omega),⟨g+1,⟨by omega,all_ext ha ⟨cmI_0 h2,hbl⟩⟩,by omega,rfl⟩⟩⟩
       · obtain ⟨e1,e2⟩:=cmI_ne h2
         rw [cmL_pre hg ha,drop_at hlt,drop_at hbl,cmL,if_neg e1,e2]
   · have hge:g=a.length:=by have h9:=of_decide_eq_false hd;have h8:=hg;(try simp only [List.length_map] at h8);(try simp only [List.length_map] at h9);omega
     subst hge
     refine ⟨fun h1=>?_,fun h1=>?_⟩
     · have h9:=of_decide_eq_true h1
       rw [List.length_map,List.length_map] at h9
       rw [cmL_pre hg ha,List.drop_of_length_le (Nat.le_refl _),drop_at (show a.length < b.length by omega)]
       rfl
     · have h9:=of_decide_eq_false h1
       rw [List.length_map,List.length_map] at h9
       rw [cmL_pre hg ha,List.drop_of_length_le (Nat.le_refl _),List.drop_of_length_le (show b.length<=a.length by omega)]
       rfl
 exact c_of Tryz.f194 (mkB sp194 194 [(3,2,rdL 1 encI a 1 false),(6,3,rdL 1 encI b 1 false)] (la1 (la194 a b))) (by kernel_rfl) (by kernel_rfl) (by kernel_rfl) (by kernel_rfl) key (by kernel_rfl)
def la192 (l:List Int):LA:={
 pre:=[.keep [3,6,7,8] [],.bound 1],post:=[.keep [3,6,7,8] [],.bound 1]
 Gh:=Nat
 st:=fun i=>⟨[(3,.i 0),(6,.sl 1 (l.map encI)),(7,.i (l.map encI).length),(8,.i i)],[],1⟩
 ok:=fun i=>i<=l.length∧∀ j,j < i->l.getD j default=0
 ms:=fun i=>l.length-i }
theorem or_at {l:List Int}:sFirst l=sScan (fun i=>l.getD i default) l.length 0:=by
 have:=scan_getG (fun x:Int=>x) l
 rw [List.map_id'] at this
 exact this.symm
theorem c192 (l:List Int) (hl:l.length<=1000):PCall Tryz.prog G0 192 [.sl 1 (l.map encI)] (.i (sFirst l)):=by
 have key :
  (∃ (g:Nat),(g<=l.length∧∀ (j:Nat),j < g->l.getD j default=(0:Int))∧AS.mk [(3,AV.i 0),(6,AV.sl 1 (List.map encI l)),(7,AV.i (↑(List.map encI l).length:Int)),(8,AV.i 0)] [] 1=AS.mk [(3,AV.i 0),(6,AV.sl 1
  (List.map encI l)),(7,AV.i (↑(List.map encI l).length:Int)),(8,AV.i (g:Int))] [] 1)∧∀ (g:Nat),(g<=l.length∧∀ (j:Nat),j < g->l.getD j default=(0:Int))->(decide ((g:Int) < (↑(List.map encI l).length :
  Int))=true->(0:Int)<=(g:Int)∧(g:Int) < (↑(List.map encI l).length:Int)∧nth (nthR (List.map encI l) (g:Int).toNat) 0=AV.i (l.getD (g:Int).toNat default)∧((l.getD (g:Int).toNat default != 0)=true →
  AV.i (l.getD (g:Int).toNat default)=AV.i (sFirst l))∧((l.getD (g:Int).toNat default != 0)=false->In64 ((g:Int)+1)∧∃ (g':Nat),(g'<=l.length∧∀ (j:Nat),j < g'->l.getD j default=(0:Int))∧l.length -
  g' < l.length-g∧AS.mk [(3,AV.i 0),(6,AV.sl 1 (List.map encI l)),(7,AV.i (↑(List.map encI l).length:Int)),(8,AV.i ((g:Int)+1))] [] 1=AS.mk [(3,AV.i 0),(6,AV.sl 1 (List.map encI l)),(7,AV.i (↑(List.map encI
  l).length:Int)),(8,AV.i (↑g':Int))] [] 1))∧(decide ((g:Int) < (↑(List.map encI l).length:Int))=false->AV.i 0=AV.i (sFirst l)):=by
   have:(List.map encI l).length=l.length:=by simp only [List.length_map]
   refine ⟨⟨0,⟨by omega,by intros;omega⟩,rfl⟩,fun g ⟨hg,ha⟩=>⟨fun hd=>?_,fun hd=>?_⟩⟩
   · have hlt:g < l.length:=by have h9:=of_decide_eq_true hd;have h8:=hg;(try simp only [List.length_map] at h8);(try simp only [List.length_map] at h9);omega
     try rw [show (g:Int).toNat=g from Int.toNat_natCast g]
     refine ⟨(by omega),(by omega),congrArg (fun r=>nth r 0) (row_at encI hlt),fun h1=>?_,fun h1=>⟨(by unfold In64;omega),⟨g+1,⟨by omega,all_ext ha (bne_f h1)⟩,by omega,rfl⟩⟩⟩
     · rw [or_at,scan_hit (f:=fun i=>l.getD i default) hlt ha (bne_t h1)]
   · have hge:g=l.length:=by have h9:=of_decide_eq_false hd;have h8:=hg;(try simp only [List.length_map] at h8);(try simp only [List.length_map] at h9);omega
     subst hge
     rw [or_at,scan_end (f:=fun i=>l.getD i default) ha]
 exact c_of Tryz.f192 (mkB spW 192 [(4,1,rdL 1 encI l 1 false)] (la1 (la192 l))) (by kernel_rfl) (by kernel_rfl) (by kernel_rfl) (by kernel_rfl) key (by kernel_rfl)
end Go.Proofs.YtfoeefaamjknpaaGreatDoor
namespace Go.Proofs.YtfoeefaamjknpaaGreatDoor
open Go Go.Av Go.RowKit
structure Ch where
 c:Int
 u:Int
 s:List Int
def encCh (x:Ch):List AV:=[.i x.c,.i x.u,.sl 1 (x.s.map encI)]
def cmC (x y:Ch):Int:=sFirst [cmI x.c y.c,cmI x.u y.u,cmL x.s y.s]
def sp176 (x y:Ch):Nat->List AV->Option AV
 | 193,[.int _ a,.int _ b]=>some (.i (cmI a b))
 | 194,_=>some (.i (cmL x.s y.s))
 | 192,[.sl _ rows]=>some (.i (sFirst (rows.map hdI)))
 | n,z=>spW n z
theorem c176 (x y:Ch) (hx:x.s.length<=1000) (hy:y.s.length<=1000):PCall Tryz.prog G0 176 [.agg (encCh x),.agg (encCh y)] (.i (cmC x y)):=by
 have key :
  PCall Tryz.prog G0 193 [AV.i x.c,AV.i y.c] (AV.i (cmI x.c y.c))∧PCall Tryz.prog G0 193 [AV.i x.u,AV.i y.u] (AV.i (cmI x.u y.u))∧PCall Tryz.prog G0 194 [AV.sl 1 (List.map encI x.s),AV.sl 1 (List.map encI y.s)] (AV.i (cmL x.s
  y.s))∧PCall Tryz.prog G0 192 [AV.sl 1 [[AV.i (cmI x.c y.c)],[AV.i (cmI x.u y.u)],[AV.i (cmL x.s y.s)]]] (AV.i (sFirst [hdI [AV.i (cmI x.c y.c)],hdI [AV.i (cmI x.u y.u)],hdI [AV.i (cmL x.s y.s)]]))∧AV.i (sFirst [hdI [AV.i
  (cmI x.c y.c)],hdI [AV.i (cmI x.u y.u)],hdI [AV.i (cmL x.s y.s)]])=AV.i (cmC x y):=by
   refine ⟨(c193 _ _),(c193 _ _),(c194 _ _ hx hy),(c192 [cmI x.c y.c,cmI x.u y.u,cmL x.s y.s] (by simp)),?_⟩
   · rfl
 exact c_of Tryz.f176 (fzB (mkB (sp176 x y) 176 [] noLa)) (by kernel_rfl) (by kernel_rfl) (by kernel_rfl) (by kernel_rfl) key (by kernel_rfl)
theorem c177 (rows:List (List AV)) :PCall Tryz.prog G0 177 [.sl 19 rows] (.fn (.func 195) [] [.elt 1 [[.sl 19 rows]] 0 0]):=by
 have key :
  AV.fn (Fn.func 195) [] [AV.elt 1 [[AV.sl 19 rows]] 0 0]=AV.fn (Fn.func 195) [] [AV.elt 1 [[AV.sl 19 rows]] 0 0]:=by
   rfl
 exact c_of Tryz.f177 (mkB spW 177 [] noLa) (by kernel_rfl) (by kernel_rfl) (by kernel_rfl) (by kernel_rfl) key (by kernel_rfl)
def csN (l:List Ms) (g:List Int):Nat->Int
 | 0=>0
 | k+1=>csN l g k+(msI l (g.getD k default)).c
theorem cs_bd {n:Nat} {l:List Ms} {g:List Int} (hl:∀ i,i < l.length->MsOK n (l.getD i default)) (hg:∀ j,j < g.length->0<=g.getD j default∧g.getD j default < l.length):∀ k,k<=g.length->0<=csN l g k∧csN l g k<=1000000 * k
 | 0,_=>by simp [csN]
 | k+1,h=>by
  have h1:=cs_bd hl hg k (by omega)
  have h2:=hg k (by omega)
  have h3:=(hl (g.getD k default).toNat (by omega)).c0
  rw [csN]
  unfold msI
  omega
def costN (l:List Ms) (g:List Int):Int:=csN l g g.length
end Go.Proofs.YtfoeefaamjknpaaGreatDoor
namespace Go.Proofs.YtfoeefaamjknpaaGreatDoor
open Go Go.Av Go.RowKit
def chM (h:Hm) (l:List Ms) (g:List Int):Ch:=⟨costN l g,afU h l g,g⟩
def bsM (l:List Ms) (b:Nat):List Int:=bitsM b (l.map encMs).length
def okM (l:List Ms) (b:Nat):Bool:=fSet l (((bsM l b).map encI).map hdI) == 0
def msk (l:List Ms):List Nat:=(List.range (pwN (l.map encMs).length)).filter (okM l)
def chO (h:Hm) (l:List Ms):Option Nat->Ch
 | none=>⟨0,0,[]⟩
 | some b=>chM h l (bsM l b)
def taB (h:Hm) (l:List Ms) (t:Int) (o:Option Nat) (b:Nat):Bool :=
 if decide (afU h l (bsM l b)<=t)=true then (if (!o.isSome)=true then true else decide (cmC (chM h l (bsM l b)) (chO h l o) < 0)) else false
def stB (h:Hm) (l:List Ms) (t:Int) (o:Option Nat) (b:Nat):Option Nat:=if taB h l t o b=true then some b else o
def bst (h:Hm) (l:List Ms) (t:Int):Option Nat:=(msk l).foldl (stB h l t) none
theorem ws_dec:∀ l:List Wn,(l.map encWn).map decWn=l
 | []=>rfl
 | x::l=>by rw [List.map_cons,List.map_cons,ws_dec l,decWn_e]
def sp122 (h:Hm) (l:List Ms):Nat->List AV->Option AV
 | 177,[.sl _ rows]=>some (.fn (.func 195) [] [.elt 1 [[.sl 19 rows]] 0 0])
 | 103,[_,_,.sl _ rows]=>some (.agg (encHm (afH h l (rows.map hdI))))
 | 100,[.agg [_,_,.sl _ rows]]=>some (.agg [.i (inL (rows.map decWn) rows.length),.i (inH (rows.map decWn) rows.length)])
 | 176,[.agg [.int _ a,.int _ b,.sl _ r],.agg [.int _ a',.int _ b',.sl _ r']]=>some (.i (cmC ⟨a,b,r.map hdI⟩ ⟨a',b',r'.map hdI⟩))
 | n,z=>spW n z
def bl122 (h:Hm) (l:List Ms) (o:Option Nat):BL:=[(1,.box [.i 0,.i 0,.ex (.slice none 0 0)]),(2,.box (encCh (chO h l o))),(3,.box [.bool o.isSome]),(4,.box [.fn (.func 176) [] []])]
def sl122 (h:Hm) (l:List Ms) (t:Int):List (Nat × AV):=[(3,.elt 3 [encHm h] 0 0),(4,.elt 1 [[.sl 19 (l.map encMs)]] 0 0),(5,.elt 1 [[.i t]] 0 0),(6,.ptr 1 0),(8,.ptr 2 0),(9,.ptr 3 0),(10,.ptr 4 0),(16,.fn (.func 195) [] [.elt 1 [[.sl 19 (l.map encMs)]] 0 0])]
def fa122 (h:Hm) (l:List Ms) (t:Int):FA:={
 X:=Nat,xs:=msk l,enc:=fun b=>[.sl 1 ((bsM l b).map encI)]
 post:=[.keep [] [1,2,3,4],.bound 5]
 Gh:=Option Nat
 st:=fun o=>⟨sl122 h l t,bl122 h l o,5⟩
 ok:=fun pre o=>o=pre.foldl (stB h l t) none }
def rdH:List AV->Option AV
 | [.elt _ rows i _]=>some (.i (hdI (nthR rows i)))
 | _=>none
def la122 (h:Hm) (l:List Ms) (t:Int):LA:={
 pre:=[.reno 12 5,.keep [3,4,5,6,8,9,10,16,11,12,27,28,29] [1,2,3,4,5],.bound 6],post:=[.keep [3,4,5,6,8,9,10,16,11,12,27,28,29] [1,2,3,4,5],.bound 6]
 Gh:=Option Nat × Nat × Nat
 st:=fun q=>⟨sl122 h l t++[(11,.sl 1 ((bsM l q.2.1).map encI)),(12,.ptr 5 0),(27,.sl 1 ((bsM l q.2.1).map encI)),(28,.i ((bsM l q.2.1).map encI).length),(29,.i q.2.2)],bl122 h l q.1++[(5,.box [.i (csN l (bsM l q.2.1) q.2.2),.i (afU h l (bsM l q.2.1)),.sl 1 ((bsM l q.2.1).map encI)])],6⟩
 ok:=fun q=>q.2.2<=(bsM l q.2.1).length
 rel:=some fun q0 q=>q.1=q0.1∧q.2.1=q0.2.1
 ms:=fun q=>(bsM l q.2.1).length-q.2.2 }
theorem bs_len (l:List Ms) (b:Nat):(bsM l b).length<=l.length:=by
 have:=bits_len b (l.map encMs).length
 have h2:(l.map encMs).length=l.length:=List.length_map _
 unfold bsM
 omega
theorem ch_len (h:Hm) (l:List Ms) (o:Option Nat):(chO h l o).s.length<=l.length:=by
 cases o with
 | none=>exact Nat.zero_le _
 | some b=>exact bs_len l b
theorem ok_z {l:List Ms} {b:Nat} (e:okM l b=true):fSet l (bsM l b)=0:=by
 unfold okM at e
 rw [hd_encI] at e
 exact eq_of_beq e
theorem msk_z {l:List Ms} {x:Nat} (e:x ∈ msk l):fSet l (bsM l x)=0:=ok_z (List.mem_filter.1 e).2
theorem seq195 {l:List Ms} (hl:l.length<=8):PSeq Tryz.prog G0 195 [.elt 1 [[.sl 19 (l.map encMs)]] 0 0] ((msk l).map fun b=>[AV.sl 1 ((bsM l b).map encI)]) :=
 s195 (l.map encMs) (fun r=>fSet l (r.map hdI)) (by rw [List.length_map];omega) fun b _=>by
  have hbl:=bs_len l b
  show PCall Tryz.prog G0 169 [.sl 19 (l.map encMs),.sl 1 ((bsM l b).map encI)] (.i (fSet l (((bsM l b).map encI).map hdI)))
  rw [hd_encI]
  exact c169 l (bsM l b) (by omega)
abbrev zc122g (l:List Ms):=[[AV.sl 19 (List.map encMs l)]]
abbrev zc122a (h:Hm) (l:List Ms) (t:Int):=[(3,AV.elt 3 [(encHm h)] 0 0),(4,AV.elt 1 (zc122g l) 0 0),(5,AV.elt 1 [[AV.i t]] 0 0),(6,AV.ptr 1 0),(8,AV.ptr 2 0),(9,AV.ptr 3 0),(10,AV.ptr 4 0),(16,AV.fn (Fn.func 195) [] [AV.elt 1 (zc122g l) 0 0])]
abbrev zc122b (h:Hm) (l:List Ms) (x:Nat):=List.map encWn (aft h.ws l (List.map hdI (List.map encI (bsM l x))))
abbrev zc122c (l:List Ms) (g:Option Nat × Nat × Nat):=List.map encI (bsM l g.snd.fst)
abbrev zc122d:=[AV.i 0,AV.i 0,AV.ex (Value.slice none 0 0)]
abbrev zc122e (h:Hm) (l:List Ms) (g:Option Nat × Nat × Nat) (t:Int):=decide (afU h l (bsM l g.snd.fst)<=t) && !!g.fst.isSome
abbrev zc122f (h:Hm) (l:List Ms) (g:Option Nat × Nat × Nat) (t:Int):=if decide (afU h l (bsM l g.snd.fst)<=t)=true then if (!g.fst.isSome)=true then true else decide (cmC (Ch.mk (csN l (bsM l g.snd.fst) g.snd.snd) (afU h l (bsM l g.snd.fst)) (List.map hdI (zc122c l g))) (Ch.mk (chO h l g.fst).c (chO h l g.fst).u (List.map hdI (List.map encI (chO h l g.fst).s))) < 0) else false
abbrev zc122h (l:List Ms) (g:Option Nat × Nat × Nat):=nthR (zc122c l g) (↑g.snd.snd:Int).toNat
abbrev zc122i (h:Hm) (l:List Ms) (g:Option Nat × Nat × Nat) (t:Int):=decide (afU h l (bsM l g.snd.fst)<=t)=true->decide (afU h l (bsM l g.snd.fst)<=t)=true
abbrev zc122j:=[AV.fn (Fn.func 176) [] []]
theorem c122 (h:Hm) (l:List Ms) (t:Int) (q1:fMs h l=0):PCall Tryz.prog G0 122 [.agg (encHm h),.sl 19 (l.map encMs),.i t] (.tup [.agg (encCh (chO h l (bst h l t))),.bool (bst h l t).isSome]):=by
 have key :
  PCall Tryz.prog G0 177 [AV.sl 19 (List.map encMs l)] (AV.fn (Fn.func 195) [] [AV.elt 1 (zc122g l) 0 0])∧PSeq Tryz.prog G0 195 [AV.elt 1 (zc122g l) 0 0] (List.map (fa122 h l t).enc (msk l))∧(∀ (x:Nat),1=1)∧(∃ (g:Option
  Nat),g=none∧AS.mk (zc122a h l t) [(1,ABlk.box zc122d),(2,ABlk.box [AV.i 0,AV.i 0,AV.sl 1 []]),(3,ABlk.box [AV.bool false]),(4,ABlk.box zc122j)] 5=AS.mk (zc122a h l t) [(1,ABlk.box zc122d),(2,ABlk.box (encCh (chO
  h l g))),(3,ABlk.box [AV.bool g.isSome]),(4,ABlk.box zc122j)] 5)∧(∀ (pre:List (Nat)) (x:Nat) (post:List (Nat)) (g:Option Nat),msk l=pre++x::post->g=List.foldl (stB h l t) none pre->Exit.normal=Exit.normal
  ∧ false=false∧PCall Tryz.prog G0 103 [AV.agg (encHm h),AV.sl 19 (List.map encMs l),AV.sl 1 (List.map encI (bsM l x))] (AV.agg [AV.str h.nm,AV.i h.pe,AV.sl 25 (zc122b h l x)])∧PCall Tryz.prog G0 100 [AV.agg [AV.str h.nm,
  AV.i h.pe,AV.sl 25 (zc122b h l x)]] (AV.agg [AV.i (inL (List.map decWn (zc122b h l x)) (zc122b h l x).length),AV.i (inH (List.map decWn (zc122b h l x)) (zc122b h l x).length)])∧∃ (g0:Option Nat × Nat × Nat),g0.snd.snd<=(bsM
  l g0.snd.fst).length∧(g0.fst=g0.fst∧g0.snd.fst=g0.snd.fst)∧AS.mk [(3,AV.elt 3 [(encHm h)] 0 0),(4,AV.elt 1 (zc122g l) 0 0),(5,AV.elt 1 [[AV.i t]] 0 0),(6,AV.ptr 1 0),(8,AV.ptr 2 0),(9,AV.ptr 3 0),(10,AV.ptr 4
  0),(16,AV.fn (Fn.func 195) [] [AV.elt 1 (zc122g l) 0 0]),(11,AV.sl 1 (List.map encI (bsM l x))),(12,AV.ptr 5 0),(27,AV.sl 1 (List.map encI (bsM l x))),(28,AV.i (↑(List.map encI (bsM l x)).length:Int)),(29,AV.i 0)]
  [(1,ABlk.box zc122d),(2,ABlk.box (encCh (chO h l g))),(3,ABlk.box [AV.bool g.isSome]),(4,ABlk.box zc122j),(5,ABlk.box [AV.i 0,AV.i (inH (List.map decWn (zc122b h l x)) (zc122b h l x).length),AV.sl 1 (List.map encI (bsM l
  x))])] 6=AS.mk [(3,AV.elt 3 [(encHm h)] 0 0),(4,AV.elt 1 (zc122g l) 0 0),(5,AV.elt 1 [[AV.i t]] 0 0),(6,AV.ptr 1 0),(8,AV.ptr 2 0),(9,AV.ptr 3 0),(10,AV.ptr 4 0),(16,AV.fn (Fn.func 195) [] [AV.elt 1 (zc122g l) 0
  0]),(11,AV.sl 1 (List.map encI (bsM l g0.snd.fst))),(12,AV.ptr 5 0),(27,AV.sl 1 (List.map encI (bsM l g0.snd.fst))),(28,AV.i (↑(List.map encI (bsM l g0.snd.fst)).length:Int)),(29,AV.i (↑g0.snd.snd:Int))] [(1,ABlk.box
  zc122d),(2,ABlk.box (encCh (chO h l g0.fst))),(3,ABlk.box [AV.bool g0.fst.isSome]),(4,ABlk.box zc122j),(5,ABlk.box [AV.i (csN l (bsM l g0.snd.fst) g0.snd.snd),AV.i (afU h l (bsM l g0.snd.fst)),AV.sl 1 (List.map encI (bsM
  l g0.snd.fst))])] 6∧∀ (g:Option Nat × Nat × Nat),g.snd.snd<=(bsM l g.snd.fst).length->g.fst=g0.fst∧g.snd.fst=g0.snd.fst->(decide ((↑g.snd.snd:Int) < (↑(zc122c l g).length:Int))=true->(0:Int)<=(↑g.snd.snd :
  Int)∧(↑g.snd.snd:Int) < (↑(zc122c l g).length:Int)∧nth (zc122h l g) 0=AV.i (hdI (zc122h l g))∧(0:Int)<=hdI (zc122h l g)∧hdI (zc122h l g) < (↑(List.map encMs l).length:Int)∧In64 (csN l (bsM l g.snd.fst)
  g.snd.snd+(l.getD (hdI (zc122h l g)).toNat default).c)∧nth (nthR (List.map encMs l) (hdI (zc122h l g)).toNat) 2=AV.i (l.getD (hdI (zc122h l g)).toNat default).c∧In64 ((↑g.snd.snd:Int)+1)∧∃ (g':Option Nat × Nat ×
  Nat),g'.snd.snd<=(bsM l g'.snd.fst).length∧(g'.fst=g0.fst∧g'.snd.fst=g0.snd.fst)∧(bsM l g'.snd.fst).length-g'.snd.snd < (bsM l g.snd.fst).length-g.snd.snd∧AS.mk [(3,AV.elt 3 [(encHm h)] 0 0),(4,AV.elt 1 (zc122g
  l) 0 0),(5,AV.elt 1 [[AV.i t]] 0 0),(6,AV.ptr 1 0),(8,AV.ptr 2 0),(9,AV.ptr 3 0),(10,AV.ptr 4 0),(16,AV.fn (Fn.func 195) [] [AV.elt 1 (zc122g l) 0 0]),(11,AV.sl 1 (zc122c l g)),(12,AV.ptr 5 0),(27,AV.sl 1 (zc122c
  l g)),(28,AV.i (↑(zc122c l g).length:Int)),(29,AV.i ((↑g.snd.snd:Int)+1))] [(1,ABlk.box zc122d),(2,ABlk.box (encCh (chO h l g.fst))),(3,ABlk.box [AV.bool g.fst.isSome]),(4,ABlk.box zc122j),(5,ABlk.box [AV.i (csN
  l (bsM l g.snd.fst) g.snd.snd+(l.getD (hdI (zc122h l g)).toNat default).c),AV.i (afU h l (bsM l g.snd.fst)),AV.sl 1 (zc122c l g)])] 6=AS.mk [(3,AV.elt 3 [(encHm h)] 0 0),(4,AV.elt 1 (zc122g l) 0 0),(5,AV.elt 1 [[AV.i t]]
  0 0),(6,AV.ptr 1 0),(8,AV.ptr 2 0),(9,AV.ptr 3 0),(10,AV.ptr 4 0),(16,AV.fn (Fn.func 195) [] [AV.elt 1 (zc122g l) 0 0]),(11,AV.sl 1 (List.map encI (bsM l g'.snd.fst))),(12,AV.ptr 5 0),(27,AV.sl 1 (List.map encI (bsM
  l g'.snd.fst))),(28,AV.i (↑(List.map encI (bsM l g'.snd.fst)).length:Int)),(29,AV.i (↑g'.snd.snd:Int))] [(1,ABlk.box zc122d),(2,ABlk.box (encCh (chO h l g'.fst))),(3,ABlk.box [AV.bool g'.fst.isSome]),(4,ABlk.box
  zc122j),(5,ABlk.box [AV.i (csN l (bsM l g'.snd.fst) g'.snd.snd),AV.i (afU h l (bsM l g'.snd.fst)),AV.sl 1 (List.map encI (bsM l g'.snd.fst))])] 6)∧(decide ((↑g.snd.snd:Int) < (↑(zc122c l g).length:Int))=false->(zc122i
  h l g t)∧(zc122i h l g t)∧((zc122e h l g t)=true->(zc122e h l g t)=true)∧((zc122e h l g t)=true->(zc122e h l g t)=true)∧((zc122e h l g t)=true->(zc122e h l g t)=true)∧((zc122e h l g t)=true->(zc122e h l
  g t)=true)∧(zc122i h l g t)∧(decide (afU h l (bsM l g.snd.fst)<=t)=true->(!g.fst.isSome)=false->(zc122e h l g t)=true)∧(zc122i h l g t)∧impB (zc122e h l g t) (PCall Tryz.prog G0 176 [AV.agg [AV.i (csN l (bsM l
  g.snd.fst) g.snd.snd),AV.i (afU h l (bsM l g.snd.fst)),AV.sl 1 (zc122c l g)],AV.agg (encCh (chO h l g.fst))] (AV.i (cmC (Ch.mk (csN l (bsM l g.snd.fst) g.snd.snd) (afU h l (bsM l g.snd.fst)) (List.map hdI (zc122c l g))) (Ch.mk
  (chO h l g.fst).c (chO h l g.fst).u (List.map hdI (List.map encI (chO h l g.fst).s))))))∧((zc122f h l g t)=true->false=false∧∃ (g':Option Nat),g'=List.foldl (stB h l t) none (pre++[x])∧AS.mk (zc122a h l t) [(1,
  ABlk.box zc122d),(2,ABlk.box [AV.i (csN l (bsM l g.snd.fst) g.snd.snd),AV.i (afU h l (bsM l g.snd.fst)),AV.sl 1 (zc122c l g)]),(3,ABlk.box [AV.bool true]),(4,ABlk.box zc122j)] 5=AS.mk (zc122a h l t) [(1,ABlk.box zc122d),
  (2,ABlk.box (encCh (chO h l g'))),(3,ABlk.box [AV.bool g'.isSome]),(4,ABlk.box zc122j)] 5)∧((zc122f h l g t)=false->false=false∧∃ (g':Option Nat),g'=List.foldl (stB h l t) none (pre++[x])∧AS.mk (zc122a h l t)
  [(1,ABlk.box zc122d),(2,ABlk.box (encCh (chO h l g.fst))),(3,ABlk.box [AV.bool g.fst.isSome]),(4,ABlk.box zc122j)] 5=AS.mk (zc122a h l t) [(1,ABlk.box zc122d),(2,ABlk.box (encCh (chO h l g'))),(3,ABlk.box [AV.bool
  g'.isSome]),(4,ABlk.box zc122j)] 5)))∧∀ (g:Option Nat),g=List.foldl (stB h l t) none (msk l)->AV.tup [AV.agg (encCh (chO h l g)),AV.bool g.isSome]=AV.tup [AV.agg (encCh (chO h l (bst h l t))),AV.bool (bst h l
  t).isSome]:=by
   delta zc122a zc122b zc122c zc122d zc122e zc122f zc122g zc122h zc122i zc122j
   obtain ⟨y1,y2,y3⟩:=ms_z q1
   have hlm:(List.map encMs l).length=l.length:=List.length_map _
   refine ⟨c177 _,seq195 y2,fun _=>rfl,⟨none,rfl,rfl⟩,fun pre x post g h1 h2=>?_,fun g h1=>by rw [h1];rfl⟩
   have hx:fSet l (bsM l x)=0:=msk_z (by rw [h1];simp)
   obtain ⟨x0,_⟩:=set_z hx
   obtain ⟨x1,_⟩:=ix_z x0
   obtain ⟨a1,a2,a3,a4⟩:=af_ok q1 hx
   have hbl:=bs_len l x
   have hal:(List.map encWn (aft h.ws l (bsM l x))).length=h.ws.length:=(List.length_map _).trans a2
   refine ⟨rfl,rfl,by rw [hd_encI];exact c103 h l (bsM l x) q1 hx (by omega),?_,(g,x,0),Nat.zero_le _,⟨rfl,rfl⟩,?_,fun q hq hr=>⟨fun hlt=>?_,fun hge=>?_⟩⟩
   · rw [hd_encI,ws_dec,hal]
     have e:=c100 (afH h l (bsM l x)) (show (aft h.ws l (bsM l x)).length<=8 by omega) a1
     rw [show (afH h l (bsM l x)).ws.length=h.ws.length from a2] at e
     exact e
   · rw [hd_encI,ws_dec,hal]
     rfl
   · obtain ⟨o,b,k⟩:=q
     have e1:o=g:=hr.1
     have e2:b=x:=hr.2
     subst e1
     subst e2
     dsimp only at hq hlt ⊢
     have hbm:(List.map encI (bsM l b)).length=(bsM l b).length:=List.length_map _
     have hk:k < (bsM l b).length:=by have:=of_decide_eq_true hlt;omega
     have hv:hdI (nthR (List.map encI (bsM l b)) ((k:Int)).toNat)=(bsM l b).getD k default:=by rw [Int.toNat_natCast,row_at encI hk];rfl
     rw [hv]
     have hin:=x1 k hk
     have hb:=cs_bd y3 x1 k (by omega)
     have hc:=(y3 ((bsM l b).getD k default).toNat (by omega)).c0
     exact ⟨by omega,by omega,by rw [Int.toNat_natCast];exact congrArg (fun r=>nth r 0) (row_at encI hk),by omega,by omega,by unfold In64;omega,congrArg (fun r=>nth r 2) (row_at encMs (by omega)),by unfold In64;omega,(o,b,k+1),hk,⟨rfl,rfl⟩,by dsimp only;omega,rfl⟩
   · obtain ⟨o,b,k⟩:=q
     have e1:o=g:=hr.1
     have e2:b=x:=hr.2
     subst e1
     subst e2
     dsimp only at hq hge ⊢
     have hbm:(List.map encI (bsM l b)).length=(bsM l b).length:=List.length_map _
     have hk:k=(bsM l b).length:=by have:=of_decide_eq_false hge;omega
     subst hk
     have hcl:=ch_len h l o
     refine ⟨fun h=>h,fun h=>h,fun h=>h,fun h=>h,fun h=>h,fun h=>h,fun h=>h,fun h h'=>by rw [h,h'];rfl,fun h=>h,?_,fun ht=>?_,fun ht=>?_⟩
     · exact impB_iff.2 fun _=>by rw [hd_encI,hd_encI];exact c176 (chM h l (bsM l b)) (chO h l o) (show (bsM l b).length<=1000 by omega) (by omega)
     · have e:taB h l t o b=true:=by rw [hd_encI,hd_encI] at ht;exact ht
       refine ⟨rfl,some b,?_,rfl⟩
       rw [List.foldl_append,<- h2]
       exact (if_pos e).symm
     · have e:taB h l t o b=false:=by rw [hd_encI,hd_encI] at ht;exact ht
       refine ⟨rfl,o,?_,rfl⟩
       rw [List.foldl_append,<- h2]
       exact (if_neg (by rw [e];decide)).symm
 exact c_of Tryz.f122 ({ gsB (fun i=>if i.beq 4 then [.reno 6 1,.reno 8 2,.reno 9 3,.reno 10 4,.nilb 2 2 1,.keep [3,4,5,6,8,9,10,16] [1,2,3,4],.bound 5] else []) (fzB (mkB (sp122 h l) 122 [(9,1,rdH),(10,7,rdL 19 encMs l 1 false)] (fun i=>if i.beq 2 then some (la122 h l t) else none))) with fa:=some (fa122 h l t) }) (by kernel_rfl) (by kernel_rfl) (by kernel_rfl) (by kernel_rfl) key (by kernel_rfl)
end Go.Proofs.YtfoeefaamjknpaaGreatDoor
