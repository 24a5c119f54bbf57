/-
  NightParts returns true. What chapter 7's functions of requests and bounds return. NightBounds returns true. The seals of chapter 7's evidence. Exceptions of chapter 7, their evidence, and what is wrong with them. No condition but the theorems' own.
-/
import Derived.Test.YthkngjifljcocaaGreatDoorPD
import Derived.Test.YthkngjifljcocaaGreatDoorAvD
import Derived.Test.YthkngjifljcocaaGreatDoorPC
import Derived.Test.YthkngjifljcocaaGreatDoorPB
namespace Go.Proofs.YthkngjifljcocaaGreatDoor.N7
open Go Go.Av Go.RowKit
def clL(l:List Nat):Operand->Bool
 | .tmp t=>l.any fun u=>u.beq t
 | _=>false
def Qb(n d:Int):Int:=if n.tdiv d * d > n then n.tdiv d-1 else n.tdiv d
def la1(L:LA):Nat->Option LA:=fun i=>if i.beq 0 then some L else none
def la60(l:List Tp):LA:={
 pre:=[.keep [0,3] [],.bound 1],post:=[.keep [0,3] [],.bound 1]
 Gh:=Nat
 st:=fun i=>⟨[(0,.sl 3 (l.map encTp)),(3,.i i)],[],1⟩
 ok:=fun i=>i<=l.length/\∀ j,j < i->decide ((l.getD j default).n.length<=40)=true
 ms:=fun i=>l.length-i }
def hrS(a b:Int):Int:=(Qv a b+59).tdiv 60
def hrR(a b:Int):Int:=0-Qb (0-(cntN (fun m=>wiR a b m) 1440:Nat)) 60
def fRq(r:Ru)(x:Tp):Int:=sFirst [sWhen (!decide (fiN (pN r.ts x.n) r.ts.length < r.ts.length)) 10,Ja x.c 0 (hrS r.a r.b-1),Ja x.f 0 1000]
def sp155(r:Ru):Nat->List AV->Option AV
 | 146,[.agg (.int _ a::.int _ b::_)]=>some (.i (hrS a b))
 | n,x=>sp112 r.ts n x
def decTp:List AV->Tp
 | [.str a,.int _ d,.int _ e]=>⟨a,d,e⟩
 | _=>default
def sp154(r:Ru):Nat->List AV->Option AV
 | 1155,[.agg x,_]=>some (.i (fRq r (decTp x)))
 | n,x=>spS n x
def sp126(r:Ru)(l:List Tp):Nat->List AV->Option AV
 | 41,_=>some (.i (Wz r))
 | 1154,_=>some (.sl 1 ((l.map (fRq r)).map Jh))
 | n,x=>spS n x
theorem JlU{a b A B:Int}(ha:0<=a/\a<=A)(hb:0<=b/\b<=B):0<=a * b/\a * b<=A * B :=
 ⟨Int.mul_nonneg ha.1 hb.1,Int.mul_le_mul ha.2 hb.2 hb.1 (by omega)⟩
structure RqOK(r:Ru)(x:Tp):Prop where
 t:fiN (pN r.ts x.n) r.ts.length < r.ts.length
 h:0<=x.c/\x.c<=hrR r.a r.b-1
 v:0<=x.f/\x.f<=1000
theorem fiI_bd{p:Nat->Bool}{n:Nat}(h:fiN p n < n):0<=fiI p n/\fiI p n < n/\(fiI p n).toNat=fiN p n:=by
 have e:fiI p n=(fiN p n:Nat):=if_neg (by omega)
 rw[e]
 omega
theorem XQ(a b c:Int):sFirst [a,sFirst [b,c]]=sFirst [a,b,c]:=by
 simp only[sFirst]
 by_cases h:b=0 <;> by_cases h2:c=0 <;> simp[h,h2]
theorem w_of {f : Nat} {args : List AV} {bs : List ABlk} {r : AV} {fin : List ABlk} (fn : Func) (B : BA) {q : Prop} (hq : q) (h : VC (QD Tryz.prog T0 G0 fn.ntmps []) B 10000 0 (VO fn) (WK args bs) (Jj4 T0 fn bs.length r fin) = q) (hf : Tryz.prog.funcs[f]? = some fn := by kernel_rfl) (hb : fn.body = some (VO fn) := by kernel_rfl) (hn : (fn.name == "runtime.NumGoroutine") = false := by kernel_rfl) (hlen : Nat.ble args.length fn.ntmps = true := by kernel_rfl) (hwf : wfB (bs.length + 1) (WK args bs) = true := by kernel_rfl) : WCall Tryz.prog G0 f args bs r fin :=
 Jem tok mix hf hb hn (Kl hlen) hwf B (Jg3 hq h)
def yA(r k:Nat)(B:BA):BA:=Jjn r k (fun a=>{ a with res:=.bool true }) B
def JgC(b:UInt8):List AV:=[.int .u8 b.toNat]
def at8(a b c d e f g h:Int):Nat->Int
 | 0=>a | 1=>b | 2=>c | 3=>d | 4=>e | 5=>f | 6=>g | _=>h
def seX(j:Nat)(h:Int)(s:List UInt8):Nat->Int
 | 0=>h
 | i+1=>((4 * j+3) * seX j h s i+(s.getD i 0).toNat+5 * j+2).tmod 256
theorem Jnc{j:Nat}{h:Int}{s:List UInt8}(hh:0<=h/\h<=255)(hj:j < 8):∀ i,0<=seX j h s i/\seX j h s i<=255
 | 0=>hh
 | i+1=>by
  have ih:=Jnc hh hj (s:=s) i
  have h1:=JlU (a:=4 * (j:Int)+3) (b:=seX j h s i) (A:=31) (B:=255) (by omega) ih
  have h2:=(s.getD i 0).toNat_lt
  unfold seX
  exact⟨Int.tmod_nonneg _ (by omega),by have:=Int.tmod_lt_of_pos ((4 * (j:Int)+3) * seX j h s i+(s.getD i 0).toNat+5 * j+2) (show(0:Int) < 256 by omega);omega⟩
def sea(ks:Nat->Int)(s:List UInt8)(j:Nat):Int:=seX j (ks j) s s.length
def kE(z ks:Nat->Int)(s:List UInt8)(i j:Nat):AV:=.int .u8 (if j < i then sea ks s j else z j)
def kA(z ks:Nat->Int)(s:List UInt8)(i:Nat):List AV:=[kE z ks s i 0,kE z ks s i 1,kE z ks s i 2,kE z ks s i 3,kE z ks s i 4,kE z ks s i 5,kE z ks s i 6,kE z ks s i 7]
def JjV(ks:Nat->Int)(s:List UInt8):List AV:=[.int .u8 (sea ks s 0),.int .u8 (sea ks s 1),.int .u8 (sea ks s 2),.int .u8 (sea ks s 3),.int .u8 (sea ks s 4),.int .u8 (sea ks s 5),.int .u8 (sea ks s 6),.int .u8 (sea ks s 7)]
theorem kA_at{z ks:Nat->Int}{s:List UInt8}{i:Nat}(h:i < 8):nth (kA z ks s i) i=.int .u8 (z i):=by
 match i,h with
 | 0,_=>rfl
 | 1,_=>rfl
 | 2,_=>rfl
 | 3,_=>rfl
 | 4,_=>rfl
 | 5,_=>rfl
 | 6,_=>rfl
 | 7,_=>rfl
def rdBy(s:List UInt8):List AV->Option AV
 | [.elt _ _ i _]=>some (.int .u8 ((s.getD i 0).toNat:Nat))
 | _=>none
def rdId:List AV->Option AV
 | [.int _ n]=>some (.i n)
 | _=>none
def rdId8:List AV->Option AV
 | [.int _ n]=>some (.int .u8 n)
 | _=>none
theorem wrap8{n:Int}(h:0<=n/\n<=255):IntKind.u8.wrap n=n:=by
 show(if(false && decide (n % 256>=128))=true then n % 256-256 else n % 256)=n
 simp only[Bool.false_and,Bool.false_eq_true,if_false]
 omega
def K189(z ks:Nat->Int)(s:List UInt8)(b:Nat):Option LA :=
 if b.beq 0 then
  let K:List GS:=[.keep [1,2,4,9] [1,2],.bound 3]
  some { pre:=K,post:=K
         Gh:=Nat
         st:=fun i=>⟨[(1,.sl 1 (s.map JgC)),(2,.ptr 1 0),(4,.ptr 2 0),(9,.i i)],[(1,.box (kA z ks s i)),(2,.box [.int .u8 0,.int .u8 0,.int .u8 0,.int .u8 0,.int .u8 0,.int .u8 0,.int .u8 0,.int .u8 0])],3⟩
         ok:=fun i=>i<=8
         ms:=fun i=>8-i }
 else
  let K:List GS:=[.keep [1,2,4,5,6,9,16,17,18] [1,2],.bound 3]
  some { pre:=K,post:=K
         Gh:=Nat × Nat
         st:=fun g=>⟨[(1,.sl 1 (s.map JgC)),(2,.ptr 1 0),(4,.ptr 2 0),(5,.i g.1),(6,.i (seX g.1 (ks g.1) s g.2)),(9,.i g.1),(16,.sl 1 (s.map JgC)),(17,.i (s.map JgC).length),(18,.i g.2)],[(1,.box (kA z ks s g.1)),(2,.box [.int .u8 0,.int .u8 0,.int .u8 0,.int .u8 0,.int .u8 0,.int .u8 0,.int .u8 0,.int .u8 0])],3⟩
         ok:=fun g=>g.1 < 8/\g.2<=s.length
         rel:=some fun g0 g=>g.1=g0.1
         ms:=fun g=>s.length-g.2 }
def spZ:Nat->List AV->Option AV:=spS
theorem kA_st{z ks:Nat->Int}{s:List UInt8}{g:Nat}(h:g < 8){v:Int}(hv:v=sea ks s g):[AV.int .u8 (if g=0 then v else if 0 < g then sea ks s 0 else z 0),AV.int .u8 (if g=1 then v else if 1 < g then sea ks s 1 else z 1),AV.int .u8 (if g=2 then v else if 2 < g then sea ks s 2 else z 2),AV.int .u8 (if g=3 then v else if 3 < g then sea ks s 3 else z 3),AV.int .u8 (if g=4 then v else if 4 < g then sea ks s 4 else z 4),AV.int .u8 (if g=5 then v else if 5 < g then sea ks s 5 else z 5),AV.int .u8 (if g=6 then v else if 6 < g then sea ks s 6 else z 6),AV.int .u8 (if g=7 then v else if 7 < g then sea ks s 7 else z 7)]=kA z ks s (g+1):=by
 subst hv
 match g,h with
 | 0,_=>rfl
 | 1,_=>rfl
 | 2,_=>rfl
 | 3,_=>rfl
 | 4,_=>rfl
 | 5,_=>rfl
 | 6,_=>rfl
 | 7,_=>rfl
def rdY(ks:Nat->Int):List AV->Option AV
 | [.ptr _ o]=>some (.int .u8 (ks o))
 | _=>none
abbrev Jld:=[AV.int IntKind.u8 (0:Int),AV.int IntKind.u8 (0:Int),AV.int IntKind.u8 (0:Int),AV.int IntKind.u8 (0:Int),AV.int IntKind.u8 (0:Int),AV.int IntKind.u8 (0:Int),AV.int IntKind.u8 (0:Int),AV.int IntKind.u8 (0:Int)]
abbrev Jmp(s:List UInt8)(g_1:Nat × Nat):=(↑(s.getD (↑g_1.snd:Int).toNat (0:UInt8)).toNat:Int)
abbrev JaC(g_1:Nat × Nat):=(↑g_1.fst:Int)
abbrev Jez(s:List UInt8):=List.map JgC s
abbrev Jmo(s:List UInt8):=((Jez s).length:Int)
abbrev JpS(g:Nat):=0+(g:Int).toNat * 1
abbrev JoO(g_1:Nat × Nat):=(4:Int) * (JaC g_1)+3
theorem c113(ks:Nat->Int)(s:List UInt8)(hk:∀ i,0<=ks i/\ks i<=255)(hs:s.length<=1000):P0 113 [.agg [.int .u8 (ks 0),.int .u8 (ks 1),.int .u8 (ks 2),.int .u8 (ks 3),.int .u8 (ks 4),.int .u8 (ks 5),.int .u8 (ks 6),.int .u8 (ks 7)],.sl 1 (s.map JgC)] (.agg (JjV ks s)):=by
 have key :
  (∃ (g:Nat),g<=8/\AS.mk [(1,AV.sl 1 (Jez s)),(2,AV.ptr 1 0),(4,AV.ptr 2 0),(9,AV.i 0)] [(1,ABlk.box [AV.int IntKind.u8 (ks 0),AV.int IntKind.u8 (ks 1),AV.int IntKind.u8 (ks 2),AV.int IntKind.u8 (ks 3),AV.int
  IntKind.u8 (ks 4),AV.int IntKind.u8 (ks 5),AV.int IntKind.u8 (ks 6),AV.int IntKind.u8 (ks 7)]),(2,ABlk.box Jld)] 3=AS.mk [(1,AV.sl 1 (Jez s)),(2,AV.ptr 1 0),(4,AV.ptr 2 0),(9,AV.i (g:Int))] [(1,ABlk.box (kA ks
  ks s g)),(2,ABlk.box Jld)] 3)/\∀ (g:Nat),g<=8->(decide ((g:Int) < 8)=true->(0:Int)<=(g:Int)/\(g:Int) < (8:Int)/\0+(g:Int).toNat * 1+1<=8/\nth (kA ks ks s g) (JpS g)=AV.int IntKind.u8 (ks
  (JpS g))/\AV.i (IntKind.i64.wrap (ks (JpS g)))=AV.i (ks (JpS g))/\∃ (g0:Nat × Nat),(g0.fst < 8/\g0.snd<=s.length)/\g0.fst=g0.fst/\AS.mk [(1,AV.sl 1 (Jez s)),(2,AV.ptr 1 0),(4,AV.ptr 2 0),(5,AV.i (g:Int)),
  (6,AV.i (ks (JpS g))),(9,AV.i (g:Int)),(16,AV.sl 1 (Jez s)),(17,AV.i (Jmo s)),(18,AV.i 0)] [(1,ABlk.box (kA ks ks s g)),(2,ABlk.box Jld)] 3=AS.mk [(1,AV.sl 1 (Jez s)),(2,AV.ptr 1 0),(4,AV.ptr 2 0),(5,
  AV.i (↑g0.fst:Int)),(6,AV.i (seX g0.fst (ks g0.fst) s g0.snd)),(9,AV.i (↑g0.fst:Int)),(16,AV.sl 1 (Jez s)),(17,AV.i (Jmo s)),(18,AV.i (↑g0.snd:Int))] [(1,ABlk.box [AV.int IntKind.u8 (if 0 < g0.fst then sea ks s 0
  else ks 0),AV.int IntKind.u8 (if 1 < g0.fst then sea ks s 1 else ks 1),AV.int IntKind.u8 (if 2 < g0.fst then sea ks s 2 else ks 2),AV.int IntKind.u8 (if 3 < g0.fst then sea ks s 3 else ks 3),AV.int IntKind.u8 (if 4 < g0.fst
  then sea ks s 4 else ks 4),AV.int IntKind.u8 (if 5 < g0.fst then sea ks s 5 else ks 5),AV.int IntKind.u8 (if 6 < g0.fst then sea ks s 6 else ks 6),AV.int IntKind.u8 (if 7 < g0.fst then sea ks s 7 else ks 7)]),(2,ABlk.box
  Jld)] 3/\∀ (g_1:Nat × Nat),g_1.fst < 8/\g_1.snd<=s.length->g_1.fst=g0.fst->(decide ((↑g_1.snd:Int) < (Jmo s))=true->(0:Int)<=(↑g_1.snd:Int)/\(↑g_1.snd:Int) < (Jmo s)/\nth (Ji (Jez s) (↑g_1.snd :
  Int).toNat) 0=AV.int IntKind.u8 (Jmp s g_1)/\Jc ((4:Int) * (JaC g_1))/\Jc (JoO g_1)/\Jc ((JoO g_1) * seX g_1.fst (ks g_1.fst) s g_1.snd)/\Jc ((JoO g_1) * seX g_1.fst (ks g_1.fst) s g_1.snd+(Jmp s g_1)) /\
  Jc ((5:Int) * (JaC g_1))/\Jc ((JoO g_1) * seX g_1.fst (ks g_1.fst) s g_1.snd+(Jmp s g_1)+5 * (JaC g_1))/\Jc ((JoO g_1) * seX g_1.fst (ks g_1.fst) s g_1.snd+(Jmp s g_1)+5 * (JaC g_1)+2)/\¬(256:Int)=(0
  : Int)/\AV.i (IntKind.i64.wrap (Jmp s g_1))=AV.i (Jmp s g_1)/\Jc ((↑g_1.snd:Int)+1)/\∃ (g':Nat × Nat),(g'.fst < 8/\g'.snd<=s.length)/\g'.fst=g0.fst/\s.length-g'.snd < s.length-g_1.snd/\AS.mk [(1,AV.sl 1
  (Jez s)),(2,AV.ptr 1 0),(4,AV.ptr 2 0),(5,AV.i (JaC g_1)),(6,AV.i (((JoO g_1) * seX g_1.fst (ks g_1.fst) s g_1.snd+(Jmp s g_1)+5 * (JaC g_1)+2).tmod (256:Int))),(9,AV.i (JaC g_1)),(16,AV.sl 1 (Jez s)),
  (17,AV.i (Jmo s)),(18,AV.i ((↑g_1.snd:Int)+1))] [(1,ABlk.box [AV.int IntKind.u8 (if 0 < g_1.fst then sea ks s 0 else ks 0),AV.int IntKind.u8 (if 1 < g_1.fst then sea ks s 1 else ks 1),AV.int IntKind.u8 (if 2 < g_1.fst
  then sea ks s 2 else ks 2),AV.int IntKind.u8 (if 3 < g_1.fst then sea ks s 3 else ks 3),AV.int IntKind.u8 (if 4 < g_1.fst then sea ks s 4 else ks 4),AV.int IntKind.u8 (if 5 < g_1.fst then sea ks s 5 else ks 5),AV.int IntKind.u8
  (if 6 < g_1.fst then sea ks s 6 else ks 6),AV.int IntKind.u8 (if 7 < g_1.fst then sea ks s 7 else ks 7)]),(2,ABlk.box Jld)] 3=AS.mk [(1,AV.sl 1 (Jez s)),(2,AV.ptr 1 0),(4,AV.ptr 2 0),(5,AV.i (↑g'.fst:Int)),(6,AV.i
  (seX g'.fst (ks g'.fst) s g'.snd)),(9,AV.i (↑g'.fst:Int)),(16,AV.sl 1 (Jez s)),(17,AV.i (Jmo s)),(18,AV.i (↑g'.snd:Int))] [(1,ABlk.box [AV.int IntKind.u8 (if 0 < g'.fst then sea ks s 0 else ks 0),AV.int IntKind.u8
  (if 1 < g'.fst then sea ks s 1 else ks 1),AV.int IntKind.u8 (if 2 < g'.fst then sea ks s 2 else ks 2),AV.int IntKind.u8 (if 3 < g'.fst then sea ks s 3 else ks 3),AV.int IntKind.u8 (if 4 < g'.fst then sea ks s 4 else ks 4),
  AV.int IntKind.u8 (if 5 < g'.fst then sea ks s 5 else ks 5),AV.int IntKind.u8 (if 6 < g'.fst then sea ks s 6 else ks 6),AV.int IntKind.u8 (if 7 < g'.fst then sea ks s 7 else ks 7)]),(2,ABlk.box Jld)] 3)/\(decide ((↑g_1.snd :
  Int) < (Jmo s))=false->(0:Int)<=(JaC g_1)/\(JaC g_1) < (8:Int)/\0+(JaC g_1).toNat * 1+1<=8/\AV.int IntKind.u8 (IntKind.u8.wrap (seX g_1.fst (ks g_1.fst) s g_1.snd))=AV.int IntKind.u8 (seX g_1.fst (ks g_1.fst)
  s g_1.snd)/\Jc ((JaC g_1)+1)/\∃ (g':Nat),g'<=8/\8-g' < 8-g/\AS.mk [(1,AV.sl 1 (Jez s)),(2,AV.ptr 1 0),(4,AV.ptr 2 0),(9,AV.i ((JaC g_1)+1))] [(1,ABlk.box [AV.int IntKind.u8 (if 0+(JaC g_1).toNat * 1
  = 0 then seX g_1.fst (ks g_1.fst) s g_1.snd else if 0 < g_1.fst then sea ks s 0 else ks 0),AV.int IntKind.u8 (if 0+(JaC g_1).toNat * 1=0+1 then seX g_1.fst (ks g_1.fst) s g_1.snd else if 1 < g_1.fst then sea ks s 1 else ks
  1),AV.int IntKind.u8 (if 0+(JaC g_1).toNat * 1=0+1+1 then seX g_1.fst (ks g_1.fst) s g_1.snd else if 2 < g_1.fst then sea ks s 2 else ks 2),AV.int IntKind.u8 (if 0+(JaC g_1).toNat * 1=0+1+1+1 then seX g_1.fst
  (ks g_1.fst) s g_1.snd else if 3 < g_1.fst then sea ks s 3 else ks 3),AV.int IntKind.u8 (if 0+(JaC g_1).toNat * 1=0+1+1+1+1 then seX g_1.fst (ks g_1.fst) s g_1.snd else if 4 < g_1.fst then sea ks s 4 else ks 4),
  AV.int IntKind.u8 (if 0+(JaC g_1).toNat * 1=0+1+1+1+1+1 then seX g_1.fst (ks g_1.fst) s g_1.snd else if 5 < g_1.fst then sea ks s 5 else ks 5),AV.int IntKind.u8 (if 0+(JaC g_1).toNat * 1=0+1+1+1+1+1 +
  1 then seX g_1.fst (ks g_1.fst) s g_1.snd else if 6 < g_1.fst then sea ks s 6 else ks 6),AV.int IntKind.u8 (if 0+(JaC g_1).toNat * 1=0+1+1+1+1+1+1+1 then seX g_1.fst (ks g_1.fst) s g_1.snd else if 7 < g_1.fst
  then sea ks s 7 else ks 7)]),(2,ABlk.box Jld)] 3=AS.mk [(1,AV.sl 1 (Jez s)),(2,AV.ptr 1 0),(4,AV.ptr 2 0),(9,AV.i (g':Int))] [(1,ABlk.box (kA ks ks s g')),(2,ABlk.box Jld)] 3))/\(decide ((g:Int) < 8)=false
  → AV.agg (kA ks ks s g)=AV.agg [AV.int IntKind.u8 (sea ks s 0),AV.int IntKind.u8 (sea ks s 1),AV.int IntKind.u8 (sea ks s 2),AV.int IntKind.u8 (sea ks s 3),AV.int IntKind.u8 (sea ks s 4),AV.int IntKind.u8 (sea ks s 5),
  AV.int IntKind.u8 (sea ks s 6),AV.int IntKind.u8 (sea ks s 7)]):=by
   delta Jld Jmp JaC Jmo Jez JpS JoO
   have:(List.map JgC s).length=s.length:=by simp only[Kb]
   refine⟨⟨0,by omega,rfl⟩,fun g hg=>⟨fun hd=>?_,fun hd=>?_⟩⟩
   . have hlt:g < 8:=by have h9:=Ky hd;have h8:=hg;(try simp only[Kb]at h8);(try simp only[Kb]at h9);omega
     try rw[show(g:Int).toNat=g from Km g]
     rw[show 0+g * 1=g by omega]
     have hkg:=hk g
     try rw[show(g:Int).toNat=g from Km g]
     refine⟨by omega,by omega,by omega,kA_at hlt,congrArg AV.i (UE (by unfold Jc;omega)),⟨(g,0),⟨by omega,by omega⟩,rfl,rfl,fun g_1 hok2 hr2=>?_⟩⟩
     obtain⟨i2,j2⟩:=g_1
     dsimp only at hok2 hr2 ⊢
     obtain⟨hi2,hg2⟩:=hok2
     have hr3:g=i2:=hr2.symm
     subst hr3
     refine⟨fun hd2=>?_,fun hd2=>?_⟩
     . have hlt2:j2 < s.length:=by have h9:=Ky hd2;have h8:=hg2;(try simp only[Kb]at h8);(try simp only[Kb]at h9);omega
       have hx:=Jnc (hk g) hlt (s:=s) j2
       have hx1:=JlU (a:=4 * (g:Int)+3) (b:=seX g (ks g) s j2) (A:=31) (B:=255) (by omega) hx
       have hby:=(s.getD j2 0).toNat_lt
       try rw[show(j2:Int).toNat=j2 from Km j2]
       exact⟨by omega,by omega,congrArg (fun r=>nth r 0) (Jl JgC hlt2),by unfold Jc;omega,by unfold Jc;omega,by unfold Jc;omega,by unfold Jc;omega,by unfold Jc;omega,by unfold Jc;omega,by unfold Jc;omega,by decide,congrArg AV.i (UE (by unfold Jc;omega)),by unfold Jc;omega,⟨(g,j2+1),⟨by omega,by omega⟩,rfl,(by(try dsimp only);omega),rfl⟩⟩
     have hge2:j2=s.length:=by have h9:=Kz hd2;have h8:=hg2;(try simp only[Kb]at h8);(try simp only[Kb]at h9);omega
     subst hge2
     refine⟨by omega,by omega,by omega,congrArg (AV.int .u8) (wrap8 (Jnc (hk g) hlt _)),by unfold Jc;omega,⟨g+1,by omega,by omega,?_⟩⟩
     rw[show(g:Int).toNat=g from Km g,show 0+g * 1=g by omega]
     exact congrArg (fun c=>AS.mk _ [(1,ABlk.box c),_] _) (kA_st hlt rfl)
   have hge:g=8:=by have h9:=Kz hd;have h8:=hg;(try simp only[Kb]at h8);(try simp only[Kb]at h9);omega
   subst hge
   exact rfl
 exact Jw Tryz.f113 (yA 4 2 (yA 10 4 (mkB spZ 113 [(4,2,rdY ks),(4,3,rdId),(7,1,rdBy s),(8,6,rdId),(10,2,rdId8)] (K189 ks ks s)))) key (by kernel_rfl)
structure Xc where
 fl:List UInt8
 re:List UInt8
 day:Int
 e0:Int
 e1:Int
 e2:Int
 e3:Int
 e4:Int
 e5:Int
 e6:Int
 e7:Int
 deriving Inhabited
def encXc(x:Xc):List AV:=[.str x.fl,.str x.re,.i x.day,.int .u8 x.e0,.int .u8 x.e1,.int .u8 x.e2,.int .u8 x.e3,.int .u8 x.e4,.int .u8 x.e5,.int .u8 x.e6,.int .u8 x.e7]
abbrev Z60a(ks:Nat->Int)(s:List UInt8):=[AV.int IntKind.u8 (sea ks s 0),AV.int IntKind.u8 (sea ks s 1),AV.int IntKind.u8 (sea ks s 2),AV.int IntKind.u8 (sea ks s 3),AV.int IntKind.u8 (sea ks s 4),AV.int IntKind.u8 (sea ks s 5),AV.int IntKind.u8 (sea ks s 6),AV.int IntKind.u8 (sea ks s 7)]
theorem c89(ks:Nat->Int)(s:List UInt8)(hk:∀ i,0<=ks i/\ks i<=255)(hs:s.length<=1000):P0 89 [.agg [.int .u8 (ks 0),.int .u8 (ks 1),.int .u8 (ks 2),.int .u8 (ks 3),.int .u8 (ks 4),.int .u8 (ks 5),.int .u8 (ks 6),.int .u8 (ks 7)],.sl 1 (s.map JgC)] (.tup [.agg (JjV ks s),.i 0]):=by
 have key :
  AV.bool (decide (((List.map JgC s).length:Int) > 400000))=AV.bool false/\P0 113 [AV.agg [AV.int IntKind.u8 (ks 0),AV.int IntKind.u8 (ks 1),AV.int IntKind.u8 (ks 2),AV.int IntKind.u8 (ks 3),AV.int IntKind.u8 (ks 4),
  AV.int IntKind.u8 (ks 5),AV.int IntKind.u8 (ks 6),AV.int IntKind.u8 (ks 7)],AV.sl 1 (List.map JgC s)] (AV.agg (Z60a ks s))/\AV.tup [AV.agg (Z60a ks s),AV.i 0]=AV.tup [AV.agg (Z60a ks s),AV.i 0]:=by
   delta Z60a
   have:(List.map JgC s).length=s.length:=by simp only[Kb]
   exact⟨congrArg AV.bool (decide_eq_false (by omega)),(c113 ks s hk hs),rfl⟩
 exact Jw Tryz.f89 ({ mkB (fun n x=>match n with | 113=>some (.agg (JjV ks s)) | _=>spS n x) 89 [(1,2,rdF)] J1 with cl:=clL [8] }) key (by kernel_rfl)
def kyR(r:Ru):Nat->Int:=at8 r.k0 r.k1 r.k2 r.k3 r.k4 r.k5 r.k6 r.k7
def KyOK(r:Ru):Prop:=∀ i,0<=kyR r i/\kyR r i<=255
def evS(r:Ru)(a b:List UInt8):List AV:=JjV (kyR r) (a++[32]++b)
abbrev UD:=[(32:UInt8)]
theorem c43(r:Ru)(a b:List UInt8)(hk:KyOK r)(ha:a.length<=400)(hb:b.length<=400):P0 43 [.agg (encRu r),.str a,.str b] (.agg (evS r a b)):=by
 have key :
  a.length+1<=9223372036854775807/\(a++UD).length+b.length<=9223372036854775807/\(a++UD++b).length<=9223372036854775807/\P0 89 [AV.agg [AV.int IntKind.u8 r.k0,AV.int IntKind.u8 r.k1,AV.int IntKind.u8 r.k2,
  AV.int IntKind.u8 r.k3,AV.int IntKind.u8 r.k4,AV.int IntKind.u8 r.k5,AV.int IntKind.u8 r.k6,AV.int IntKind.u8 r.k7],AV.sl 1 (List.map (fun(b:UInt8)=>[AV.int IntKind.u8 (↑b.toNat:Int)]) (a++UD++b))] (AV.tup [AV.agg
  [AV.int IntKind.u8 (sea (kyR r) (a++UD++b) 0),AV.int IntKind.u8 (sea (kyR r) (a++UD++b) 1),AV.int IntKind.u8 (sea (kyR r) (a++UD++b) 2),AV.int IntKind.u8 (sea (kyR r) (a++UD++b) 3),AV.int IntKind.u8 (sea
  (kyR r) (a++UD++b) 4),AV.int IntKind.u8 (sea (kyR r) (a++UD++b) 5),AV.int IntKind.u8 (sea (kyR r) (a++UD++b) 6),AV.int IntKind.u8 (sea (kyR r) (a++UD++b) 7)],AV.i 0])/\AV.agg [AV.int IntKind.u8 (sea
  (kyR r) (a++UD++b) 0),AV.int IntKind.u8 (sea (kyR r) (a++UD++b) 1),AV.int IntKind.u8 (sea (kyR r) (a++UD++b) 2),AV.int IntKind.u8 (sea (kyR r) (a++UD++b) 3),AV.int IntKind.u8 (sea (kyR r) (a++UD ++
  b) 4),AV.int IntKind.u8 (sea (kyR r) (a++UD++b) 5),AV.int IntKind.u8 (sea (kyR r) (a++UD++b) 6),AV.int IntKind.u8 (sea (kyR r) (a++UD++b) 7)]=AV.agg [AV.int IntKind.u8 (sea (kyR r) (a++UD++b) 0),AV.int
  IntKind.u8 (sea (kyR r) (a++UD++b) 1),AV.int IntKind.u8 (sea (kyR r) (a++UD++b) 2),AV.int IntKind.u8 (sea (kyR r) (a++UD++b) 3),AV.int IntKind.u8 (sea (kyR r) (a++UD++b) 4),AV.int IntKind.u8 (sea (kyR r)
  (a++UD++b) 5),AV.int IntKind.u8 (sea (kyR r) (a++UD++b) 6),AV.int IntKind.u8 (sea (kyR r) (a++UD++b) 7)]:=by
   delta UD
   have h1:(a++[32]).length=a.length+1:=by simp
   have h2:(a++[32]++b).length=a.length+1+b.length:=by rw[Kf,h1]
   have h3:(a++([32]++b)).length=a.length+1+b.length:=by rw[<- List.append_assoc,h2]
   exact⟨by simp only[Kf,List.length_cons,List.length_nil]at *;omega,by simp only[Kf,List.length_cons,List.length_nil]at *;omega,by simp only[Kf,List.length_cons,List.length_nil]at *;omega,(c89 (kyR r) (a++[32]++b) hk (by omega)),rfl⟩
 exact Jw Tryz.f43 (fzB (mkB (fun n x=>match n with | 89=>some (.tup [.agg (evS r a b),.i 0]) | _=>spS n x) 43 [] J1)) key (by kernel_rfl)
def la209(rs:List (List UInt8))(s:List UInt8):LA:={
 pre:=[.keep [0,1,6,7,8] [],.bound 1],post:=[.keep [0,1,6,7,8] [],.bound 1]
 Gh:=Nat
 st:=fun i=>⟨[(0,.sl 1 (rs.map encS)),(1,.str s),(6,.sl 1 (rs.map encS)),(7,.i (rs.map encS).length),(8,.i i)],[],1⟩
 ok:=fun i=>i<=rs.length/\∀ j,j < i->pS rs s j=false
 ms:=fun i=>rs.length-i }
abbrev Ji4(rs:List (List UInt8)):=List.map encS rs
abbrev Jmn(rs:List (List UInt8)):=((Ji4 rs).length:Int)
theorem c127(rs:List (List UInt8))(s:List UInt8)(hl:rs.length<=1000):P0 127 [.sl 1 (rs.map encS),.str s] (.i (fiI (pS rs s) rs.length)):=by
 have key :
  (∃ (g:Nat),(g<=rs.length/\∀ (j:Nat),j < g->pS rs s j=false)/\AS.mk [(0,AV.sl 1 (Ji4 rs)),(1,AV.str s),(6,AV.sl 1 (Ji4 rs)),(7,AV.i (Jmn rs)),(8,AV.i 0)] [] 1=AS.mk [(0,AV.sl 1 (Ji4 rs)),(1,AV.str s),
  (6,AV.sl 1 (Ji4 rs)),(7,AV.i (Jmn rs)),(8,AV.i (g:Int))] [] 1)/\∀ (g:Nat),(g<=rs.length/\∀ (j:Nat),j < g->pS rs s j=false)->(decide ((g:Int) < (Jmn rs))=true->(0:Int)<=(g:Int)/\(g:Int) <
  (Jmn rs)/\nth (Ji (Ji4 rs) (g:Int).toNat) 0=AV.str (rs.getD (g:Int).toNat [])/\((s == rs.getD (g:Int).toNat [])=true->AV.i (g:Int)=AV.i (fiI (pS rs s) rs.length))/\((s == rs.getD (g:Int).toNat []) =
  false->Jc ((g:Int)+1)/\∃ (g':Nat),(g'<=rs.length/\∀ (j:Nat),j < g'->pS rs s j=false)/\rs.length-g' < rs.length-g/\AS.mk [(0,AV.sl 1 (Ji4 rs)),(1,AV.str s),(6,AV.sl 1 (Ji4 rs)),(7,AV.i (Jmn rs)),
  (8,AV.i ((g:Int)+1))] [] 1=AS.mk [(0,AV.sl 1 (Ji4 rs)),(1,AV.str s),(6,AV.sl 1 (Ji4 rs)),(7,AV.i (Jmn rs)),(8,AV.i (g':Int))] [] 1))/\(decide ((g:Int) < (Jmn rs))=false->AV.i (-1)=AV.i (fiI (pS rs
  s) rs.length)):=by
   delta Jmn Ji4
   have hlm:(List.map encS rs).length=rs.length:=Kb _
   have:(List.map encS rs).length=rs.length:=by simp only[Kb]
   refine⟨⟨0,⟨by omega,by intros;omega⟩,rfl⟩,fun g ⟨hg,ha⟩=>⟨fun hd=>?_,fun hd=>?_⟩⟩
   . have hlt:g < rs.length:=by have h9:=Ky hd;have h8:=hg;(try simp only[Kb]at h8);(try simp only[Kb]at h9);omega
     try rw[show(g:Int).toNat=g from Km g]
     refine⟨by omega,by omega,congrArg (fun r=>nth r 0) (Jl encS hlt),fun h1=>?_,fun h1=>⟨by unfold Jc;omega,⟨g+1,⟨by omega,Jau ha (by unfold pS;rw[Qu];exact h1)⟩,by omega,rfl⟩⟩⟩
     rw[fiI,fi_some ha (show pS rs s g=true by unfold pS;rw[Qu];exact h1) hlt,if_neg (by omega)]
   have hge:g=rs.length:=by have h9:=Kz hd;have h8:=hg;(try simp only[Kb]at h8);(try simp only[Kb]at h9);omega
   subst hge
   rw[fiI,fi_none ha,if_pos rfl]
 exact Jw Tryz.f127 (mkB spS 127 [(4,4,rdL 1 encS rs 1 false)] (la1 (la209 rs s))) key (by kernel_rfl)
theorem c118(rs:List (List UInt8))(s:List UInt8)(hl:rs.length<=1000):P0 118 [.sl 1 (rs.map encS),.str s] (.bool (decide (fiN (pS rs s) rs.length < rs.length))):=by
 have key :
  P0 127 [AV.sl 1 (List.map encS rs),AV.str s] (AV.i (fiI (pS rs s) rs.length))/\AV.bool (decide (fiI (pS rs s) rs.length>=0))=AV.bool (decide (fiN (pS rs s) rs.length < rs.length)):=by
   exact⟨(c127 rs s hl),congrArg AV.bool fiI_dec⟩
 exact Jw Tryz.f118 (mkB (fun n x=>match n with | 127=>some (.i (fiI (pS rs s) rs.length)) | _=>spS n x) 118 [] J1) key (by kernel_rfl)
def noRe(r:Ru)(x:Xc):Bool:=!decide (fiN (pS r.rs x.re) r.rs.length < r.rs.length)
def evB(r:Ru)(x:Xc):Bool:=match JbX T0 9 37 [.int .u8 x.e0,.int .u8 x.e1,.int .u8 x.e2,.int .u8 x.e3,.int .u8 x.e4,.int .u8 x.e5,.int .u8 x.e6,.int .u8 x.e7] (evS r x.fl x.re)with
 | some b=>!b
 | none=>false
theorem c117(r:Ru)(m:Mv)(x:Xc)(hl:r.rs.length<=1000):P0 117 [.agg (encRu r),.agg (encMv m),.agg (encXc x)] (.bool (noRe r x)):=by
 have key :
  P0 118 [AV.sl 1 (List.map encS r.rs),AV.str x.re] (AV.bool (decide (fiN (pS r.rs x.re) r.rs.length < r.rs.length)))/\(AV.bool !decide (fiN (pS r.rs x.re) r.rs.length < r.rs.length))=AV.bool (noRe r x):=by
   refine⟨(c118 r.rs x.re hl),?_⟩
   first | rfl | trivial
 exact Jw Tryz.f117 (mkB (fun n y=>match n with | 118=>some (.bool (decide (fiN (pS r.rs x.re) r.rs.length < r.rs.length))) | _=>spS n y) 117 [] J1) key (by kernel_rfl)
theorem c119(r:Ru)(m:Mv)(x:Xc) :P0 119 [.agg (encRu r),.agg (encMv m),.agg (encXc x)] (.bool (decide (x.day < m.day))):=by
 have key :
  AV.bool (decide (x.day < m.day))=AV.bool (decide (x.day < m.day)):=by
   exact rfl
 exact Jw Tryz.f119 (mkB spS 119 [] J1) key (by kernel_rfl)
theorem c120(r:Ru)(m:Mv)(x:Xc)(h:Jc (m.day+r.dl)):P0 120 [.agg (encRu r),.agg (encMv m),.agg (encXc x)] (.bool (decide (x.day > m.day+r.dl))):=by
 have key :
  Jc (m.day+r.dl)/\AV.bool (decide (x.day > m.day+r.dl))=AV.bool (decide (x.day > m.day+r.dl)):=by
   exact⟨h,rfl⟩
 exact Jw Tryz.f120 (mkB spS 120 [] J1) key (by kernel_rfl)
abbrev Jdg(x:Xc):=x.fl++[(32:UInt8)]++x.re
theorem c121(r:Ru)(m:Mv)(x:Xc)(hk:KyOK r)(ha:x.fl.length<=400)(hb:x.re.length<=400):P0 121 [.agg (encRu r),.agg (encMv m),.agg (encXc x)] (.bool (evB r x)):=by
 have key :
  P0 43 [AV.agg (encRu r),AV.str x.fl,AV.str x.re] (AV.agg [AV.int IntKind.u8 (sea (kyR r) (Jdg x) 0),AV.int IntKind.u8 (sea (kyR r) (Jdg x) 1),AV.int IntKind.u8 (sea (kyR r) (Jdg x) 2),AV.int IntKind.u8 (sea (kyR r) (Jdg x)
  3),AV.int IntKind.u8 (sea (kyR r) (Jdg x) 4),AV.int IntKind.u8 (sea (kyR r) (Jdg x) 5),AV.int IntKind.u8 (sea (kyR r) (Jdg x) 6),AV.int IntKind.u8 (sea (kyR r) (Jdg x) 7)])/\(AV.bool !(x.e0 == sea (kyR r) (Jdg x) 0 &&
  true && (x.e1 == sea (kyR r) (Jdg x) 1 && true && (x.e2 == sea (kyR r) (Jdg x) 2 && true && (x.e3 == sea (kyR r) (Jdg x) 3 && true && (x.e4 == sea (kyR r) (Jdg x) 4 && true && (x.e5 == sea (kyR r) (Jdg x) 5 && true && (x.e6 ==
  sea (kyR r) (Jdg x) 6 && true && (x.e7 == sea (kyR r) (Jdg x) 7 && true && true)))))))))=AV.bool (evB r x)/\AV.bool (evB r x)=AV.bool (evB r x):=by
   delta Jdg
   exact⟨(c43 r x.fl x.re hk ha hb),by kernel_rfl,by kernel_rfl⟩
 exact Jw Tryz.f121 (mkB (fun n y=>match n with | 43=>some (.agg (evS r x.fl x.re)) | _=>spS n y) 121 [(1,8,fun _=>some (.bool (evB r x)))] J1) key (by kernel_rfl)
def W0:List UInt8:=[114,101,97,115,111,110]
def W1:List UInt8:=[101,97,114,108,121]
def W2:List UInt8:=[108,97,116,101]
def W3:List UInt8:=[101,118,105,100,101,110,99,101]
def wordV(r:Ru)(m:Mv)(x:Xc):List UInt8:=if noRe r x=true then W0 else if decide (x.day < m.day)=true then W1 else if decide (x.day > m.day+r.dl)=true then W2 else if evB r x=true then W3 else[]
def fau:List AV:=[.str W0,.fn (.func 117) [] [],.str W1,.fn (.func 119) [] [],.str W2,.fn (.func 120) [] [],.str W3,.fn (.func 121) [] []]
abbrev Z64a:=[AV.str [(114:UInt8),(101:UInt8),(97:UInt8),(115:UInt8),(111:UInt8),(110:UInt8)],AV.fn (Fn.func 117) [] [],AV.str [(101:UInt8),(97:UInt8),(114:UInt8),(108:UInt8),(121:UInt8)],AV.fn (Fn.func 119) [] [],AV.str [(108:UInt8),(97:UInt8),(116:UInt8),(101:UInt8)],AV.fn (Fn.func 120) [] [],AV.str [(101:UInt8),(118:UInt8),(105:UInt8),(100:UInt8),(101:UInt8),(110:UInt8),(99:UInt8),(101:UInt8)],AV.fn (Fn.func 121) [] []]
theorem c106  :P0 106 [] (.agg fau):=by
 have key :
  (0:Int)<=0/\(0:Int) < (4:Int)/\(0:Int)<=1/\(1:Int) < (4:Int)/\(0:Int)<=2/\(2:Int) < (4:Int)/\(0:Int)<=3/\(3:Int) < (4:Int)/\AV.agg Z64a=AV.agg Z64a:=by
   delta Z64a
   exact⟨by omega,by omega,by omega,by omega,by omega,by omega,by omega,by omega,rfl⟩
 exact Jw Tryz.f106 (mkB spS 106 [] J1) key (by kernel_rfl)
def Jm6(r:Ru)(m:Mv)(x:Xc):Nat->List AV->Option AV
 | 106,_=>some (.agg fau)
 | 117,_=>some (.bool (noRe r x))
 | 119,_=>some (.bool (decide (x.day < m.day)))
 | 120,_=>some (.bool (decide (x.day > m.day+r.dl)))
 | 121,_=>some (.bool (evB r x))
 | n,y=>spS n y
abbrev Z65a:=[(101:UInt8),(118:UInt8),(105:UInt8),(100:UInt8),(101:UInt8),(110:UInt8),(99:UInt8),(101:UInt8)]
abbrev Z65b(r:Ru)(m:Mv)(x:Xc):=[AV.agg (encRu r),AV.agg (encMv m),AV.agg (encXc x)]
abbrev Z65c:=[(114:UInt8),(101:UInt8),(97:UInt8),(115:UInt8),(111:UInt8),(110:UInt8)]
abbrev Z65d:=[(101:UInt8),(97:UInt8),(114:UInt8),(108:UInt8),(121:UInt8)]
abbrev Z65e:=[(108:UInt8),(97:UInt8),(116:UInt8),(101:UInt8)]
theorem c71(r:Ru)(m:Mv)(x:Xc)(hl:r.rs.length<=1000)(h:Jc (m.day+r.dl))(hk:KyOK r)(ha:x.fl.length<=400)(hb:x.re.length<=400):P0 71 [.agg (encRu r),.agg (encMv m),.agg (encXc x)] (.str (wordV r m x)):=by
 have key :
  P0 106 [] (AV.agg [AV.str Z65c,AV.fn (Fn.func 117) [] [],AV.str Z65d,AV.fn (Fn.func 119) [] [],AV.str Z65e,AV.fn (Fn.func 120) [] [],AV.str Z65a,AV.fn (Fn.func 121) [] []])/\(0:Int)<=0/\(0:Int) < (4:Int)/\P0 117
  (Z65b r m x) (AV.bool (noRe r x))/\(noRe r x=true->AV.str Z65c=AV.str (wordV r m x))/\(noRe r x=false->Jc ((0:Int)+1)/\(0:Int)<=0+1/\(0:Int)+1 < (4:Int)/\P0 119 (Z65b r m x) (AV.bool (decide (x.day <
  m.day)))/\(decide (x.day < m.day)=true->AV.str Z65d=AV.str (wordV r m x))/\(decide (x.day < m.day)=false->Jc ((0:Int)+1+1)/\(0:Int)<=0+1+1/\(0:Int)+1+1 < (4:Int)/\P0 120 (Z65b r m x) (AV.bool
  (decide (x.day > m.day+r.dl)))/\(decide (x.day > m.day+r.dl)=true->AV.str Z65e=AV.str (wordV r m x))/\(decide (x.day > m.day+r.dl)=false->Jc ((0:Int)+1+1+1)/\(0:Int)<=0+1+1+1/\(0:Int)+1+1
  + 1 < (4:Int)/\P0 121 (Z65b r m x) (AV.bool (evB r x))/\(evB r x=true->AV.str Z65a=AV.str (wordV r m x))/\(evB r x=false->Jc ((0:Int)+1+1+1+1)/\AV.str []=AV.str (wordV r m x))))):=by
   delta Z65a Z65b Z65c Z65d Z65e
   refine⟨c106,by omega,by omega,(c117 r m x hl),fun h1=>?_,fun h1=>⟨by unfold Jc;omega,by omega,by omega,(c119 r m x),fun h2=>?_,fun h2=>⟨by unfold Jc;omega,by omega,by omega,(c120 r m x h),fun h3=>?_,fun h3=>⟨by unfold Jc;omega,by omega,by omega,(c121 r m x hk ha hb),fun h4=>?_,fun h4=>⟨by unfold Jc;omega,?_⟩⟩⟩⟩⟩
   . unfold wordV
     simp only[*,if_true,if_false,Bool.false_eq_true]
     try rfl
   . unfold wordV
     simp only[*,if_true,if_false,Bool.false_eq_true]
     try rfl
   . unfold wordV
     simp only[*,if_true,if_false,Bool.false_eq_true]
     try rfl
   . unfold wordV
     simp only[*,if_true,if_false,Bool.false_eq_true]
     try rfl
   unfold wordV
   simp only[*,if_true,if_false,Bool.false_eq_true]
   try rfl
 exact Jw Tryz.f71 ({ mkB (Jm6 r m x) 71 [] J1 with cl:=clL [12] }) key (by kernel_rfl)
def mv0:Mv:=⟨[],[],[],0,0⟩
def JgB(l:List Mv)(s:List UInt8):Mv:=if fiN (pM l s) l.length < l.length then l.getD (fiN (pM l s) l.length) default else mv0
def JbT(l:List Mv):List AV:=l.flatMap fun m=>[.str m.fl,.agg (encMv m)]
def kvM(m:Mv):AV × AV:=(.str m.fl,.agg (encMv m))
theorem UP:∀ l:List Mv,VK (JbT l)=l.map kvM
 | []=>rfl
 | m::l=>by
  show kvM m::VK (JbT l)=_
  rw[UP l]
  rfl
def dis(l:List Mv):Prop:=∀ i,i < l.length->∀ j,j < i->((l.getD j default).fl == (l.getD i default).fl)=false
theorem dis_of{r:Ru}{l:List Mv}(h:chkMR r l=0):dis l:=by
 unfold chkMR at h
 obtain⟨h1,h2⟩:=JcM h
 intro i hi j hj
 have h7:=(JL h2).1 i hi
 unfold fMv at h7
 rw[first_zero,first_zero]at h7
 have h8:=Qp (by decide) h7.2.1
 rw[fiI_dec,decide_eq_false_iff_not]at h8
 exact Wa h8 j hj
theorem JhZ(s:List UInt8):∀ l:List Mv,J7 (.str s) (l.map kvM)=some (if(l.any fun m=>m.fl == s)=true then some (.agg (encMv (JgB l s)))else none)
 | []=>rfl
 | m::l=>by
  have ih:=JhZ s l
  simp only[List.map_cons,kvM,J7,Qw,List.any_cons]at ih ⊢
  rw[Qu s m.fl]
  by_cases h:(m.fl == s)=true
  . simp only[h,Bool.true_or,if_true]
    have e:fiN (pM (m::l) s) (m::l).length=0:=fi_some (i:=0) (by intros;omega) (show((m::l).getD 0 default).fl == s by simpa using h) (by simp)
    rw[JgB,e,if_pos (by simp)]
    rfl
  have h':=Bool.eq_false_iff.2 h
  simp only[h',Bool.false_or]
  rw[ih]
  by_cases q:(l.any fun m=>m.fl == s)=true
  . rw[if_pos q,if_pos q]
    have q2:=q
    rw[show l=l.take l.length from(Kw).symm,Vx (Kr _),Ko]at q2
    have e:∀ n,fiN (pM (m::l) s) (n+1)=fiN (pM l s) n+1:=fun n=>by
     induction n with
     | zero =>
      simp only[fiN]
      rw[if_neg (by omega),if_neg (show ¬ pM (m::l) s 0=true from h)]
     | succ n ihn =>
      rw[fiN,ihn]
      show _=(if fiN (pM l s) n < n then fiN (pM l s) n else if pM l s n then n else n+1)+1
      rw[show pM (m::l) s (n+1)=pM l s n from rfl]
      repeat' split
      all_goals omega
    have e1:fiN (pM (m::l) s) (m::l).length=fiN (pM l s) l.length+1:=e l.length
    have q3:fiN (pM l s) l.length < l.length:=q2
    rw[JgB,JgB,e1,if_pos q3,if_pos (by simp only[List.length_cons];omega)]
    rfl
  rw[if_neg q,if_neg q]
theorem any_mv(l:List Mv)(s:List UInt8):(l.any fun m=>m.fl == s)=decide (fiN (pM l s) l.length < l.length):=by
 have:=Vx (l:=l) (q:=fun m=>m.fl == s) (Kr l.length)
 rw[Kw]at this
 exact this
theorem JlS(m:Mv):∀ l:List Mv,(∀ x,x ∈ l->(x.fl == m.fl)=false)->Q6 (.str m.fl) (.agg (encMv m)) (l.map kvM)=some (l.map kvM++[kvM m])
 | [],_=>rfl
 | a::l,h=>by
  have h1:=h a (by simp)
  have ih:=JlS m l (fun x hx=>h x (by simp[hx]))
  simp only[List.map_cons,kvM,Q6,Qw]at ih ⊢
  rw[Qu m.fl a.fl,h1]
  simp only[ih,List.cons_append]
theorem JlT{l:List Mv}(hd:dis l){g:Nat}(hg:g < l.length):Q6 (.str (l.getD g default).fl) (.agg (encMv (l.getD g default))) ((l.take g).map kvM)=some ((l.take (g+1)).map kvM):=by
 rw[JlS _ _ (fun x hx=>by
  obtain⟨i,hi,rfl⟩:=mem_get hx
  rw[Kg]at hi
  have:=hd g hg i (by omega)
  rw[show(l.take g).getD i default=l.getD i default by rw[Ka,Ka,List.getElem?_take,if_pos (by omega)]]
  exact this),List.take_add_one,K8]
 simp[List.getD_eq_getElem?_getD,hg]
def la120(l:List Mv):LA:={
 pre:=[.keep [3,7,8,9] [0,2],.bound 3],post:=[.keep [3,7,8,9] [0,2],.bound 3]
 Gh:=Nat
 st:=fun i=>⟨[(3,.ref 2),(7,.sl 5 (l.map encMv)),(8,.i (l.map encMv).length),(9,.i i)],[(0,.pins 1),(2,.map ((l.take i).map kvM))],3⟩
 ok:=fun i=>i<=(l.map encMv).length
 ms:=fun i=>(l.map encMv).length-i }
abbrev JgM(l:List Mv):=List.map encMv l
abbrev Jmm(l:List Mv):=((JgM l).length:Int)
abbrev Z66b(l:List Mv)(g:Nat):=Q6 (AV.str (l.getD (g:Int).toNat default).fl) (AV.agg (encMv (l.getD (g:Int).toNat default))) (List.map kvM (List.take g l))
theorem w120(l:List Mv)(hD:dis l)(hl:l.length<=1000):WCall Tryz.prog G0 68 [.sl 5 (l.map encMv)] [] (.ref 1) [.map (l.map kvM)]:=by
 have key :
  (∃ (g:Nat),g<=(JgM l).length/\AS.mk [(3,AV.ref 2),(7,AV.sl 5 (JgM l)),(8,AV.i (Jmm l)),(9,AV.i 0)] [(0,ABlk.pins 1),(2,ABlk.map [])] 3=AS.mk [(3,AV.ref 2),(7,AV.sl 5 (JgM l)),(8,AV.i (Jmm l)),(9,AV.i
  (g:Int))] [(0,ABlk.pins 1),(2,ABlk.map (List.map kvM (List.take g l)))] 3)/\∀ (g:Nat),g<=(JgM l).length->(decide ((g:Int) < (Jmm l))=true->(0:Int)<=(g:Int)/\(g:Int) < (Jmm l)/\AV.agg (Ji (JgM l)
  (g:Int).toNat)=AV.agg (encMv (l.getD (g:Int).toNat default))/\(Z66b l g).isSome=true/\Jc ((g:Int)+1)/\∃ (g':Nat),g'<=(JgM l).length/\(JgM l).length-g' < (JgM l).length-g/\AS.mk [(3,AV.ref 2),(7,
  AV.sl 5 (JgM l)),(8,AV.i (Jmm l)),(9,AV.i ((g:Int)+1))] [(0,ABlk.pins 1),(2,ABlk.map ((Z66b l g).getD []))] 3=AS.mk [(3,AV.ref 2),(7,AV.sl 5 (JgM l)),(8,AV.i (Jmm l)),(9,AV.i (g':Int))] [(0,ABlk.pins
  1),(2,ABlk.map (List.map kvM (List.take g' l)))] 3)/\(decide ((g:Int) < (Jmm l))=false->AV.ref 1=AV.ref 1/\[ABlk.map (List.map kvM (List.take g l))]=[ABlk.map (List.map kvM l)]):=by
   delta Jmm Z66b JgM
   have hlm:(List.map encMv l).length=l.length:=Kb _
   have:(List.map encMv l).length=l.length:=by simp only[Kb]
   refine⟨⟨0,by omega,rfl⟩,fun g hg=>⟨fun hd=>?_,fun hd=>?_⟩⟩
   . have hlt:g < l.length:=by have h9:=Ky hd;have h8:=hg;(try simp only[Kb]at h8);(try simp only[Kb]at h9);omega
     try rw[show(g:Int).toNat=g from Km g]
     refine⟨by omega,by omega,congrArg AV.agg (Jl encMv hlt),by rw[JlT hD hlt];rfl,by unfold Jc;omega,⟨g+1,by omega,by omega,?_⟩⟩
     rw[JlT hD hlt];rfl
   have hge:g=l.length:=by have h9:=Kz hd;have h8:=hg;(try simp only[Kb]at h8);(try simp only[Kb]at h9);omega
   subst hge
   exact⟨rfl,by rw[Kw]⟩
 exact w_of Tryz.f68 (mkB spS 68 [(4,1,rdL 5 encMv l 5 true)] (la1 (la120 l))) key (by kernel_rfl)
def pX(l:List Xc)(s:List UInt8)(i:Nat):Bool:=(l.getD i default).fl == s
def okX(x:Xc):Bool:=if decide ((x.fl.length:Int) > 40)then false else !decide ((x.re.length:Int) > 40)
def shX(l:List Xc):Bool:=if(if decide ((l.length:Int) > 12)then(l.length:Int) != 257 else false)then false else l.all okX
def eX(r:Ru)(l:List Mv)(x:List Xc):Int:=sFirst [chkMR r l,sWhen (decide ((x.length:Int) > 256)) 5]
def fXs(l:List Mv)(x:List Xc)(i:Nat):Int:=sFirst [sWhen (!decide (fiN (pM l (x.getD i default).fl) l.length < l.length)) 10,sWhen (VN (knS ((x.map Xc.fl).take i)) (.str (x.getD i default).fl)) 9,sWhen (!sName (x.getD i default).re) 8,Ja (x.getD i default).day 0 100000]
def fXr(l:List Mv)(x:List Xc)(i:Nat):Int:=sFirst [sWhen (decide (fiI (pM l (x.getD i default).fl) l.length < 0)) 10,sWhen (decide (fiI (pX x (x.getD i default).fl) i>=0)) 9,sWhen (!sName (x.getD i default).re) 8,Ja (x.getD i default).day 0 100000]
def exS(r:Ru)(l:List Mv)(x:List Xc):Int:=if eX r l x != 0 then eX r l x else JC (fXs l x) x.length 0
def exR(r:Ru)(l:List Mv)(x:List Xc):Int:=if eX r l x != 0 then eX r l x else JC (fXr l x) x.length 0
theorem ex_eq(r:Ru)(l:List Mv)(x:List Xc):exS r l x=exR r l x:=by
 unfold exS exR
 congr 1
 refine Qq fun k hk=>?_
 unfold fXs fXr
 have e:(x.map Xc.fl).length=x.length:=Kb _
 rw[WY,JkE (by omega),Xm (p:=pS (x.map Xc.fl) _) (q:=pX x _) (fun j hj=>by unfold pS pX;rw[Ww (by omega)]),<- fiI_dec]
def rdM(l:List Mv)(ok:Bool):BL->List AV->Option AV:=fun bs ins=>match ins with
 | [.ref id,.str s]=>match Jr bs id with
  | .map _=>some (if ok then .tup [.agg (encMv (JgB l s)),.bool (decide (fiN (pM l s) l.length < l.length))]else .agg (encMv (JgB l s)))
  | _=>none
 | _=>none
theorem JlQ(l:List Mv)(s:List UInt8):Um true (.agg [.str [],.str [],.str [],.i 0,.i 0]) (J7 (.str s) (VK (JbT l)))=.tup [.agg (encMv (JgB l s)),.bool (decide (fiN (pM l s) l.length < l.length))]/\Um false (.agg [.str [],.str [],.str [],.i 0,.i 0]) (J7 (.str s) (VK (JbT l)))=.agg (encMv (JgB l s))/\(J7 (.str s) (VK (JbT l))).isSome=true:=by
 rw[UP,JhZ,any_mv]
 by_cases h:fiN (pM l s) l.length < l.length
 . rw[decide_eq_true h,if_pos rfl]
   exact⟨rfl,rfl,rfl⟩
 rw[decide_eq_false h,if_neg (by decide)]
 have e:JgB l s=mv0:=if_neg h
 rw[e]
 exact⟨rfl,rfl,rfl⟩
def hs120(l:List Mv):Nat->List AV->List ABlk->Option AV
 | 68,_,_=>some (.gv true (.tup [.ref 1,.tup (JbT l)]))
 | _,_,_=>none
theorem w120r{r:Ru}{l:List Mv}(h:chkMR r l=0)(hl:l.length<=1000):WCall Tryz.prog G0 68 [.sl 5 (l.map encMv)] [] (.ref 1) [.map (VK (JbT l))]:=by
 rw[UP]
 exact w120 l (dis_of h) hl
def sp54(r:Ru)(l:List Mv):Nat->List AV->Option AV
 | 24,_=>some (.i (chkMR r l))
 | n,y=>spS n y
def la54(r:Ru)(l:List Mv)(x:List Xc):LA:={
 pre:=[.keep [3,8,9,30,31,32] [16,17],.bound 18],post:=[.keep [3,8,9,30,31,32] [16,17],.bound 18]
 Gh:=Nat
 st:=fun i=>⟨[(3,.elt 18 [encRu r] 0 0),(8,.ref 16),(9,.ref 17),(30,.sl 11 (x.map encXc)),(31,.i (x.map encXc).length),(32,.i i)],[(16,.map (VK (JbT l))),(17,.map (knS ((x.map Xc.fl).take i)))],18⟩
 ok:=fun i=>i<=x.length/\∀ j,j < i->fXs l x j=0
 ms:=fun i=>x.length-i }
abbrev Ji3(x:List Xc)(g:Nat):=x.getD (g:Int).toNat default
abbrev JpR(l:List Mv)(x:List Xc)(g:Nat):=fiN (pM l (Ji3 x g).fl) l.length < l.length
abbrev JoN(g:Nat)(x:List Xc):=knS (List.take g (List.map Xc.fl x))
abbrev Jml(x:List Xc)(g:Nat):=AV.str (Ji3 x g).fl
abbrev JpQ(g:Nat)(x:List Xc):=VN (JoN g x) (Jml x g)
abbrev Z67i(x:List Xc)(g:Nat):=Ja (Ji3 x g).day (0:Int) (100000:Int)
abbrev Z67a(l:List Mv)(x:List Xc)(g:Nat):=[hdI [AV.i (sWhen (!decide (JpR l x g)) (10:Int))],hdI [AV.i (sWhen (JpQ g x) (9:Int))],hdI [AV.i (sWhen (!sName (Ji3 x g).re) (8:Int))],hdI [AV.i (Z67i x g)]]
abbrev Jjt(x:List Xc):=((List.map encXc x).length:Int)
abbrev Z67h(x:List Xc):=sWhen (decide ((Jjt x) > 256)) (5:Int)
abbrev Z67e(r:Ru)(l:List Mv)(x:List Xc):=[hdI [AV.i (chkMR r l)],hdI [AV.i (Z67h x)]]
abbrev Jmk(l:List Mv):=VK (JbT l)
theorem c32(r:Ru)(l:List Mv)(x:List Xc)(hS:Sh r l)(hx:x.length<=1000)(hX:∀ y,y ∈ x->y.re.length<=1000):P0 32 [.agg (encRu r),.sl 5 (l.map encMv),.sl 11 (x.map encXc)] (.i (exS r l x)):=by
 have key :
  P0 24 [AV.agg (encRu r),AV.sl 5 (List.map encMv l)] (AV.i (chkMR r l))/\P0 28 [AV.bool (decide ((Jjt x) > 256)),AV.i 5] (AV.i (Z67h x))/\P0 27 [AV.sl 1 [[AV.i (chkMR r l)],[AV.i (Z67h x)]]] (AV.i (sFirst (Z67e r l x))) /\
  ((sFirst (Z67e r l x) != 0)=true->AV.i (sFirst (Z67e r l x))=AV.i (exS r l x))/\((sFirst (Z67e r l x) != 0)=false->WCall Tryz.prog G0 68 [AV.sl 5 (List.map encMv l)] [] (AV.ref 1) [ABlk.map (Jmk l)]/\(∃ (g:Nat),(g ≤
  x.length/\∀ (j:Nat),j < g->fXs l x j=(0:Int))/\AS.mk [(3,AV.elt 18 [(encRu r)] 0 0),(8,AV.ref 16),(9,AV.ref 17),(30,AV.sl 11 (List.map encXc x)),(31,AV.i (Jjt x)),(32,AV.i 0)] [(16,ABlk.map (Jmk l)),(17,
  ABlk.map [])] 18=AS.mk [(3,AV.elt 18 [(encRu r)] 0 0),(8,AV.ref 16),(9,AV.ref 17),(30,AV.sl 11 (List.map encXc x)),(31,AV.i (Jjt x)),(32,AV.i (g:Int))] [(16,ABlk.map (Jmk l)),(17,ABlk.map (JoN g x))] 18)/\∀
  (g:Nat),(g<=x.length/\∀ (j:Nat),j < g->fXs l x j=(0:Int))->(decide ((g:Int) < (Jjt x))=true->(0:Int)<=(g:Int)/\(g:Int) < (Jjt x)/\AV.agg (Ji (List.map encXc x) (g:Int).toNat)=AV.agg (encXc
  (Ji3 x g))/\(J7 (Jml x g) (Jmk l)).isSome=true/\Um true (AV.agg [AV.str [],AV.str [],AV.str [],AV.i 0,AV.i 0]) (J7 (Jml x g) (Jmk l))=AV.tup [AV.agg (encMv (JgB l (Ji3 x g).fl)),AV.bool (decide (JpR l x
  g))]/\(J7 (Jml x g) (JoN g x)).isSome=true/\P0 28 [AV.bool !decide (JpR l x g),AV.i 10] (AV.i (sWhen (!decide (JpR l x g)) (10:Int)))/\Um false (AV.bool false) (J7 (Jml x g) (JoN g x))=AV.bool (JpQ g x) /\
  P0 28 [AV.bool (JpQ g x),AV.i 9] (AV.i (sWhen (JpQ g x) (9:Int)))/\P0 42 [AV.str (Ji3 x g).re] (AV.i (sWhen (!sName (Ji3 x g).re) (8:Int)))/\P0 64 [AV.i (Ji3 x g).day,AV.i 0,AV.i 100000] (AV.i (Z67i x g))/\P0 27
  [AV.sl 1 [[AV.i (sWhen (!decide (JpR l x g)) (10:Int))],[AV.i (sWhen (JpQ g x) (9:Int))],[AV.i (sWhen (!sName (Ji3 x g).re) (8:Int))],[AV.i (Z67i x g)]]] (AV.i (sFirst (Z67a l x g)))/\((sFirst (Z67a l x g) != 0)=true
  → AV.i (sFirst (Z67a l x g))=AV.i (exS r l x))/\((sFirst (Z67a l x g) != 0)=false->(Q6 (Jml x g) (AV.bool true) (JoN g x)).isSome=true/\Jc ((g:Int)+1)/\∃ (g':Nat),(g'<=x.length/\∀ (j:Nat),j < g'->fXs l
  x j=(0:Int))/\x.length-g' < x.length-g/\AS.mk [(3,AV.elt 18 [(encRu r)] 0 0),(8,AV.ref 16),(9,AV.ref 17),(30,AV.sl 11 (List.map encXc x)),(31,AV.i (Jjt x)),(32,AV.i ((g:Int)+1))] [(16,ABlk.map (Jmk l)),
  (17,ABlk.map ((Q6 (Jml x g) (AV.bool true) (JoN g x)).getD []))] 18=AS.mk [(3,AV.elt 18 [(encRu r)] 0 0),(8,AV.ref 16),(9,AV.ref 17),(30,AV.sl 11 (List.map encXc x)),(31,AV.i (Jjt x)),(32,AV.i (g':Int))] [(16,
  ABlk.map (Jmk l)),(17,ABlk.map (knS (List.take g' (List.map Xc.fl x))))] 18))/\(decide ((g:Int) < (Jjt x))=false->AV.i 0=AV.i (exS r l x))):=by
   delta Z67a Ji3 Jjt JoN Z67e JpR JpQ Z67h Z67i Jml Jmk
   have hlm:(List.map encXc x).length=x.length:=Kb _
   have heX:sFirst [hdI [AV.i (chkMR r l)],hdI [AV.i (sWhen (decide (((List.map encXc x).length:Int) > (256:Int))) (5:Int))]]=eX r l x:=by rw[hlm];rfl
   rw[heX]
   have:(List.map encXc x).length=x.length:=by simp only[Kb]
   refine⟨(c24r hS),(c28 _ _),(by have:=c27 [chkMR r l,sWhen (decide (((List.map encXc x).length:Int) > (256:Int))) 5] (by simp);rw[<- heX];exact this),fun h1=>?_,fun h1=>?_⟩
   . rw[exS,if_pos h1]
   have h0:chkMR r l=0:=by
    have hz:=QE h1
    unfold eX at hz
    rw[first_zero]at hz
    exact hz.1
   refine⟨(w120r h0 hS.k),⟨⟨0,⟨by omega,by intros;omega⟩,rfl⟩,fun g ⟨hg,ha⟩=>⟨fun hd=>?_,fun hd=>?_⟩⟩⟩
   . have hlt:g < x.length:=by have h9:=Ky hd;have h8:=hg;(try simp only[Kb]at h8);(try simp only[Kb]at h9);omega
     try rw[show(g:Int).toNat=g from Km g]
     have hgl:g < (x.map Xc.fl).length:=by rw[Kb];exact hlt
     have hfl:(x.map Xc.fl).getD g default=(x.getD g default).fl:=Ww hlt
     have hput:fXs l x g=0->Q6 (.str (x.getD g default).fl) (.bool true) (knS ((x.map Xc.fl).take g))=some (knS ((x.map Xc.fl).take (g+1))):=fun hz=>by
      unfold fXs at hz
      rw[first_zero,first_zero]at hz
      have:=JeS hgl (by rw[hfl];exact Qp (by decide) hz.2.1)
      rw[hfl]at this
      exact this
     try rw[show(g:Int).toNat=g from Km g]
     refine⟨by omega,by omega,congrArg AV.agg (Jl encXc hlt),(JlQ l _).2.2,(JlQ l _).1,QJ (fun s=>s) _ _,(c28 _ _),Xj (fun s=>s) _ _,(c28 _ _),(c42 _ (by have:=hX _ (Js hlt);omega)),(c64 _ _ _),(c27 [_,_,_,_] (by simp)),fun h2=>?_,fun h2=>?_⟩
     . have hne:fXs l x g ≠ 0:=Uv h2
       refine Xd ?_
       rw[exS,if_neg (by rw[h1];decide),J4 hlt ha hne];rfl
     have hz:fXs l x g=0:=QE h2
     have hp:=hput hz
     refine⟨by rw[hp];rfl,by unfold Jc;omega,⟨g+1,⟨by omega,Jau ha hz⟩,by omega,?_⟩⟩
     rw[hp];rfl
   have hge:g=x.length:=by have h9:=Kz hd;have h8:=hg;(try simp only[Kb]at h8);(try simp only[Kb]at h9);omega
   subst hge
   rw[exS,if_neg (by rw[h1];decide),scan_end ha]
 exact Jw Tryz.f32 ({ Jjn 8 3 (fun a=>{ a with rdb:=rdM l true }) (Jjn 9 6 (fun a=>{ a with rdb:=rdK }) (fzB (mkB (sp54 r l) 32 [(7,1,rdL 11 encXc x 11 true)] (la1 (la54 r l x)))))with hs:=hs120 l }) key (by kernel_rfl)
theorem Jnp{r:Ru}(h:chkR r=0):(0<=r.dl/\r.dl<=60)/\(0<=r.fi/\r.fi<=100000)/\r.rs.length<=8:=by
 unfold chkR at h
 obtain⟨h1,h2⟩:=JcM h
 obtain⟨-,h3⟩:=JL h2
 obtain⟨-,h4⟩:=gt5 h3
 obtain⟨-,h5⟩:=JL h4
 obtain⟨h8,h6⟩:=JcM h5
 obtain⟨-,h7⟩:=JL h6
 unfold e6 at h7
 rw[first_zero,first_zero,first_zero,within_zero,within_zero,within_zero]at h7
 unfold e4 at h8
 rw[first_zero,first_zero]at h8
 have:=Qp (by decide) h8.2.1
 simp only[decide_eq_false_iff_not]at this
 exact⟨h7.1,h7.2.1,by omega⟩
theorem ex_ok{r:Ru}{l:List Mv}{x:List Xc}(h:exR r l x=0):chkMR r l=0/\x.length<=256/\∀ i,i < x.length->fXr l x i=0:=by
 unfold exR at h
 obtain⟨h1,h2⟩:=JcM h
 unfold eX at h1
 rw[first_zero,first_zero]at h1
 have hl:=Qp (by decide) h1.2.1
 simp only[decide_eq_false_iff_not]at hl
 exact⟨h1.1,by omega,(JL h2).1⟩
theorem day_in{r:Ru}{l:List Mv}(h:chkMR r l=0){m:Mv}(hm:m ∈ l):Jc (m.day+r.dl):=by
 have h1:=((mv_ok h).2.1.2 m hm).d
 have h2:=(Jnp (mv_ok h).1).1
 unfold Jc
 omega
theorem c32r{r:Ru}{l:List Mv}{x:List Xc}(hS:Sh r l)(hx:x.length<=1000)(hX:∀ y,y ∈ x->y.re.length<=1000):P0 32 [.agg (encRu r),.sl 5 (l.map encMv),.sl 11 (x.map encXc)] (.i (exR r l x)):=by
 have:=c32 r l x hS hx hX
 rw[ex_eq]at this
 exact this
def evZ(b:Bool)(r:Ru)(x y:List UInt8):List AV:=[.int .u8 (if b=true then sea (kyR r) (x++[32]++y) 0 else 0),.int .u8 (if b=true then sea (kyR r) (x++[32]++y) 1 else 0),.int .u8 (if b=true then sea (kyR r) (x++[32]++y) 2 else 0),.int .u8 (if b=true then sea (kyR r) (x++[32]++y) 3 else 0),.int .u8 (if b=true then sea (kyR r) (x++[32]++y) 4 else 0),.int .u8 (if b=true then sea (kyR r) (x++[32]++y) 5 else 0),.int .u8 (if b=true then sea (kyR r) (x++[32]++y) 6 else 0),.int .u8 (if b=true then sea (kyR r) (x++[32]++y) 7 else 0)]
def e57(r:Ru)(a b:List UInt8):Int:=sFirst [chkR r,sWhen (!sName a) 8,sWhen (!sName b) 8]
theorem c41r(r:Ru)(hl:r.ts.length<=1000)(hm:r.rs.length<=1000)(hn:∀ t,t ∈ r.ts->t.n.length<=1000)(hs:∀ s,s ∈ r.rs->s.length<=1000):P0 41 [.agg (encRu r)] (.i (chkR r)):=by
 have:=c41 r hl hm hn hs
 rw[Jl4]at this
 exact this
abbrev Jdf(a:List UInt8)(b:List UInt8):=a++[(32:UInt8)]++b
abbrev Z68a(r:Ru)(a:List UInt8)(b:List UInt8):=[AV.agg [AV.int IntKind.u8 (if(e57 r a b == 0)=true then sea (kyR r) (Jdf a b) 0 else(0:Int)),AV.int IntKind.u8 (if(e57 r a b == 0)=true then sea (kyR r) (Jdf a b) 1 else(0:Int)),AV.int IntKind.u8 (if(e57 r a b == 0)=true then sea (kyR r) (Jdf a b) 2 else(0:Int)),AV.int IntKind.u8 (if(e57 r a b == 0)=true then sea (kyR r) (Jdf a b) 3 else(0:Int)),AV.int IntKind.u8 (if(e57 r a b == 0)=true then sea (kyR r) (Jdf a b) 4 else(0:Int)),AV.int IntKind.u8 (if(e57 r a b == 0)=true then sea (kyR r) (Jdf a b) 5 else(0:Int)),AV.int IntKind.u8 (if(e57 r a b == 0)=true then sea (kyR r) (Jdf a b) 6 else(0:Int)),AV.int IntKind.u8 (if(e57 r a b == 0)=true then sea (kyR r) (Jdf a b) 7 else(0:Int))],AV.i (e57 r a b)]
abbrev Z68b(r:Ru)(a:List UInt8)(b:List UInt8):=[AV.int IntKind.u8 (sea (kyR r) (Jdf a b) 0),AV.int IntKind.u8 (sea (kyR r) (Jdf a b) 1),AV.int IntKind.u8 (sea (kyR r) (Jdf a b) 2),AV.int IntKind.u8 (sea (kyR r) (Jdf a b) 3),AV.int IntKind.u8 (sea (kyR r) (Jdf a b) 4),AV.int IntKind.u8 (sea (kyR r) (Jdf a b) 5),AV.int IntKind.u8 (sea (kyR r) (Jdf a b) 6),AV.int IntKind.u8 (sea (kyR r) (Jdf a b) 7)]
abbrev Z68c(r:Ru)(a:List UInt8)(b:List UInt8):=[hdI [AV.i (chkR r)],hdI [AV.i (sWhen (!sName a) (8:Int))],hdI [AV.i (sWhen (!sName b) (8:Int))]]
theorem c19(r:Ru)(a b:List UInt8)(hl:r.ts.length<=1000)(hm:r.rs.length<=1000)(hn:∀ t,t ∈ r.ts->t.n.length<=1000)(hs:∀ s,s ∈ r.rs->s.length<=1000)(hk:KyOK r)(ha:a.length<=400)(hb:b.length<=400):P0 19 [.agg (encRu r),.str a,.str b] (.tup [.agg (evZ (e57 r a b == 0) r a b),.i (e57 r a b)]):=by
 have key :
  P0 41 [AV.agg (encRu r)] (AV.i (chkR r))/\P0 42 [AV.str a] (AV.i (sWhen (!sName a) (8:Int)))/\P0 42 [AV.str b] (AV.i (sWhen (!sName b) (8:Int)))/\P0 27 [AV.sl 1 [[AV.i (chkR r)],[AV.i (sWhen (!sName a) (8:Int))],[AV.i
  (sWhen (!sName b) (8:Int))]]] (AV.i (sFirst (Z68c r a b)))/\((sFirst (Z68c r a b) != 0)=true->AV.tup [AV.agg [AV.int IntKind.u8 (0:Int),AV.int IntKind.u8 (0:Int),AV.int IntKind.u8 (0:Int),AV.int IntKind.u8 (0:Int),
  AV.int IntKind.u8 (0:Int),AV.int IntKind.u8 (0:Int),AV.int IntKind.u8 (0:Int),AV.int IntKind.u8 (0:Int)],AV.i (sFirst (Z68c r a b))]=AV.tup (Z68a r a b))/\((sFirst (Z68c r a b) != 0)=false->P0 43 [AV.agg (encRu
  r),AV.str a,AV.str b] (AV.agg (Z68b r a b))/\AV.tup [AV.agg (Z68b r a b),AV.i 0]=AV.tup (Z68a r a b)):=by
   delta Z68a Z68b Z68c Jdf
   refine⟨(c41r r hl hm hn hs),(c42 _ (by omega)),(c42 _ (by omega)),(c27 [_,_,_] (by simp)),fun h1=>?_,fun h1=>⟨(c43 r a b hk ha hb),?_⟩⟩
   . have e:sFirst [hdI [AV.i (chkR r)],hdI [AV.i (sWhen (!sName a) 8)],hdI [AV.i (sWhen (!sName b) 8)]]=e57 r a b:=rfl
     rw[e]at h1
     first
      | (rw[show(e57 r a b == 0)=false by simpa using h1];rfl)
      | (rw[show e57 r a b=0 from QE h1];rfl)
   have e:sFirst [hdI [AV.i (chkR r)],hdI [AV.i (sWhen (!sName a) 8)],hdI [AV.i (sWhen (!sName b) 8)]]=e57 r a b:=rfl
   rw[e]at h1
   first
    | (rw[show(e57 r a b == 0)=false by simpa using h1];rfl)
    | (rw[show e57 r a b=0 from QE h1];rfl)
 exact Jw Tryz.f19 (fzB (mkB (fun n y=>match n with | 41=>some (.i (chkR r)) | 43=>some (.agg (evS r a b)) | _=>spN n y) 19 [] J1)) key (by kernel_rfl)
structure Cs where
 fl:List UInt8
 w:List UInt8
 f:Int
 deriving Inhabited
def encCs(c:Cs):List AV:=[.str c.fl,.str c.w,.i c.f]
def WN:List UInt8:=[110,111,110,101]
def ixX(x:List Xc)(s:List UInt8):Nat:=fiN (pX x s) x.length
def wordC(r:Ru)(x:List Xc)(m:Mv):List UInt8:=if ixX x m.fl < x.length then wordV r m (x.getD (ixX x m.fl) default)else WN
def oneC(r:Ru)(x:List Xc)(m:Mv):List Cs:=if wiR r.c r.d m.mi=true then(if(wordC r x m != [])=true then[⟨m.fl,wordC r x m,r.fi⟩]else[])else[]
def caL(r:Ru)(l:List Mv)(x:List Xc):List Cs:=l.flatMap (oneC r x)
theorem JcV{α β:Type}[Inhabited α](f:α->List β){l:List α}{g:Nat}(h:g < l.length):(l.take (g+1)).flatMap f=(l.take g).flatMap f++f (l.getD g default):=by
 rw[List.take_add_one,List.flatMap_append]
 simp[List.getD_eq_getElem?_getD,h]
theorem Jfe{α β:Type}(f:α->List β)(h:∀ a,(f a).length<=1):∀ l:List α,(l.flatMap f).length<=l.length
 | []=>Kr _
 | a::l=>by
  have:=Jfe f h l
  have:=h a
  rw[List.flatMap_cons,Kf,List.length_cons]
  omega
theorem Jkf(r:Ru)(x:List Xc)(m:Mv):(oneC r x m).length<=1:=by
 unfold oneC
 split
 . split <;> simp
 simp
theorem ru_cur{r:Ru}(h:chkR r=0):(0<=r.c/\r.c < 1440)/\(0<=r.d/\r.d < 1440)/\r.c ≠ r.d:=by
 unfold chkR at h
 obtain⟨h1, -⟩:=JcM h
 unfold e1 at h1
 rw[first_zero,first_zero]at h1
 exact Jds h1.2.1
theorem c40w{a b m:Int}(ha:0<=a/\a < 1440)(hb:0<=b/\b < 1440)(hab:a ≠ b)(hm:0<=m/\m < 1440):P0 40 [.agg [.i a,.i b],.i m] (.bool (wiR a b m)):=by
 have:=c40 a b m ha hb hm
 rw[U8 ha hb hab hm]at this
 exact this
def Fm(m:Mv):AV:=.fn (.func 70) [] [.elt 5 [encMv m] 0 0]
theorem c70(y:Xc)(m:Mv) :P0 70 [.agg (encXc y),.elt 5 [encMv m] 0 0] (.bool (y.fl == m.fl)):=by
 have key :
  AV.bool (y.fl == m.fl)=AV.bool (y.fl == m.fl):=by
   exact rfl
 exact Jw Tryz.f70 (mkB spS 70 [] J1) key (by kernel_rfl)
def decXc:List AV->Xc
 | [.str a,.str b,.int _ d,.int _ e0,.int _ e1,.int _ e2,.int _ e3,.int _ e4,.int _ e5,.int _ e6,.int _ e7]=>⟨a,b,d,e0,e1,e2,e3,e4,e5,e6,e7⟩
 | _=>default
def la150(x:List Xc)(m:Mv):LA:={
 pre:=[.keep [0,1,6,7,8] [],.bound 1],post:=[.keep [0,1,6,7,8] [],.bound 1]
 Gh:=Nat
 st:=fun i=>⟨[(0,.sl 11 (x.map encXc)),(1,Fm m),(6,.sl 11 (x.map encXc)),(7,.i (x.map encXc).length),(8,.i i)],[],1⟩
 ok:=fun i=>i<=x.length/\∀ j,j < i->pX x m.fl j=false
 ms:=fun i=>x.length-i }
abbrev Ji2(x:List Xc):=List.map encXc x
abbrev Jmj(x:List Xc):=((Ji2 x).length:Int)
abbrev JpP(x:List Xc)(g:Nat):=x.getD (g:Int).toNat default
abbrev Z69d(m:Mv):=[AV.elt 5 [(encMv m)] 0 0]
theorem c69(x:List Xc)(m:Mv)(hl:x.length<=1000):P0 69 [.sl 11 (x.map encXc),Fm m] (.i (fiI (pX x m.fl) x.length)):=by
 have key :
  (∃ (g:Nat),(g<=x.length/\∀ (j:Nat),j < g->pX x m.fl j=false)/\AS.mk [(0,AV.sl 11 (Ji2 x)),(1,AV.fn (Fn.func 70) [] (Z69d m)),(6,AV.sl 11 (Ji2 x)),(7,AV.i (Jmj x)),(8,AV.i 0)] [] 1=AS.mk [(0,AV.sl 11 (Ji2
  x)),(1,AV.fn (Fn.func 70) [] (Z69d m)),(6,AV.sl 11 (Ji2 x)),(7,AV.i (Jmj x)),(8,AV.i (g:Int))] [] 1)/\∀ (g:Nat),(g<=x.length/\∀ (j:Nat),j < g->pX x m.fl j=false)->(decide ((g:Int) < (Jmj x))=true →
  (0:Int)<=(g:Int)/\(g:Int) < (Jmj x)/\AV.agg (Ji (Ji2 x) (g:Int).toNat)=AV.agg (encXc (JpP x g))/\P0 70 [AV.agg (encXc (JpP x g)),AV.elt 5 [(encMv m)] 0 0] (AV.bool ((JpP x g).fl == m.fl))/\(((JpP x g).fl
  == m.fl)=true->AV.i (g:Int)=AV.i (fiI (pX x m.fl) x.length))/\(((JpP x g).fl == m.fl)=false->Jc ((g:Int)+1)/\∃ (g':Nat),(g'<=x.length/\∀ (j:Nat),j < g'->pX x m.fl j=false)/\x.length-g' < x.length
  - g/\AS.mk [(0,AV.sl 11 (Ji2 x)),(1,AV.fn (Fn.func 70) [] (Z69d m)),(6,AV.sl 11 (Ji2 x)),(7,AV.i (Jmj x)),(8,AV.i ((g:Int)+1))] [] 1=AS.mk [(0,AV.sl 11 (Ji2 x)),(1,AV.fn (Fn.func 70) [] (Z69d m)),(6,AV.sl
  11 (Ji2 x)),(7,AV.i (Jmj x)),(8,AV.i (g':Int))] [] 1))/\(decide ((g:Int) < (Jmj x))=false->AV.i (-1)=AV.i (fiI (pX x m.fl) x.length)):=by
   delta Jmj JpP Ji2 Z69d
   have hlm:(List.map encXc x).length=x.length:=Kb _
   have:(List.map encXc x).length=x.length:=by simp only[Kb]
   refine⟨⟨0,⟨by omega,by intros;omega⟩,rfl⟩,fun g ⟨hg,ha⟩=>⟨fun hd=>?_,fun hd=>?_⟩⟩
   . have hlt:g < x.length:=by have h9:=Ky hd;have h8:=hg;(try simp only[Kb]at h8);(try simp only[Kb]at h9);omega
     try rw[show(g:Int).toNat=g from Km g]
     refine⟨by omega,by omega,congrArg AV.agg (Jl encXc hlt),(c70 _ m),fun h1=>?_,fun h1=>⟨by unfold Jc;omega,⟨g+1,⟨by omega,Jau ha h1⟩,by omega,rfl⟩⟩⟩
     rw[fiI,fi_some ha (show pX x m.fl g=true from h1) hlt,if_neg (by omega)]
   have hge:g=x.length:=by have h9:=Kz hd;have h8:=hg;(try simp only[Kb]at h8);(try simp only[Kb]at h9);omega
   subst hge
   rw[fiI,fi_none ha,if_pos rfl]
 exact Jw Tryz.f69 (mkB (fun n z=>match n,z with | 70,[.agg y,_]=>some (.bool ((decXc y).fl == m.fl)) | n,z=>spS n z) 69 [(4,4,rdL 11 encXc x 11 true)] (la1 (la150 x m))) key (by kernel_rfl)
def sp119(r:Ru)(l:List Mv)(x:List Xc):Nat->List AV->Option AV
 | 40,[.agg [.int _ a,.int _ b],.int _ m]=>some (.bool (wiR a b m))
 | 69,[_,.fn _ _ [.elt _ [.str s::_] _ _]]=>some (.i (fiI (pX x s) x.length))
 | 71,[_,.agg m,.agg y]=>some (.str (wordV r (decMv m) (decXc y)))
 | 1121,[_,.str s]=>some (.i (fiI (pX x s) x.length))
 | 1058,[_,_,.agg y]=>some (.str (wordV r (JgB l (decXc y).fl) (decXc y)))
 | n,z=>spS n z
structure Of(r:Ru)(l:List Mv)(x:List Xc):Prop where
 S:Sh r l
 k:KyOK r
 e:exR r l x=0
 n:x.length<=1000
 b:∀ y,y ∈ x->y.fl.length<=400/\y.re.length<=400
def la119(r:Ru)(l:List Mv)(x:List Xc):LA:={
 pre:=[.own 7 69 3,.reno 7 1,.keep [2,3,7,12,13,14] [1],.bound 2],post:=[.reno 7 1,.keep [2,3,7,12,13,14] [1],.bound 2]
 Gh:=Nat
 st:=fun i=>⟨[(2,.sl 11 (x.map encXc)),(3,.elt 18 [encRu r] 0 0),(7,.own 1 (((l.take i).flatMap (oneC r x)).map encCs).length),(12,.sl 5 (l.map encMv)),(13,.i (l.map encMv).length),(14,.i i)],[(1,.buf 69 3 (((l.take i).flatMap (oneC r x)).map encCs))],2⟩
 ok:=fun i=>i<=(l.map encMv).length
 ms:=fun i=>(l.map encMv).length-i }
theorem wordC_t{r:Ru}{x:List Xc}{m:Mv}(h:ixX x m.fl < x.length):wordC r x m=wordV r m (x.getD (ixX x m.fl) default):=if_pos h
theorem wordC_f{r:Ru}{x:List Xc}{m:Mv}(h:¬ ixX x m.fl < x.length):wordC r x m=WN:=if_neg h
theorem ix_t{x:List Xc}{s:List UInt8}(h:decide (fiI (pX x s) x.length>=0)=true):ixX x s < x.length/\(fiI (pX x s) x.length).toNat=ixX x s/\0<=fiI (pX x s) x.length/\fiI (pX x s) x.length < x.length:=by
 rw[fiI_dec,Ko]at h
 have:=fiI_bd h
 exact⟨h,this.2.2,this.1,this.2.1⟩
theorem ix_f{x:List Xc}{s:List UInt8}(h:decide (fiI (pX x s) x.length>=0)=false):¬ ixX x s < x.length:=by
 rw[fiI_dec,decide_eq_false_iff_not]at h
 exact h
theorem JfN{r:Ru}{l:List Mv}{x:List Xc}{g:Nat}(hg:g < l.length)(h:oneC r x (l.getD g default)=[]):(l.take (g+1)).flatMap (oneC r x)=(l.take g).flatMap (oneC r x):=by
 rw[JcV _ hg,h,List.append_nil]
theorem JeK{r:Ru}{l:List Mv}{x:List Xc}{g:Nat}{c:Cs}(hg:g < l.length)(h:oneC r x (l.getD g default)=[c]):((l.take (g+1)).flatMap (oneC r x)).map encCs=((l.take g).flatMap (oneC r x)).map encCs++[encCs c]:=by
 rw[JcV _ hg,h,K8]
 rfl
theorem JhL{r:Ru}{x:List Xc}{m:Mv}(h:(!wiR r.c r.d m.mi)=true):oneC r x m=[]:=by
 unfold oneC
 rw[if_neg]
 simpa using h
theorem JeX{r:Ru}{x:List Xc}{m:Mv}(h:(!wiR r.c r.d m.mi)=false){w:List UInt8}(hw:wordC r x m=w)(h2:(!(w == []))=true):oneC r x m=[⟨m.fl,w,r.fi⟩]:=by
 subst hw
 unfold oneC
 rw[if_pos (by simpa using h),if_pos (show(wordC r x m != [])=true from h2)]
theorem JhM{r:Ru}{x:List Xc}{m:Mv}(h:(!wiR r.c r.d m.mi)=false){w:List UInt8}(hw:wordC r x m=w)(h2:(!(w == []))=false):oneC r x m=[]:=by
 subst hw
 unfold oneC
 rw[if_pos (by simpa using h),if_neg]
 rw[show(wordC r x m != [])=!(wordC r x m == [])from rfl,h2]
 decide
abbrev Jlb(x:List Xc):=List.map encXc x
abbrev Wn(l:List Mv):=List.map encMv l
abbrev Jlc(l:List Mv):=((Wn l).length:Int)
abbrev JpO(x:List Xc)(r:Ru)(g':Nat)(l:List Mv):=[(2,AV.sl 11 (Jlb x)),(3,AV.elt 18 [(encRu r)] 0 0),(7,AV.own 1 (List.map encCs (List.flatMap (oneC r x) (List.take g' l))).length),(12,AV.sl 5 (Wn l)),(13,AV.i (Jlc l)),(14,AV.i (g':Int))]
abbrev Jgq(r:Ru)(x:List Xc)(g:Nat)(l:List Mv):=List.map encCs (List.flatMap (oneC r x) (List.take g l))
abbrev JaJ(l:List Mv)(g:Nat):=l.getD (g:Int).toNat default
abbrev Jmi(g:Nat):=(g:Int)+1
abbrev Z70d(x:List Xc)(r:Ru)(g:Nat)(l:List Mv):=[(2,AV.sl 11 (Jlb x)),(3,AV.elt 18 [(encRu r)] 0 0),(7,AV.own 1 (Jgq r x g l).length),(12,AV.sl 5 (Wn l)),(13,AV.i (Jlc l)),(14,AV.i (Jmi g))]
abbrev JoM(x:List Xc)(l:List Mv)(g:Nat):=encXc (x.getD (fiI (pX x (JaJ l g).fl) x.length).toNat default)
abbrev JpN(r:Ru)(x:List Xc)(g':Nat)(l:List Mv):=[(1,ABlk.buf 69 3 (List.map encCs (List.flatMap (oneC r x) (List.take g' l))))]
abbrev Z70h(x:List Xc)(r:Ru)(g:Nat)(l:List Mv):=[(2,AV.sl 11 (Jlb x)),(3,AV.elt 18 [(encRu r)] 0 0),(7,AV.own 1 ((Jgq r x g l).length+1)),(12,AV.sl 5 (Wn l)),(13,AV.i (Jlc l)),(14,AV.i (Jmi g))]
theorem c33(r:Ru)(l:List Mv)(x:List Xc)(hO:Of r l x):P0 33 [.agg (encRu r),.sl 5 (l.map encMv),.sl 11 (x.map encXc)] (.fresh 69 3 ((caL r l x).map encCs)):=by
 have key :
  (∃ (g:Nat),g<=(Wn l).length/\AS.mk [(2,AV.sl 11 (Jlb x)),(3,AV.elt 18 [(encRu r)] 0 0),(7,AV.own 1 0),(12,AV.sl 5 (Wn l)),(13,AV.i (Jlc l)),(14,AV.i 0)] [(1,ABlk.buf 69 3 [])] 2=AS.mk [(2,AV.sl 11 (Jlb
  x)),(3,AV.elt 18 [(encRu r)] 0 0),(7,AV.own 1 (Jgq r x g l).length),(12,AV.sl 5 (Wn l)),(13,AV.i (Jlc l)),(14,AV.i (g:Int))] [(1,ABlk.buf 69 3 (Jgq r x g l))] 2)/\∀ (g:Nat),g<=(Wn l).length->(decide ((↑g
  : Int) < (Jlc l))=true->(0:Int)<=(g:Int)/\(g:Int) < (Jlc l)/\AV.agg (Ji (Wn l) (g:Int).toNat)=AV.agg (encMv (JaJ l g))/\P0 40 [AV.agg [AV.i r.c,AV.i r.d],AV.i (JaJ l g).mi] (AV.bool (wiR r.c r.d (JaJ
  l g).mi))/\((!wiR r.c r.d (JaJ l g).mi)=true->Jc (Jmi g)/\∃ (g':Nat),g'<=(Wn l).length/\(Wn l).length-g' < (Wn l).length-g/\AS.mk (Z70d x r g l) [(1,ABlk.buf 69 3 (Jgq r x g l))] 2=AS.mk (JpO x r g' l)
  (JpN r x g' l) 2)/\((!wiR r.c r.d (JaJ l g).mi)=false->P0 69 [AV.sl 11 (Jlb x),AV.fn (Fn.func 70) [] [AV.elt 5 [(encMv (JaJ l g))] 0 0]] (AV.i (fiI (pX x (JaJ l g).fl) x.length))/\(decide (fiI (pX x (JaJ l g).fl)
  x.length>=0)=true->(0:Int)<=fiI (pX x (JaJ l g).fl) x.length/\fiI (pX x (JaJ l g).fl) x.length < ((Jlb x).length:Int)/\AV.agg (Ji (Jlb x) (fiI (pX x (JaJ l g).fl) x.length).toNat)=AV.agg (JoM x l g)/\P0 71
  [AV.agg (encRu r),AV.agg (encMv (JaJ l g)),AV.agg (JoM x l g)] (AV.str (wordV r (decMv (encMv (JaJ l g))) (decXc (JoM x l g))))/\((!wordV r (decMv (encMv (JaJ l g))) (decXc (JoM x l g)) == [])=true->(Jgq r x g
  l).length+1<=9223372036854775807/\((Jgq r x g l).length+1) * 40<=140737488355328/\Jc (Jmi g)/\∃ (g':Nat),g'<=(Wn l).length/\(Wn l).length-g' < (Wn l).length-g/\AS.mk (Z70h x r g l) [(1,ABlk.buf 69 3
  (List.map encCs (List.flatMap (oneC r x) (List.take g l))++[[AV.str (JaJ l g).fl,AV.str (wordV r (decMv (encMv (JaJ l g))) (decXc (JoM x l g))),AV.i r.fi]]))] 2=AS.mk (JpO x r g' l) (JpN r x g' l) 2)/\((!wordV r (decMv
  (encMv (JaJ l g))) (decXc (JoM x l g)) == [])=false->Jc (Jmi g)/\∃ (g':Nat),g'<=(Wn l).length/\(Wn l).length-g' < (Wn l).length-g/\AS.mk (Z70d x r g l) [(1,ABlk.buf 69 3 (Jgq r x g l))] 2=AS.mk (JpO x
  r g' l) (JpN r x g' l) 2))/\(decide (fiI (pX x (JaJ l g).fl) x.length>=0)=false->(true=true->(Jgq r x g l).length+1<=9223372036854775807/\((Jgq r x g l).length+1) * 40<=140737488355328/\Jc (Jmi g)/\∃ (g' :
  Nat),g'<=(Wn l).length/\(Wn l).length-g' < (Wn l).length-g/\AS.mk (Z70h x r g l) [(1,ABlk.buf 69 3 (List.map encCs (List.flatMap (oneC r x) (List.take g l))++[[AV.str (JaJ l g).fl,AV.str [(110:UInt8),(111 :
  UInt8),(110:UInt8),(101:UInt8)],AV.i r.fi]]))] 2=AS.mk (JpO x r g' l) (JpN r x g' l) 2)/\(true=false->Jc (Jmi g)/\∃ (g':Nat),g'<=(Wn l).length/\(Wn l).length-g' < (Wn l).length-g/\AS.mk (Z70d x r
  g l) [(1,ABlk.buf 69 3 (Jgq r x g l))] 2=AS.mk (JpO x r g' l) (JpN r x g' l) 2))))/\(decide ((g:Int) < (Jlc l))=false->AV.fresh 69 3 (Jgq r x g l)=AV.fresh 69 3 (List.map encCs (caL r l x))):=by
   delta JpO Jgq JaJ Z70d Wn JoM JpN Z70h Jlc Jlb Jmi
   have hlm:(List.map encMv l).length=l.length:=Kb _
   have hxm:(List.map encXc x).length=x.length:=Kb _
   have hlk:=hO.S.k
   have h0:=(ex_ok hO.e).1
   have hcu:=ru_cur (mv_ok h0).1
   have:(List.map encMv l).length=l.length:=by simp only[Kb]
   have:(List.map encXc x).length=x.length:=by simp only[Kb]
   refine⟨⟨0,by omega,rfl⟩,fun g hg=>⟨fun hd=>?_,fun hd=>?_⟩⟩
   . have hlt:g < l.length:=by have h9:=Ky hd;have h8:=hg;(try simp only[Kb]at h8);(try simp only[Kb]at h9);omega
     try rw[show(g:Int).toNat=g from Km g]
     have hmv:=(mv_ok h0).2.1.2 _ (Js hlt)
     have hmi:=hmv.m
     have hfl:(List.map encCs (List.flatMap (oneC r x) (List.take g l))).length<=g:=by
      rw[Kb]
      have:=Jfe (oneC r x) (Jkf r x) (l.take g)
      rw[Kg]at this
      omega
     try rw[show(g:Int).toNat=g from Km g]
     refine⟨by omega,by omega,congrArg AV.agg (Jl encMv hlt),(c40w hcu.1 hcu.2.1 hcu.2.2 (by omega)),fun h1=>⟨by unfold Jc;omega,⟨g+1,by omega,by omega,?_⟩⟩,fun h1=>⟨(c69 x _ hO.n),fun h2=>?_,fun h2=>?_⟩⟩
     . first
        | (rw[JfN hlt (JhL h1)];rfl)
        | (rw[JfN hlt (JhM h1 hw h3)];rfl)
        | (exact absurd h3 (by decide))
     . have hi:=ix_t h2
       have hw:wordC r x (l.getD g default)=wordV r (l.getD g default) (x.getD (fiI (pX x (l.getD g default).fl) x.length).toNat default):=by rw[wordC_t hi.1,hi.2.1]
       have hym:x.getD (fiI (pX x (l.getD g default).fl) x.length).toNat default ∈ x:=Js (by omega)
       refine⟨by omega,by omega,congrArg AV.agg (Jl encXc (by omega)),(c71 r _ _ hO.S.s (day_in h0 (Js hlt)) hO.k (hO.b _ hym).1 (hO.b _ hym).2),fun h3=>⟨by omega,by omega,by unfold Jc;omega,⟨g+1,by omega,by omega,?_⟩⟩,fun h3=>⟨by unfold Jc;omega,⟨g+1,by omega,by omega,?_⟩⟩⟩
       . first
          | (rw[JeK hlt (JeX h1 hw h3),Kf];rfl)
          | (rw[JeK hlt (JeX h1 hw rfl),Kf];rfl)
       first
        | (rw[JfN hlt (JhL h1)];rfl)
        | (rw[JfN hlt (JhM h1 hw h3)];rfl)
        | (exact absurd h3 (by decide))
     have hw:wordC r x (l.getD g default)=WN:=wordC_f (ix_f h2)
     refine⟨fun h3=>⟨by omega,by omega,by unfold Jc;omega,⟨g+1,by omega,by omega,?_⟩⟩,fun h3=>⟨by unfold Jc;omega,⟨g+1,by omega,by omega,?_⟩⟩⟩
     . first
        | (rw[JeK hlt (JeX h1 hw h3),Kf];rfl)
        | (rw[JeK hlt (JeX h1 hw rfl),Kf];rfl)
     first
      | (rw[JfN hlt (JhL h1)];rfl)
      | (rw[JfN hlt (JhM h1 hw h3)];rfl)
      | (exact absurd h3 (by decide))
   have hge:g=l.length:=by have h9:=Kz hd;have h8:=hg;(try simp only[Kb]at h8);(try simp only[Kb]at h9);omega
   subst hge
   exact(by rw[Kw];rfl)
 exact Jw Tryz.f33 (fzB (mkB (sp119 r l x) 33 [(4,1,rdL 5 encMv l 5 true),(9,5,rdL 11 encXc x 11 true)] (la1 (la119 r l x)))) key (by kernel_rfl)
def ca6(r:Ru)(l:List Mv)(x:List Xc):List Cs:=if exR r l x == 0 then caL r l x else[]
theorem c13(r:Ru)(l:List Mv)(x:List Xc)(hS:Sh r l)(hk:KyOK r)(hn:x.length<=1000)(hb:∀ y,y ∈ x->y.fl.length<=400/\y.re.length<=400):P0 13 [.agg (encRu r),.sl 5 (l.map encMv),.sl 11 (x.map encXc)] (.tup [.sl 3 ((ca6 r l x).map encCs),.i (exR r l x)]):=by
 have key :
  P0 32 [AV.agg (encRu r),AV.sl 5 (List.map encMv l),AV.sl 11 (List.map encXc x)] (AV.i (exR r l x))/\((exR r l x != 0)=true->AV.tup [AV.sl 3 [],AV.i (exR r l x)]=AV.tup [AV.sl 3 (List.map encCs (ca6 r l x)),
  AV.i (exR r l x)])/\((exR r l x != 0)=false->P0 33 [AV.agg (encRu r),AV.sl 5 (List.map encMv l),AV.sl 11 (List.map encXc x)] (AV.fresh 69 3 (List.map encCs (caL r l x)))/\AV.tup [AV.sl 3 (List.map encCs (caL
  r l x)),AV.i 0]=AV.tup [AV.sl 3 (List.map encCs (ca6 r l x)),AV.i (exR r l x)]):=by
   refine⟨(c32r hS hn (fun y hy=>by have:=(hb y hy).2;omega)),fun h1=>?_,fun h1=>⟨(c33 r l x ⟨hS,hk,QE h1,hn,hb⟩),?_⟩⟩
   . rw[ca6,if_neg (by simpa using h1)];rfl
   rw[ca6,QE h1];rfl
 exact Jw Tryz.f13 (gsB (fun i=>if i.beq 4 then[.frzo 6]else if i.beq 3 then[.nil 6 3]else[]) (fzB (mkB (fun n z=>match n with | 32=>some (.i (exR r l x)) | 33=>some (.fresh 69 3 ((caL r l x).map encCs)) | _=>spS n z) 13 [] J1))) key (by kernel_rfl)
def smF{α:Type}[Inhabited α](f:α->Int)(n:Int)(l:List α):Nat->Int
 | 0=>n
 | i+1=>smF f n l i+f (l.getD i default)
def feB(r:Ru)(al:List UInt8)(m:Mv):Int:=if(m.al == al)=true then rFe r m else 0
def fiB(l:List Mv)(al:List UInt8)(c:Cs):Int:=if((JgB l c.fl).al == al)=true then c.f else 0
def fees(r:Ru)(l:List Mv)(al:List UInt8):Int:=smF (feB r al) 0 l l.length
def bill(r:Ru)(l:List Mv)(x:List Xc)(al:List UInt8):Int:=smF (fiB l al) (fees r l al) (caL r l x) (caL r l x).length
def eB6(r:Ru)(l:List Mv)(x:List Xc)(al:List UInt8):Int:=sFirst [exR r l x,sWhen (!sName al) 8]
def sp53(r:Ru)(l:List Mv)(x:List Xc):Nat->List AV->Option AV
 | 1039,[_,.agg c]=>some (.i (rFe r (decMv c)))
 | 1052,_=>some (.sl 3 ((caL r l x).map encCs))
 | 1109,[_,.str s]=>some (.i (fiI (pM l s) l.length))
 | n,z=>spS n z
def la53(r:Ru)(l:List Mv)(x:List Xc)(al:List UInt8)(b:Nat):Option LA :=
 if b.beq 0 then
  let K:List GS:=[.keep [1,2,3,4,9,10] [],.bound 1]
  some { pre:=K,post:=K
         Gh:=Nat
         st:=fun i=>⟨[(1,.sl 5 (l.map encMv)),(2,.sl 11 (x.map encXc)),(3,.str al),(4,.elt 18 [encRu r] 0 0),(9,.i (smF (feB r al) 0 l i)),(10,.i i)],[],1⟩
         ok:=fun i=>i<=l.length
         ms:=fun i=>l.length-i }
 else
  let K:List GS:=[.keep [1,3,9,11,12] [],.bound 1]
  some { pre:=K,post:=K
         Gh:=Nat
         st:=fun i=>⟨[(1,.sl 5 (l.map encMv)),(3,.str al),(9,.i (smF (fiB l al) (fees r l al) (caL r l x) i)),(11,.sl 3 ((caL r l x).map encCs)),(12,.i i)],[],1⟩
         ok:=fun i=>i<=(caL r l x).length
         ms:=fun i=>(caL r l x).length-i }
def b6(r:Ru)(l:List Mv)(x:List Xc)(al:List UInt8):Int:=if eB6 r l x al == 0 then bill r l x al else 0
def sp6(r:Ru)(l:List Mv)(x:List Xc)(al:List UInt8):Nat->List AV->Option AV
 | 1016,_=>some (.bool true)
 | 1017,_=>some (.bool (shR r))
 | 1046,_=>some (.bool (if shM l=true then shX x else false))
 | 1021,_=>some (.agg (encRu r))
 | 1032,[.sl _ rows]=>some (.sl 5 rows)
 | 1048,[.sl _ rows]=>some (.sl 11 rows)
 | 13,_=>some (.tup [.sl 3 ((ca6 r l x).map encCs),.i (exR r l x)])
 | 1049,_=>some (.tup [.i (b6 r l x al),.i (eB6 r l x al)])
 | 1050,_=>some (.i (exR r l x))
 | 1052,_=>some (.sl 3 ((caL r l x).map encCs))
 | 1053,_=>some (.i (bill r l x al))
 | 32,_=>some (.i (exR r l x))
 | 1055,_=>some (.bool true)
 | 51,_=>some (.i (eB6 r l x al))
 | n,z=>spS n z
end Go.Proofs.YthkngjifljcocaaGreatDoor.N7
namespace Go.Proofs.YthkngjifljcocaaGreatDoor
open Go Go.Av Go.RowKit
theorem cj_t(l:List Fx)(i:Nat):cJ (l.map Jg) i 0=(l.getD i default).t:=by
 unfold cJ Ji
 rw[Ka,Ka,Kk]
 cases l[i]? <;> rfl
theorem Jh7{α:Type}(enc:α->List AV)(l:List α):(((l.map enc).length:Int)-1).toNat=l.length-1:=by
 rw[Kb]
 omega
theorem Wy(l:List Fx):cJ (l.map Jg) 0 0=Jp l:=cj_t l 0
theorem Jol(l:List Fx):cJ (l.map Jg) (((l.map Jg).length:Int)-1).toNat 0=Qf l:=by
 rw[Jh7,cj_t]
 rfl
def JnP(l:LA):Nat->Option LA:=fun i=>if i.beq 0 then some l else none
def laE8(ts:List Ty):LA:={
 pre:=[.own 3 9 1,.reno 3 1,.keep [3,6,7,8] [1],.bound 2],post:=[.reno 3 1,.keep [3,6,7,8] [1],.bound 2]
 Gh:=Nat
 st:=fun i=>⟨[(3,.own 1 (((ts.take i).map Ty.name).map N7.encS).length),(6,.sl 13 (ts.map Jd)),(7,.i (ts.map Jd).length),(8,.i i)],[(1,.buf 9 1 (((ts.take i).map Ty.name).map N7.encS))],2⟩
 ok:=fun i=>i<=(ts.map Jd).length
 ms:=fun i=>(ts.map Jd).length-i }
abbrev JoL(g:Nat)(ts:List Ty):=List.map N7.encS (List.map Ty.name (List.take g ts))
abbrev JgL(ts:List Ty):=List.map Jd ts
abbrev Jmh(ts:List Ty):=((JgL ts).length:Int)
theorem c8(ts:List Ty)(hl:ts.length<=1000):P0 8 [.sl 13 (ts.map Jd)] (.fresh 9 1 ((ts.map Ty.name).map N7.encS)):=by
 have key :
  (∃ (g:Nat),g<=(JgL ts).length/\AS.mk [(3,AV.own 1 0),(6,AV.sl 13 (JgL ts)),(7,AV.i (Jmh ts)),(8,AV.i 0)] [(1,ABlk.buf 9 1 [])] 2=AS.mk [(3,AV.own 1 (JoL g ts).length),(6,AV.sl 13 (JgL ts)),(7,AV.i (Jmh
  ts)),(8,AV.i (g:Int))] [(1,ABlk.buf 9 1 (JoL g ts))] 2)/\∀ (g:Nat),g<=(JgL ts).length->(decide ((g:Int) < (Jmh ts))=true->(0:Int)<=(g:Int)/\(g:Int) < (Jmh ts)/\AV.agg (Ji (JgL ts) (↑g :
  Int).toNat)=AV.agg (Jd (ts.getD (g:Int).toNat default))/\(JoL g ts).length+1<=9223372036854775807/\((JoL g ts).length+1) * 16<=140737488355328/\Jc ((g:Int)+1)/\∃ (g':Nat),g'<=(JgL ts).length/\(JgL
  ts).length-g' < (JgL ts).length-g/\AS.mk [(3,AV.own 1 ((JoL g ts).length+1)),(6,AV.sl 13 (JgL ts)),(7,AV.i (Jmh ts)),(8,AV.i ((g:Int)+1))] [(1,ABlk.buf 9 1 (List.map N7.encS (List.map Ty.name (List.take g
  ts))++[[AV.str (ts.getD (g:Int).toNat default).name]]))] 2=AS.mk [(3,AV.own 1 (List.map N7.encS (List.map Ty.name (List.take g' ts))).length),(6,AV.sl 13 (JgL ts)),(7,AV.i (Jmh ts)),(8,AV.i (g':Int))] [(1,
  ABlk.buf 9 1 (List.map N7.encS (List.map Ty.name (List.take g' ts))))] 2)/\(decide ((g:Int) < (Jmh ts))=false->AV.fresh 9 1 (JoL g ts)=AV.fresh 9 1 (List.map N7.encS (List.map Ty.name ts))):=by
   delta JoL Jmh JgL
   have:(List.map Jd ts).length=ts.length:=by simp only[Kb]
   refine⟨⟨0,by omega,rfl⟩,fun g hg=>⟨fun hd=>?_,fun hd=>?_⟩⟩
   . have hlt:g < ts.length:=by have h9:=Ky hd;have h8:=hg;(try simp only[Kb]at h8);(try simp only[Kb]at h9);omega
     have:(List.map N7.encS (List.map Ty.name (List.take g ts))).length=g:=by simp only[Kb,Kg];omega
     have hk:(List.map N7.encS (List.map Ty.name (List.take g ts))).length=g:=by simp only[Kb,Kg];omega
     try rw[show(g:Int).toNat=g from Km g]
     refine⟨by omega,by omega,congrArg AV.agg (Jl Jd hlt),by omega,by omega,by unfold Jc;omega,⟨g+1,by omega,by omega,?_⟩⟩
     first | (rw[<- Jx _ _ hlt,Kf];rfl) | (rw[<- QG _ hlt,Kf];rfl)
   have hge:g=ts.length:=by have h9:=Kz hd;have h8:=hg;(try simp only[Kb]at h8);(try simp only[Kb]at h9);omega
   subst hge
   exact(by rw[Kw])
 exact Jw Tryz.f8 (fzB (mkB spR 8 [(4,1,rdL 13 Jd ts 13 true)] (JnP (laE8 ts)))) key (by kernel_rfl)
def airS:List UInt8:=[97,105,114]
def mvE(f:Fl):N7.Mv:=⟨f.n,airS,f.y,1+(Jp f.tr).tdiv 1440,(Jp f.tr).tmod 1440⟩
def laE10(fs:List Fl):LA:={
 pre:=[.own 3 79 5,.reno 3 1,.keep [3,7,8,9] [1],.bound 2],post:=[.reno 3 1,.keep [3,7,8,9] [1],.bound 2]
 Gh:=Nat
 st:=fun i=>⟨[(3,.own 1 (((fs.take i).map mvE).map N7.encMv).length),(7,.sl 3 (fs.map Je)),(8,.i (fs.map Je).length),(9,.i i)],[(1,.buf 79 5 (((fs.take i).map mvE).map N7.encMv))],2⟩
 ok:=fun i=>i<=(fs.map Je).length
 ms:=fun i=>(fs.map Je).length-i }
abbrev Z72e(fs:List Fl)(g:Nat):=fs.getD (g:Int).toNat default
abbrev Jmg(fs:List Fl)(g:Nat):=List.map Jg (Z72e fs g).tr
abbrev JoK(g:Nat)(fs:List Fl):=List.map N7.encMv (List.map mvE (List.take g fs))
abbrev JgK(fs:List Fl):=List.map Je fs
abbrev Jmf(fs:List Fl):=((JgK fs).length:Int)
theorem c10(fs:List Fl)(hl:fs.length<=1000)(ht:∀ f,f ∈ fs->1<=f.tr.length/\0<=Jp f.tr/\Jp f.tr<=1000000000):P0 10 [.sl 3 (fs.map Je)] (.fresh 79 5 ((fs.map mvE).map N7.encMv)):=by
 have key :
  (∃ (g:Nat),g<=(JgK fs).length/\AS.mk [(3,AV.own 1 0),(7,AV.sl 3 (JgK fs)),(8,AV.i (Jmf fs)),(9,AV.i 0)] [(1,ABlk.buf 79 5 [])] 2=AS.mk [(3,AV.own 1 (JoK g fs).length),(7,AV.sl 3 (JgK fs)),(8,AV.i (Jmf
  fs)),(9,AV.i (g:Int))] [(1,ABlk.buf 79 5 (JoK g fs))] 2)/\∀ (g:Nat),g<=(JgK fs).length->(decide ((g:Int) < (Jmf fs))=true->(0:Int)<=(g:Int)/\(g:Int) < (Jmf fs)/\AV.agg (Ji (JgK fs) (↑g :
  Int).toNat)=AV.agg (Je (Z72e fs g))/\(0:Int)<=0/\(0:Int) < ((Jmg fs g).length:Int)/\nth (Ji (Jmg fs g) 0) 0=AV.i (cJ (Jmg fs g) 0 0)/\¬(1440:Int)=(0:Int)/\Jc ((cJ (Jmg fs g) 0 0).tdiv 1440)/\Jc
  ((1:Int)+(cJ (Jmg fs g) 0 0).tdiv 1440)/\¬(1440:Int)=(0:Int)/\(JoK g fs).length+1<=9223372036854775807/\((JoK g fs).length+1) * 64<=140737488355328/\Jc ((g:Int)+1)/\∃ (g':Nat),g'<=(JgK fs).length
  /\ (JgK fs).length-g' < (JgK fs).length-g/\AS.mk [(3,AV.own 1 ((JoK g fs).length+1)),(7,AV.sl 3 (JgK fs)),(8,AV.i (Jmf fs)),(9,AV.i ((g:Int)+1))] [(1,ABlk.buf 79 5 (List.map N7.encMv (List.map mvE (List.take
  g fs))++[[AV.str (Z72e fs g).n,AV.str [(97:UInt8),(105:UInt8),(114:UInt8)],AV.str (Z72e fs g).y,AV.i ((1:Int)+(cJ (Jmg fs g) 0 0).tdiv 1440),AV.i ((cJ (Jmg fs g) 0 0).tmod (1440:Int))]]))] 2=AS.mk [(3,
  AV.own 1 (List.map N7.encMv (List.map mvE (List.take g' fs))).length),(7,AV.sl 3 (JgK fs)),(8,AV.i (Jmf fs)),(9,AV.i (g':Int))] [(1,ABlk.buf 79 5 (List.map N7.encMv (List.map mvE (List.take g' fs))))] 2)/\(decide ((↑g
  : Int) < (Jmf fs))=false->AV.fresh 79 5 (JoK g fs)=AV.fresh 79 5 (List.map N7.encMv (List.map mvE fs))):=by
   delta Jmg JoK Jmf JgK Z72e
   have:(List.map Je fs).length=fs.length:=by simp only[Kb]
   refine⟨⟨0,by omega,rfl⟩,fun g hg=>⟨fun hd=>?_,fun hd=>?_⟩⟩
   . have hlt:g < fs.length:=by have h9:=Ky hd;have h8:=hg;(try simp only[Kb]at h8);(try simp only[Kb]at h9);omega
     have:(List.map N7.encMv (List.map mvE (List.take g fs))).length=g:=by simp only[Kb,Kg];omega
     have hk:(List.map N7.encMv (List.map mvE (List.take g fs))).length=g:=by simp only[Kb,Kg];omega
     have hf:=ht _ (Js hlt)
     have hlm:(List.map Jg (fs.getD g default).tr).length=(fs.getD g default).tr.length:=Kb _
     have ed:(Jp (fs.getD g default).tr).tdiv 1440=Jp (fs.getD g default).tr / 1440:=Int.tdiv_eq_ediv_of_nonneg hf.2.1
     rw[show(g:Int).toNat=g from Km g,Wy]
     try rw[show(g:Int).toNat=g from Km g]
     refine⟨by omega,by omega,congrArg AV.agg (Jl Je hlt),by omega,by omega,(congrArg (fun r=>nth r 0) (Jl Jg (show 0 < (fs.getD g default).tr.length by omega))),by decide,by unfold Jc;omega,by unfold Jc;omega,by decide,by omega,by omega,by unfold Jc;omega,⟨g+1,by omega,by omega,?_⟩⟩
     first | (rw[<- Jx _ _ hlt,Kf];rfl) | (rw[<- QG _ hlt,Kf];rfl)
   have hge:g=fs.length:=by have h9:=Kz hd;have h8:=hg;(try simp only[Kb]at h8);(try simp only[Kb]at h9);omega
   subst hge
   exact(by rw[Kw])
 exact Jw Tryz.f10 (fzB (mkB spR 10 [(4,1,rdL 3 Je fs 3 true),(5,4,rdC)] (JnP (laE10 fs)))) key (by kernel_rfl)
def laE36(l:List Fx):LA:={
 pre:=[.own 3 159 5,.reno 3 1,.keep [3,6,7,8] [1],.bound 2],post:=[.reno 3 1,.keep [3,6,7,8] [1],.bound 2]
 Gh:=Nat
 st:=fun i=>⟨[(3,.own 1 ((l.take i).map Jg).length),(6,.sl 5 (l.map Jg)),(7,.i (l.map Jg).length),(8,.i i)],[(1,.buf 159 5 ((l.take i).map Jg))],2⟩
 ok:=fun i=>i<=(l.map Jg).length
 ms:=fun i=>(l.map Jg).length-i }
abbrev Jgp(l:List Fx):=List.map Jg l
abbrev Jme(l:List Fx):=((Jgp l).length:Int)
abbrev JoJ(g:Nat)(l:List Fx):=List.map Jg (List.take g l)
theorem c36(l:List Fx)(hl:l.length<=1000):P0 36 [.sl 5 (l.map Jg)] (.fresh 159 5 (l.map Jg)):=by
 have key :
  (∃ (g:Nat),g<=(Jgp l).length/\AS.mk [(3,AV.own 1 0),(6,AV.sl 5 (Jgp l)),(7,AV.i (Jme l)),(8,AV.i 0)] [(1,ABlk.buf 159 5 [])] 2=AS.mk [(3,AV.own 1 (JoJ g l).length),(6,AV.sl 5 (Jgp l)),(7,AV.i (Jme l)),(8,
  AV.i (g:Int))] [(1,ABlk.buf 159 5 (JoJ g l))] 2)/\∀ (g:Nat),g<=(Jgp l).length->(decide ((g:Int) < (Jme l))=true->(0:Int)<=(g:Int)/\(g:Int) < (Jme l)/\AV.agg (Ji (Jgp l) (g:Int).toNat)=AV.agg
  (Jg (l.getD (g:Int).toNat default))/\(JoJ g l).length+1<=9223372036854775807/\((JoJ g l).length+1) * 40<=140737488355328/\Jc ((g:Int)+1)/\∃ (g':Nat),g'<=(Jgp l).length/\(Jgp l).length-g' < (Jgp
  l).length-g/\AS.mk [(3,AV.own 1 ((JoJ g l).length+1)),(6,AV.sl 5 (Jgp l)),(7,AV.i (Jme l)),(8,AV.i ((g:Int)+1))] [(1,ABlk.buf 159 5 (List.map Jg (List.take g l)++[(Jg (l.getD (g:Int).toNat
  default))]))] 2=AS.mk [(3,AV.own 1 (List.map Jg (List.take g' l)).length),(6,AV.sl 5 (Jgp l)),(7,AV.i (Jme l)),(8,AV.i (g':Int))] [(1,ABlk.buf 159 5 (List.map Jg (List.take g' l)))] 2)/\(decide ((g:Int) <
  (Jme l))=false->AV.fresh 159 5 (JoJ g l)=AV.fresh 159 5 (Jgp l)):=by
   delta Jme Jgp JoJ
   have:(List.map Jg l).length=l.length:=by simp only[Kb]
   refine⟨⟨0,by omega,rfl⟩,fun g hg=>⟨fun hd=>?_,fun hd=>?_⟩⟩
   . have hlt:g < l.length:=by have h9:=Ky hd;have h8:=hg;(try simp only[Kb]at h8);(try simp only[Kb]at h9);omega
     have:(List.map Jg (List.take g l)).length=g:=by simp only[Kb,Kg];omega
     have hk:(List.map Jg (List.take g l)).length=g:=by simp only[Kb,Kg];omega
     try rw[show(g:Int).toNat=g from Km g]
     refine⟨by omega,by omega,congrArg AV.agg (Jl Jg hlt),by omega,by omega,by unfold Jc;omega,⟨g+1,by omega,by omega,?_⟩⟩
     first | (rw[<- Jx _ _ hlt,Kf];rfl) | (rw[<- QG _ hlt,Kf];rfl)
   have hge:g=l.length:=by have h9:=Kz hd;have h8:=hg;(try simp only[Kb]at h8);(try simp only[Kb]at h9);omega
   subst hge
   exact(by rw[Kw])
 exact Jw Tryz.f36 (fzB (mkB spR 36 [(4,1,rdL 5 Jg l 5 true)] (JnP (laE36 l)))) key (by kernel_rfl)
def laE16(fs:List Fl):LA:={
 pre:=[.own 3 114 3,.reno 3 1,.keep [3,6,7,8] [1],.bound 2],post:=[.reno 3 1,.keep [3,6,7,8] [1],.bound 2]
 Gh:=Nat
 st:=fun i=>⟨[(3,.own 1 ((fs.take i).map Je).length),(6,.sl 3 (fs.map Je)),(7,.i (fs.map Je).length),(8,.i i)],[(1,.buf 114 3 ((fs.take i).map Je))],2⟩
 ok:=fun i=>i<=(fs.map Je).length
 ms:=fun i=>(fs.map Je).length-i }
def spTE:Nat->List AV->Option AV
 | 36,[.sl _ rows]=>some (.sl 5 rows)
 | n,w=>spR n w
theorem c16(fs:List Fl)(hl:fs.length<=1000)(ht:∀ f,f ∈ fs->f.tr.length<=1000):P0 16 [.sl 3 (fs.map Je)] (.fresh 114 3 (fs.map Je)):=by
 have key :
  (∃ (g:Nat),g<=(List.map Je fs).length/\AS.mk [(3,AV.own 1 0),(6,AV.sl 3 (List.map Je fs)),(7,AV.i ((List.map Je fs).length:Int)),(8,AV.i 0)] [(1,ABlk.buf 114 3 [])] 2=AS.mk [(3,AV.own 1 (List.map Je
  (List.take g fs)).length),(6,AV.sl 3 (List.map Je fs)),(7,AV.i ((List.map Je fs).length:Int)),(8,AV.i (g:Int))] [(1,ABlk.buf 114 3 (List.map Je (List.take g fs)))] 2)/\∀ (g:Nat),g<=(List.map Je
  fs).length->(decide ((g:Int) < ((List.map Je fs).length:Int))=true->(0:Int)<=(g:Int)/\(g:Int) < ((List.map Je fs).length:Int)/\AV.agg (Ji (List.map Je fs) (g:Int).toNat)=AV.agg (Je
  (fs.getD (g:Int).toNat default))/\(List.map Je (List.take g fs)).length+1<=9223372036854775807/\((List.map Je (List.take g fs)).length+1) * 56<=140737488355328/\P0 36 [AV.sl 5 (List.map Jg
  (fs.getD (g:Int).toNat default).tr)] (AV.sl 5 (List.map Jg (fs.getD (g:Int).toNat default).tr))/\Jc ((g:Int)+1)/\∃ (g':Nat),g'<=(List.map Je fs).length/\(List.map Je fs).length-g' < (List.map Je
  fs).length-g/\AS.mk [(3,AV.own 1 ((List.map Je (List.take g fs)).length+1)),(6,AV.sl 3 (List.map Je fs)),(7,AV.i ((List.map Je fs).length:Int)),(8,AV.i ((g:Int)+1))] [(1,ABlk.buf 114 3 (List.map Je
  (List.take g fs)++[(Je (fs.getD (g:Int).toNat default))]))] 2=AS.mk [(3,AV.own 1 (List.map Je (List.take g' fs)).length),(6,AV.sl 3 (List.map Je fs)),(7,AV.i ((List.map Je fs).length:Int)),(8,AV.i (↑g'
  : Int))] [(1,ABlk.buf 114 3 (List.map Je (List.take g' fs)))] 2)/\(decide ((g:Int) < ((List.map Je fs).length:Int))=false->AV.fresh 114 3 (List.map Je (List.take g fs))=AV.fresh 114 3 (List.map Je fs)) :=
  by
   have:(List.map Je fs).length=fs.length:=by simp only[Kb]
   refine⟨⟨0,by omega,rfl⟩,fun g hg=>⟨fun hd=>?_,fun hd=>?_⟩⟩
   . have hlt:g < fs.length:=by have h9:=Ky hd;have h8:=hg;(try simp only[Kb]at h8);(try simp only[Kb]at h9);omega
     have:(List.map Je (List.take g fs)).length=g:=by simp only[Kb,Kg];omega
     have hk:(List.map Je (List.take g fs)).length=g:=by simp only[Kb,Kg];omega
     have hf:=ht _ (Js hlt)
     try rw[show(g:Int).toNat=g from Km g]
     refine⟨by omega,by omega,congrArg AV.agg (Jl Je hlt),by omega,by omega,((c36 _ (by omega)).un),by unfold Jc;omega,⟨g+1,by omega,by omega,?_⟩⟩
     first | (rw[<- Jx _ _ hlt,Kf];rfl) | (rw[<- QG _ hlt,Kf];rfl)
   have hge:g=fs.length:=by have h9:=Kz hd;have h8:=hg;(try simp only[Kb]at h8);(try simp only[Kb]at h9);omega
   subst hge
   exact(by rw[Kw])
 exact Jw Tryz.f16 (fzB (mkB spTE 16 [(4,1,rdL 3 Je fs 3 true)] (JnP (laE16 fs)))) key (by kernel_rfl)
def cSl(rows:List (List AV))(i j:Nat):List (List AV):=match nth (Ji rows i) j with
 | .sl _ r=>r
 | _=>[]
def rdSt:List AV->Option AV
 | [.elt _ rows i _]=>some (.agg [.i (cJ rows i 0),.sl 1 (cSl rows i 1)])
 | _=>none
theorem cj_sg{l:List Sg}{i:Nat}(h:i < l.length):cJ (l.map Jv) i 0=(l.getD i default).p:=by
 unfold cJ
 rw[Jl Jv h]
 rfl
theorem csl_sg{l:List Sg}{i:Nat}(h:i < l.length):cSl (l.map Jv) i 1=(l.getD i default).e.map Jh:=by
 unfold cSl
 rw[Jl Jv h]
 rfl
def tyK(t:Ty)(k:Nat):List AV:=[.str t.name,.sl 1 (t.sh.map Jh),.i t.d0,.i t.d1,.i t.d2,.i t.d3,.i t.d4,.i t.d5,.i t.d6,.i t.d7,.i t.side,.sl 1 (t.sq.map Jh),.own 3 ((t.st.take k).map Jv).length]
def laE15(ts:List Ty)(b:Nat):Option LA :=
 if b.beq 0 then some {
  pre:=[.own 3 85 13,.reno 3 1,.keep [3,9,10,11] [1],.bound 2],post:=[.reno 3 1,.keep [3,9,10,11] [1],.bound 2]
  Gh:=Nat
  st:=fun i=>⟨[(3,.own 1 ((ts.take i).map Jd).length),(9,.sl 13 (ts.map Jd)),(10,.i (ts.map Jd).length),(11,.i i)],[(1,.buf 85 13 ((ts.take i).map Jd))],2⟩
  ok:=fun i=>i<=(ts.map Jd).length
  ms:=fun i=>(ts.map Jd).length-i }
 else if b.beq 2 then some {
  pre:=[.reno 3 1,.reno 6 2,.ownb 2 12 82 2,.renc 2 12 3,.keep [3,6,9,10,11,31,32,33] [1,2,3],.bound 4],post:=[.reno 3 1,.reno 6 2,.renc 2 12 3,.keep [3,6,9,10,11,31,32,33] [1,2,3],.bound 4]
  Gh:=Nat × Nat
  st:=fun q=>⟨[(3,.own 1 ((ts.take q.1).map Jd).length),(6,.ptr 2 0),(9,.sl 13 (ts.map Jd)),(10,.i (ts.map Jd).length),(11,.i q.1),(31,.sl 2 ((ts.getD q.1 default).st.map Jv)),(32,.i ((ts.getD q.1 default).st.map Jv).length),(33,.i q.2)],[(1,.buf 85 13 ((ts.take q.1).map Jd)),(2,.box (tyK (ts.getD q.1 default) q.2)),(3,.buf 82 2 (((ts.getD q.1 default).st.take q.2).map Jv))],4⟩
  ok:=fun q=>q.1 < ts.length/\q.2<=((ts.getD q.1 default).st.map Jv).length
  rel:=some fun q0 q=>q.1=q0.1
  ms:=fun q=>((ts.getD q.1 default).st.map Jv).length-q.2 }
 else none
abbrev UC(ts:List Ty)(g_1:Nat × Nat):=ts.getD g_1.fst default
abbrev Jbd(ts:List Ty)(g:Nat):=ts.getD (g:Int).toNat default
abbrev Jde(ts:List Ty):=List.map Jd ts
abbrev JgJ(ts:List Ty):=((Jde ts).length:Int)
abbrev Jey(ts:List Ty)(g_1:Nat × Nat):=List.map Jv (UC ts g_1).st
abbrev Jce(ts:List Ty)(g':Nat × Nat):=ts.getD g'.fst default
abbrev Jck(ts:List Ty)(g0:Nat × Nat):=ts.getD g0.fst default
abbrev Z74h(g_1:Nat × Nat)(ts:List Ty):=List.map Jv (List.take g_1.snd (UC ts g_1).st)
abbrev Jfx(g_1:Nat × Nat):=(↑g_1.snd:Int)
abbrev JpM(g_1:Nat × Nat)(ts:List Ty):=List.map Jd (List.take g_1.fst ts)
abbrev JpL(g:Nat)(ts:List Ty):=List.map Jd (List.take g ts)
theorem c15(ts:List Ty)(hl:ts.length<=1000)(hS:∀ t,t ∈ ts->ShortTy t):P0 15 [.sl 13 (ts.map Jd)] (.fresh 85 13 (ts.map Jd)):=by
 have key :
  (∃ (g:Nat),g<=(Jde ts).length/\AS.mk [(3,AV.own 1 0),(9,AV.sl 13 (Jde ts)),(10,AV.i (JgJ ts)),(11,AV.i 0)] [(1,ABlk.buf 85 13 [])] 2=AS.mk [(3,AV.own 1 (JpL g ts).length),(9,AV.sl 13 (Jde ts)),(10,AV.i
  (JgJ ts)),(11,AV.i (g:Int))] [(1,ABlk.buf 85 13 (JpL g ts))] 2)/\∀ (g:Nat),g<=(Jde ts).length->(decide ((g:Int) < (JgJ ts))=true->(0:Int)<=(g:Int)/\(g:Int) < (JgJ ts)/\AV.agg (Ji (Jde ts) (↑g :
  Int).toNat)=AV.agg (Jd (Jbd ts g))/\0+(List.map Jh (Jbd ts g).sh).length<=9223372036854775807/\(0+(List.map Jh (Jbd ts g).sh).length) * 8<=140737488355328/\0+(List.map Jh (Jbd ts g).sq).length ≤
  9223372036854775807/\(0+(List.map Jh (Jbd ts g).sq).length) * 8<=140737488355328/\∃ (g0:Nat × Nat),(g0.fst < ts.length/\g0.snd<=(List.map Jv (Jck ts g0).st).length)/\g0.fst=g0.fst/\AS.mk [(3,AV.own 1 (JpL g
  ts).length),(6,AV.ptr 2 0),(9,AV.sl 13 (Jde ts)),(10,AV.i (JgJ ts)),(11,AV.i (g:Int)),(31,AV.sl 2 (List.map Jv (Jbd ts g).st)),(32,AV.i (↑(List.map Jv (Jbd ts g).st).length:Int)),(33,AV.i 0)] [(1,
  ABlk.buf 85 13 (JpL g ts)),(2,ABlk.box [AV.str (Jbd ts g).name,AV.sl 1 ([]++List.map Jh (Jbd ts g).sh),AV.i (Jbd ts g).d0,AV.i (Jbd ts g).d1,AV.i (Jbd ts g).d2,AV.i (Jbd ts g).d3,AV.i (Jbd ts g).d4,AV.i (Jbd
  ts g).d5,AV.i (Jbd ts g).d6,AV.i (Jbd ts g).d7,AV.i (Jbd ts g).side,AV.sl 1 ([]++List.map Jh (Jbd ts g).sq),AV.own 3 0]),(3,ABlk.buf 82 2 [])] 4=AS.mk [(3,AV.own 1 (List.map Jd (List.take g0.fst ts)).length),
  (6,AV.ptr 2 0),(9,AV.sl 13 (Jde ts)),(10,AV.i (JgJ ts)),(11,AV.i (↑g0.fst:Int)),(31,AV.sl 2 (List.map Jv (Jck ts g0).st)),(32,AV.i (↑(List.map Jv (Jck ts g0).st).length:Int)),(33,AV.i (↑g0.snd:Int))]
  [(1,ABlk.buf 85 13 (List.map Jd (List.take g0.fst ts))),(2,ABlk.box [AV.str (Jck ts g0).name,AV.sl 1 (List.map Jh (Jck ts g0).sh),AV.i (Jck ts g0).d0,AV.i (Jck ts g0).d1,AV.i (Jck ts g0).d2,AV.i (Jck ts g0).d3,
  AV.i (Jck ts g0).d4,AV.i (Jck ts g0).d5,AV.i (Jck ts g0).d6,AV.i (Jck ts g0).d7,AV.i (Jck ts g0).side,AV.sl 1 (List.map Jh (Jck ts g0).sq),AV.own 3 (List.map Jv (List.take g0.snd (Jck ts g0).st)).length]),(3,
  ABlk.buf 82 2 (List.map Jv (List.take g0.snd (Jck ts g0).st)))] 4/\∀ (g_1:Nat × Nat),g_1.fst < ts.length/\g_1.snd<=(Jey ts g_1).length->g_1.fst=g0.fst->(decide ((Jfx g_1) < ((Jey ts g_1).length:Int))=true->(0
  : Int)<=(Jfx g_1)/\(Jfx g_1) < ((Jey ts g_1).length:Int)/\AV.agg (Ji (Jey ts g_1) (Jfx g_1).toNat)=AV.agg [AV.i (cJ (Jey ts g_1) (Jfx g_1).toNat 0),AV.sl 1 (cSl (Jey ts g_1) (Jfx g_1).toNat 1)]/\0+(cSl (Jey
  ts g_1) (Jfx g_1).toNat 1).length<=9223372036854775807/\(0+(cSl (Jey ts g_1) (Jfx g_1).toNat 1).length) * 8<=140737488355328/\(Z74h g_1 ts).length+1<=9223372036854775807/\((Z74h g_1 ts).length+1) * 32 ≤
  140737488355328/\Jc ((Jfx g_1)+1)/\∃ (g':Nat × Nat),(g'.fst < ts.length/\g'.snd<=(List.map Jv (Jce ts g').st).length)/\g'.fst=g0.fst/\(List.map Jv (Jce ts g').st).length-g'.snd < (Jey ts g_1).length -
  g_1.snd/\AS.mk [(3,AV.own 1 (JpM g_1 ts).length),(6,AV.ptr 2 0),(9,AV.sl 13 (Jde ts)),(10,AV.i (JgJ ts)),(11,AV.i (↑g_1.fst:Int)),(31,AV.sl 2 (Jey ts g_1)),(32,AV.i ((Jey ts g_1).length:Int)),(33,AV.i
  ((Jfx g_1)+1))] [(1,ABlk.buf 85 13 (JpM g_1 ts)),(2,ABlk.box [AV.str (UC ts g_1).name,AV.sl 1 (List.map Jh (UC ts g_1).sh),AV.i (UC ts g_1).d0,AV.i (UC ts g_1).d1,AV.i (UC ts g_1).d2,AV.i (UC ts g_1).d3,
  AV.i (UC ts g_1).d4,AV.i (UC ts g_1).d5,AV.i (UC ts g_1).d6,AV.i (UC ts g_1).d7,AV.i (UC ts g_1).side,AV.sl 1 (List.map Jh (UC ts g_1).sq),AV.own 3 ((Z74h g_1 ts).length+1)]),(3,ABlk.buf 82 2 (List.map Jv
  (List.take g_1.snd (UC ts g_1).st)++[[AV.i (cJ (Jey ts g_1) (Jfx g_1).toNat 0),AV.sl 1 ([]++cSl (Jey ts g_1) (Jfx g_1).toNat 1)]]))] 4=AS.mk [(3,AV.own 1 (List.map Jd (List.take g'.fst ts)).length),(6,AV.ptr 2
  0),(9,AV.sl 13 (Jde ts)),(10,AV.i (JgJ ts)),(11,AV.i (↑g'.fst:Int)),(31,AV.sl 2 (List.map Jv (Jce ts g').st)),(32,AV.i (↑(List.map Jv (Jce ts g').st).length:Int)),(33,AV.i (↑g'.snd:Int))] [(1,ABlk.buf
  85 13 (List.map Jd (List.take g'.fst ts))),(2,ABlk.box [AV.str (Jce ts g').name,AV.sl 1 (List.map Jh (Jce ts g').sh),AV.i (Jce ts g').d0,AV.i (Jce ts g').d1,AV.i (Jce ts g').d2,AV.i (Jce ts g').d3,AV.i (Jce ts
  g').d4,AV.i (Jce ts g').d5,AV.i (Jce ts g').d6,AV.i (Jce ts g').d7,AV.i (Jce ts g').side,AV.sl 1 (List.map Jh (Jce ts g').sq),AV.own 3 (List.map Jv (List.take g'.snd (Jce ts g').st)).length]),(3,ABlk.buf 82 2
  (List.map Jv (List.take g'.snd (Jce ts g').st)))] 4)/\(decide ((Jfx g_1) < ((Jey ts g_1).length:Int))=false->(JpM g_1 ts).length+1<=9223372036854775807/\((JpM g_1 ts).length+1) * 160<=140737488355328/\Jc
  ((↑g_1.fst:Int)+1)/\∃ (g':Nat),g'<=(Jde ts).length/\(Jde ts).length-g' < (Jde ts).length-g/\AS.mk [(3,AV.own 1 ((JpM g_1 ts).length+1)),(9,AV.sl 13 (Jde ts)),(10,AV.i (JgJ ts)),(11,AV.i ((↑g_1.fst :
  Int)+1))] [(1,ABlk.buf 85 13 (List.map Jd (List.take g_1.fst ts)++[[AV.str (UC ts g_1).name,AV.sl 1 (List.map Jh (UC ts g_1).sh),AV.i (UC ts g_1).d0,AV.i (UC ts g_1).d1,AV.i (UC ts g_1).d2,AV.i (UC ts
  g_1).d3,AV.i (UC ts g_1).d4,AV.i (UC ts g_1).d5,AV.i (UC ts g_1).d6,AV.i (UC ts g_1).d7,AV.i (UC ts g_1).side,AV.sl 1 (List.map Jh (UC ts g_1).sq),AV.sl 2 (Z74h g_1 ts)]]))] 2=AS.mk [(3,AV.own 1 (List.map
  Jd (List.take g' ts)).length),(9,AV.sl 13 (Jde ts)),(10,AV.i (JgJ ts)),(11,AV.i (g':Int))] [(1,ABlk.buf 85 13 (List.map Jd (List.take g' ts)))] 2))/\(decide ((g:Int) < (JgJ ts))=false->AV.fresh 85 13 (JpL
  g ts)=AV.fresh 85 13 (Jde ts)):=by
   delta UC Jbd JgJ Jey Jce Jck Jde Z74h Jfx JpM JpL
   have hlm:(List.map Jd ts).length=ts.length:=Kb _
   refine⟨⟨0,Nat.zero_le _,rfl⟩,fun g hg=>⟨fun hd=>?_,fun hd=>?_⟩⟩
   . have hlt:g < ts.length:=by
      have:=Ky hd
      omega
     have hs:=hS _ (Js hlt)
     have s1:=hs.s
     have s2:=hs.q
     rw[Km]
     have l1:(List.map Jh (ts.getD g default).sh).length=(ts.getD g default).sh.length:=Kb _
     have l2:(List.map Jh (ts.getD g default).sq).length=(ts.getD g default).sq.length:=Kb _
     have k1:(List.map Jd (List.take g ts)).length=g:=by
      simp only[Kb,Kg]
      omega
     refine⟨by omega,by omega,congrArg AV.agg (Jl Jd hlt),by omega,by omega,by omega,by omega,(g,0),⟨hlt,Nat.zero_le _⟩,rfl,rfl,fun q hq hr=>?_⟩
     obtain⟨i,j⟩:=q
     dsimp only at hq hr ⊢
     have e:i=g:=hr
     subst e
     have s3:=hs.st
     have lst:(List.map Jv (ts.getD i default).st).length=(ts.getD i default).st.length:=Kb _
     refine⟨fun hd2=>?_,fun hd2=>?_⟩
     . have hj:j < (ts.getD i default).st.length:=by
        have:=Ky hd2
        omega
       have he:=hs.e _ (Js hj)
       rw[Km,cj_sg hj,csl_sg hj]
       have le:(List.map Jh ((ts.getD i default).st.getD j default).e).length=((ts.getD i default).st.getD j default).e.length:=Kb _
       have k2:(List.map Jv (List.take j (ts.getD i default).st)).length=j:=by
        simp only[Kb,Kg]
        omega
       refine⟨by omega,by omega,congrArg AV.agg (Jl Jv hj),by omega,by omega,by omega,by omega,by unfold Jc;omega,(i,j+1),⟨hlt,by show j+1<=(List.map Jv (ts.getD i default).st).length;omega⟩,rfl,by show(List.map Jv (ts.getD i default).st).length-(j+1) < (List.map Jv (ts.getD i default).st).length-j;omega,?_⟩
       show _=AS.mk _ _ 4
       rw[<- QG Jv hj,Kf]
       rfl
     have hj:(ts.getD i default).st.length<=j:=by
      have:=Kz hd2
      omega
     refine⟨by omega,by omega,by unfold Jc;omega,i+1,by omega,by omega,?_⟩
     rw[Ku hj,<- QG Jd hlt,Kf]
     rfl
   rw[Ku (by have:=Kz hd;omega)]
 exact Jw Tryz.f15 ({ Jjn 9 10 (fun a=>{ a with fz:=false }) (fzB (mkB spR 15 [(4,1,rdL 13 Jd ts 13 true),(8,1,rdSt)] (laE15 ts)))with bx:=fun i=>if i.beq 2 then[.frzc 2 12]else[] }) key (by kernel_rfl)
def stormS:List UInt8:=[115,116,111,114,109]
def tpE:Nat->List (List UInt8)->List N7.Tp
 | _,[]=>[]
 | k,s::l=>⟨s,1+3 * (k:Int),10⟩::tpE (k+1) l
theorem UF:∀ (l:List (List UInt8)) (k:Nat),(tpE k l).length=l.length
 | [],_=>rfl
 | _::l,k=>congrArg (·+1) (UF l (k+1))
theorem JeH:∀ (l:List (List UInt8)) (k i:Nat),i < l.length->(tpE k l).getD i default=⟨l.getD i default,1+3 * ((k+i:Nat):Int),10⟩
 | [],_,_,h=>absurd h (K6 _)
 | _::_,_,0,_=>rfl
 | s::l,k,i+1,h=>by
  have:=JeH l (k+1) i (Nat.lt_of_succ_lt_succ h)
  rw[show k+1+i=k+(i+1) by omega]at this
  exact this
def eF(n0:Int):Int:=n0.tmod 1440
def eL(n1:Int):Int:=1+n1.tmod 1439
def eA(n1 n2:Int):Int:=n2.tmod (eL n1)
def eC(n1 n2 n3:Int):Int:=1+n3.tmod (eL n1-eA n1 n2)
def eR(ns:List (List UInt8))(n0 n1 n2 n3 q:Int):N7.Ru:=⟨eF n0,(eF n0+eL n1).tmod 1440,(eF n0+eA n1 n2).tmod 1440,(eF n0+eA n1 n2+eC n1 n2 n3).tmod 1440,tpE 0 ns,q,[stormS],3,70,2,0,0,0,0,0,0,0,0⟩
theorem Jpw{x m:Int}(hx:0<=x)(hm:0 < m):0<=x.tmod m/\x.tmod m < m:=by
 rw[Int.tmod_eq_emod_of_nonneg hx]
 exact⟨Int.emod_nonneg _ (by omega),Int.emod_lt_of_pos _ hm⟩
structure EB(n0 n1 n2 n3:Int):Prop where
 f:0<=eF n0/\eF n0 < 1440
 l:1<=eL n1/\eL n1<=1439
 a:0<=eA n1 n2/\eA n1 n2 < eL n1
 c:1<=eC n1 n2 n3/\eC n1 n2 n3<=eL n1-eA n1 n2
theorem eb{n0 n1 n2 n3:Int}(h0:0<=n0)(h1:0<=n1)(h2:0<=n2)(h3:0<=n3):EB n0 n1 n2 n3:=by
 have k0:=Jpw (m:=1440) h0 (by decide)
 have k1:=Jpw (m:=1439) h1 (by decide)
 have l1:1<=eL n1/\eL n1<=1439:=by
  unfold eL
  omega
 have k2:=Jpw (m:=eL n1) h2 (by omega)
 have a1:0<=eA n1 n2/\eA n1 n2 < eL n1:=k2
 have k3:=Jpw (m:=eL n1-eA n1 n2) h3 (by omega)
 exact⟨k0,l1,a1,by unfold eC;omega⟩
def zeroRu:List AV:=[.i 0,.i 0,.i 0,.i 0,.ex (.slice none 0 0),.i 0,.ex (.slice none 0 0),.i 0,.i 0,.i 0,.int .u8 0,.int .u8 0,.int .u8 0,.int .u8 0,.int .u8 0,.int .u8 0,.int .u8 0,.int .u8 0]
def ruK(a b c d q:Int)(X:AV):List AV:=[.i a,.i b,.i c,.i d,X,.i q,.sl 1 [[.str stormS]],.i 3,.i 70,.i 2,.int .u8 0,.int .u8 0,.int .u8 0,.int .u8 0,.int .u8 0,.int .u8 0,.int .u8 0,.int .u8 0]
def Jh3(n:Int):List AV->Option AV:=fun _=>some (.i n)
def laE7(ns:List (List UInt8))(a b c d q:Int):LA:={
 pre:=[.reno 11 1,.reno 6 2,.ownb 1 4 77 3,.renc 1 4 3,.keep [6,11,56,57,58] [1,2,3],.bound 4],post:=[.reno 11 1,.reno 6 2,.renc 1 4 3,.keep [6,11,56,57,58] [1,2,3],.bound 4]
 Gh:=Nat
 st:=fun i=>⟨[(6,.ptr 2 0),(11,.ptr 1 0),(56,.sl 1 (ns.map N7.encS)),(57,.i (ns.map N7.encS).length),(58,.i i)],[(1,.box (ruK a b c d q (.own 3 (((tpE 0 ns).take i).map N7.encTp).length))),(2,.box zeroRu),(3,.buf 77 3 (((tpE 0 ns).take i).map N7.encTp))],4⟩
 ok:=fun i=>i<=(ns.map N7.encS).length
 ms:=fun i=>(ns.map N7.encS).length-i }
def rd7(ns:List (List UInt8))(n0 n1 n2 n3:Int):List (Nat × Nat × (List AV->Option AV)):=[(1,2,Jh3 n0),(2,2,Jh3 n1),(3,2,Jh3 n2),(4,2,Jh3 n3),(1,3,Jh3 (eF n0)),(2,4,Jh3 (eL n1)),(3,4,Jh3 (eA n1 n2)),(4,7,Jh3 (eC n1 n2 n3)),
 (5,4,Jh3 ((eF n0+eL n1).tmod 1440)),(5,9,Jh3 ((eF n0+eA n1 n2).tmod 1440)),(5,15,Jh3 ((eF n0+eA n1 n2+eC n1 n2 n3).tmod 1440)),(8,2,rdL 1 N7.encS ns 1 false)]
abbrev Z75a:=[AV.i 0,AV.i 0,AV.i 0,AV.i 0,AV.ex (Value.slice none 0 0),AV.i 0,AV.ex (Value.slice none 0 0),AV.i 0,AV.i 0,AV.i 0,AV.int IntKind.u8 (0:Int),AV.int IntKind.u8 (0:Int),AV.int IntKind.u8 (0:Int),AV.int IntKind.u8 (0:Int),AV.int IntKind.u8 (0:Int),AV.int IntKind.u8 (0:Int),AV.int IntKind.u8 (0:Int),AV.int IntKind.u8 (0:Int)]
abbrev JoI:=[[AV.str [(115:UInt8),(116:UInt8),(111:UInt8),(114:UInt8),(109:UInt8)]]]
abbrev Jla(n0:Int)(n1:Int)(n2:Int)(n3:Int):=(eF n0+eA n1 n2+eC n1 n2 n3).tmod (1440:Int)
abbrev JgI(ns:List (List UInt8)):=List.map N7.encS ns
abbrev Jk9(n0:Int)(n1:Int):=(eF n0+eL n1).tmod (1440:Int)
abbrev JoH(g:Nat)(ns:List (List UInt8)):=List.map N7.encTp (List.take g (tpE 0 ns))
abbrev Jk8(n0:Int)(n1:Int)(n2:Int):=(eF n0+eA n1 n2).tmod (1440:Int)
abbrev Jmd(ns:List (List UInt8)):=((JgI ns).length:Int)
theorem c7(ns:List (List UInt8))(n0 n1 n2 n3 q:Int)(hl:ns.length<=1000)(h0:0<=n0/\n0<=65535)(h1:0<=n1/\n1<=65535)(h2:0<=n2/\n2<=65535)(h3:0<=n3/\n3<=65535):P0 7 [.sl 1 (ns.map N7.encS),.agg [.int .u16 n0,.int .u16 n1,.int .u16 n2,.int .u16 n3],.i q] (.agg (N7.encRu (eR ns n0 n1 n2 n3 q))):=by
 have key :
  (0:Int)<=0/\(0:Int) < (4:Int)/\¬(1440:Int)=(0:Int)/\AV.i (IntKind.i64.wrap n0)=AV.i n0/\AV.i (n0.tmod (1440:Int))=AV.i (eF n0)/\(0:Int)<=1/\(1:Int) < (4:Int)/\¬(1439:Int)=(0:Int)/\Jc ((1
  : Int)+n1.tmod (1439:Int))/\AV.i (IntKind.i64.wrap n1)=AV.i n1/\AV.i ((1:Int)+n1.tmod (1439:Int))=AV.i (eL n1)/\(0:Int)<=2/\(2:Int) < (4:Int)/\¬eL n1=(0:Int)/\AV.i (IntKind.i64.wrap n2)=AV.i n2 /\
  AV.i (n2.tmod (eL n1))=AV.i (eA n1 n2)/\(0:Int)<=3/\(3:Int) < (4:Int)/\Jc (eL n1-eA n1 n2)/\¬eL n1-eA n1 n2=(0:Int)/\Jc ((1:Int)+n3.tmod (eL n1-eA n1 n2))/\AV.i (IntKind.i64.wrap n3)=AV.i n3 /\
  AV.i ((1:Int)+n3.tmod (eL n1-eA n1 n2))=AV.i (eC n1 n2 n3)/\Jc (eF n0+eL n1)/\¬(1440:Int)=(0:Int)/\Jc (eF n0+eA n1 n2)/\¬(1440:Int)=(0:Int)/\Jc (eF n0+eA n1 n2)/\Jc (eF n0+eA n1 n2+eC n1
  n2 n3)/\¬(1440:Int)=(0:Int)/\AV.i (Jk9 n0 n1)=AV.i (Jk9 n0 n1)/\AV.i (Jk8 n0 n1 n2)=AV.i (Jk8 n0 n1 n2)/\AV.i (Jla n0 n1 n2 n3)=AV.i (Jla n0 n1 n2 n3)/\(∃ (g:Nat),g<=(JgI ns).length/\AS.mk [(6,AV.ptr 2
  0),(11,AV.ptr 1 0),(56,AV.sl 1 (JgI ns)),(57,AV.i (Jmd ns)),(58,AV.i 0)] [(1,ABlk.box [AV.i (eF n0),AV.i (Jk9 n0 n1),AV.i (Jk8 n0 n1 n2),AV.i (Jla n0 n1 n2 n3),AV.own 3 0,AV.i q,AV.sl 1 JoI,AV.i 3,AV.i 70,
  AV.i 2,AV.int IntKind.u8 (0:Int),AV.int IntKind.u8 (0:Int),AV.int IntKind.u8 (0:Int),AV.int IntKind.u8 (0:Int),AV.int IntKind.u8 (0:Int),AV.int IntKind.u8 (0:Int),AV.int IntKind.u8 (0:Int),AV.int IntKind.u8 (0
  : Int)]),(2,ABlk.box Z75a),(3,ABlk.buf 77 3 [])] 4=AS.mk [(6,AV.ptr 2 0),(11,AV.ptr 1 0),(56,AV.sl 1 (JgI ns)),(57,AV.i (Jmd ns)),(58,AV.i (g:Int))] [(1,ABlk.box [AV.i (eF n0),AV.i (Jk9 n0 n1),AV.i (Jk8 n0
  n1 n2),AV.i (Jla n0 n1 n2 n3),AV.own 3 (JoH g ns).length,AV.i q,AV.sl 1 JoI,AV.i 3,AV.i 70,AV.i 2,AV.int IntKind.u8 (0:Int),AV.int IntKind.u8 (0:Int),AV.int IntKind.u8 (0:Int),AV.int IntKind.u8 (0:Int),AV.int
  IntKind.u8 (0:Int),AV.int IntKind.u8 (0:Int),AV.int IntKind.u8 (0:Int),AV.int IntKind.u8 (0:Int)]),(2,ABlk.box Z75a),(3,ABlk.buf 77 3 (JoH g ns))] 4)/\∀ (g:Nat),g<=(JgI ns).length->(decide ((g:Int) < (Jmd
  ns))=true->(0:Int)<=(g:Int)/\(g:Int) < (Jmd ns)/\nth (Ji (JgI ns) (g:Int).toNat) 0=AV.str (ns.getD (g:Int).toNat [])/\Jc ((3:Int) * (g:Int))/\Jc ((1:Int)+3 * (g:Int))/\(JoH g ns).length
  + 1<=9223372036854775807/\((JoH g ns).length+1) * 32<=140737488355328/\Jc ((g:Int)+1)/\∃ (g':Nat),g'<=(JgI ns).length/\(JgI ns).length-g' < (JgI ns).length-g/\AS.mk [(6,AV.ptr 2 0),(11,AV.ptr 1 0),
  (56,AV.sl 1 (JgI ns)),(57,AV.i (Jmd ns)),(58,AV.i ((g:Int)+1))] [(1,ABlk.box [AV.i (eF n0),AV.i (Jk9 n0 n1),AV.i (Jk8 n0 n1 n2),AV.i (Jla n0 n1 n2 n3),AV.own 3 ((JoH g ns).length+1),AV.i q,AV.sl 1 JoI,
  AV.i 3,AV.i 70,AV.i 2,AV.int IntKind.u8 (0:Int),AV.int IntKind.u8 (0:Int),AV.int IntKind.u8 (0:Int),AV.int IntKind.u8 (0:Int),AV.int IntKind.u8 (0:Int),AV.int IntKind.u8 (0:Int),AV.int IntKind.u8 (0:Int),
  AV.int IntKind.u8 (0:Int)]),(2,ABlk.box Z75a),(3,ABlk.buf 77 3 (List.map N7.encTp (List.take g (tpE 0 ns))++[[AV.str (ns.getD (g:Int).toNat []),AV.i ((1:Int)+3 * (g:Int)),AV.i 10]]))] 4=AS.mk [(6,AV.ptr 2 0),
  (11,AV.ptr 1 0),(56,AV.sl 1 (JgI ns)),(57,AV.i (Jmd ns)),(58,AV.i (g':Int))] [(1,ABlk.box [AV.i (eF n0),AV.i (Jk9 n0 n1),AV.i (Jk8 n0 n1 n2),AV.i (Jla n0 n1 n2 n3),AV.own 3 (List.map N7.encTp (List.take g' (tpE
  0 ns))).length,AV.i q,AV.sl 1 JoI,AV.i 3,AV.i 70,AV.i 2,AV.int IntKind.u8 (0:Int),AV.int IntKind.u8 (0:Int),AV.int IntKind.u8 (0:Int),AV.int IntKind.u8 (0:Int),AV.int IntKind.u8 (0:Int),AV.int IntKind.u8 (0 :
  Int),AV.int IntKind.u8 (0:Int),AV.int IntKind.u8 (0:Int)]),(2,ABlk.box Z75a),(3,ABlk.buf 77 3 (List.map N7.encTp (List.take g' (tpE 0 ns))))] 4)/\(decide ((g:Int) < (Jmd ns))=false->AV.agg [AV.i (eF n0),AV.i
  (Jk9 n0 n1),AV.i (Jk8 n0 n1 n2),AV.i (Jla n0 n1 n2 n3),AV.sl 3 (JoH g ns),AV.i q,AV.sl 1 JoI,AV.i 3,AV.i 70,AV.i 2,AV.int IntKind.u8 (0:Int),AV.int IntKind.u8 (0:Int),AV.int IntKind.u8 (0:Int),AV.int
  IntKind.u8 (0:Int),AV.int IntKind.u8 (0:Int),AV.int IntKind.u8 (0:Int),AV.int IntKind.u8 (0:Int),AV.int IntKind.u8 (0:Int)]=AV.agg [AV.i (eF n0),AV.i (Jk9 n0 n1),AV.i (Jk8 n0 n1 n2),AV.i (Jla n0 n1 n2 n3),
  AV.sl 3 (List.map N7.encTp (tpE 0 ns)),AV.i q,AV.sl 1 JoI,AV.i 3,AV.i 70,AV.i 2,AV.int IntKind.u8 (0:Int),AV.int IntKind.u8 (0:Int),AV.int IntKind.u8 (0:Int),AV.int IntKind.u8 (0:Int),AV.int IntKind.u8 (0:Int),
  AV.int IntKind.u8 (0:Int),AV.int IntKind.u8 (0:Int),AV.int IntKind.u8 (0:Int)]):=by
   delta Z75a JoI Jla JgI Jk9 JoH Jk8 Jmd
   have hB:=eb h0.1 h1.1 h2.1 h3.1 (n0:=n0) (n1:=n1) (n2:=n2) (n3:=n3)
   obtain⟨⟨f1,f2⟩,⟨l1,l2⟩,⟨a1,a2⟩,⟨c1',c2'⟩⟩:=hB
   have hlm:(List.map N7.encS ns).length=ns.length:=Kb _
   have w:∀ {q:Int},0<=q/\q<=65535->AV.i (IntKind.i64.wrap q)=AV.i q:=fun h=>congrArg AV.i (Qs (by unfold Jc;omega))
   have k1:=Jpw (m:=1439) h1.1 (by decide)
   have k3:=Jpw (m:=eL n1-eA n1 n2) h3.1 (by omega)
   refine⟨by omega,by decide,by decide,w h0,rfl,by decide,by decide,by decide,by unfold Jc;omega,w h1,rfl,by decide,by decide,by omega,w h2,rfl,by decide,by decide,by unfold Jc;omega,by omega,by unfold Jc;omega,w h3,rfl,by unfold Jc;omega,by decide,by unfold Jc;omega,by decide,by unfold Jc;omega,by unfold Jc;omega,by decide,rfl,rfl,rfl,⟨0,Nat.zero_le _,rfl⟩,fun g hg=>⟨fun hd=>?_,fun hd=>?_⟩⟩
   . have hlt:g < ns.length:=by
      have:=Ky hd
      omega
     have hlt2:g < (tpE 0 ns).length:=by rw[UF];exact hlt
     have k:(List.map N7.encTp (List.take g (tpE 0 ns))).length=g:=by
      rw[Kb,Kg,UF]
      omega
     rw[Km]
     refine⟨by omega,by omega,congrArg (fun r=>nth r 0) (Jl N7.encS hlt),by unfold Jc;omega,by unfold Jc;omega,by omega,by omega,by unfold Jc;omega,g+1,by omega,by omega,?_⟩
     have ht:=JeH ns 0 g hlt
     rw[Nat.zero_add]at ht
     show _=AS.mk _ _ 4
     rw[<- QG N7.encTp hlt2,Kf,ht]
     rfl
   rw[Ku (by have:=Kz hd;rw[UF];omega)]
 exact Jw Tryz.f7 ({ Jjn 9 8 (fun a=>{ a with fz:=false }) (mkB spR 7 (rd7 ns n0 n1 n2 n3) (JnP (laE7 ns (eF n0) ((eF n0+eL n1).tmod 1440) ((eF n0+eA n1 n2).tmod 1440) ((eF n0+eA n1 n2+eC n1 n2 n3).tmod 1440) q)))with bx:=fun i=>if i.beq 0 then[.frzc 1 4]else[] }) key (by kernel_rfl)
def sp6(ts:List Ty)(n0 n1 n2 n3:Int):Nat->List AV->Option AV
 | 8,_=>some (.sl 1 ((ts.map Ty.name).map N7.encS))
 | 7,_=>some (.agg (N7.encRu (eR (ts.map Ty.name) n0 n1 n2 n3 100)))
 | n,w=>spR n w
abbrev Z76a(n0:Int)(n1:Int)(n2:Int)(n3:Int)(ts:List Ty):=[AV.i (eF n0),AV.i ((eF n0+eL n1).tmod (1440:Int)),AV.i ((eF n0+eA n1 n2).tmod (1440:Int)),AV.i ((eF n0+eA n1 n2+eC n1 n2 n3).tmod (1440:Int)),AV.sl 3 (List.map N7.encTp (tpE 0 (List.map Ty.name ts))),AV.i 100,AV.sl 1 [[AV.str [(115:UInt8),(116:UInt8),(111:UInt8),(114:UInt8),(109:UInt8)]]],AV.i 3,AV.i 70,AV.i 2,AV.int IntKind.u8 (0:Int),AV.int IntKind.u8 (0:Int),AV.int IntKind.u8 (0:Int),AV.int IntKind.u8 (0:Int),AV.int IntKind.u8 (0:Int),AV.int IntKind.u8 (0:Int),AV.int IntKind.u8 (0:Int),AV.int IntKind.u8 (0:Int)]
theorem c6(ts:List Ty)(fs:List Fl)(x y z n0 n1 n2 n3:Int)(hl:ts.length<=1000)(h0:0<=n0/\n0<=65535)(h1:0<=n1/\n1<=65535)(h2:0<=n2/\n2<=65535)(h3:0<=n3/\n3<=65535):P0 6 [.elt 5 [[.sl 13 (ts.map Jd),.sl 3 (fs.map Je),.i x,.i y,.i z]] 0 0,.elt 4 [[.int .u16 n0,.int .u16 n1,.int .u16 n2,.int .u16 n3]] 0 0] (.agg (N7.encRu (eR (ts.map Ty.name) n0 n1 n2 n3 100))):=by
 have key :
  P0 8 [AV.sl 13 (List.map Jd ts)] (AV.sl 1 (List.map N7.encS (List.map Ty.name ts)))/\P0 7 [AV.sl 1 (List.map N7.encS (List.map Ty.name ts)),AV.agg [AV.int IntKind.u16 n0,AV.int IntKind.u16 n1,AV.int IntKind.u16 n2,AV.int
  IntKind.u16 n3],AV.i 100] (AV.agg (Z76a n0 n1 n2 n3 ts))/\AV.agg (Z76a n0 n1 n2 n3 ts)=AV.agg (Z76a n0 n1 n2 n3 ts):=by
   delta Z76a
   have hm:(ts.map Ty.name).length=ts.length:=Kb _
   exact⟨(c8 ts hl).un,c7 _ n0 n1 n2 n3 100 (by omega) h0 h1 h2 h3,rfl⟩
 exact Jw Tryz.f6 (mkB (sp6 ts n0 n1 n2 n3) 6 [] J1) key (by kernel_rfl)
def jetS:List UInt8:=[106,101,116]
def rS0:N7.Ru:=⟨1380,360,30,300,[⟨jetS,1,0⟩],5,[],0,0,1,0,0,0,0,0,0,0,0⟩
def mS0:N7.Mv:=⟨[102],airS,jetS,1,1400⟩
def tS0:Ty:=⟨jetS,[1000],1000,1000,1000,1000,1000,1000,1000,1000,1000,[0],[⟨10,[1000]⟩]⟩
def sp4:Nat->List AV->Option AV
 | 11,_=>some (.tup [.i 4,.i 0])
 | 20,_=>some (.tup [.i 1000,.i 0])
 | n,w=>spR n w
abbrev JoG:=true=true->true=true
abbrev Z77b:=[(106:UInt8),(101:UInt8),(116:UInt8)]
theorem c4  :P0 4 [] (.bool true):=by
 have key :
  P0 11 [AV.agg [AV.i 1380,AV.i 360,AV.i 30,AV.i 300,AV.sl 3 [[AV.str Z77b,AV.i 1,AV.i 0]],AV.i 5,AV.sl 1 [],AV.i 0,AV.i 0,AV.i 1,AV.int IntKind.u8 (0:Int),AV.int IntKind.u8 (0:Int),AV.int IntKind.u8 (0:Int),
  AV.int IntKind.u8 (0:Int),AV.int IntKind.u8 (0:Int),AV.int IntKind.u8 (0:Int),AV.int IntKind.u8 (0:Int),AV.int IntKind.u8 (0:Int)],AV.sl 5 [[AV.str [(102:UInt8)],AV.str [(97:UInt8),(105:UInt8),(114 :
  UInt8)],AV.str Z77b,AV.i 1,AV.i 1400]]] (AV.tup [AV.i 4,AV.i 0])/\P0 20 [AV.agg [AV.str Z77b,AV.sl 1 [[AV.i 1000]],AV.i 1000,AV.i 1000,AV.i 1000,AV.i 1000,AV.i 1000,AV.i 1000,AV.i 1000,AV.i 1000,AV.i 1000,AV.sl 1
  [[AV.i 0]],AV.sl 2 [[AV.i 10,AV.sl 1 [[AV.i 1000]]]]],AV.i 10,AV.i 12345] (AV.tup [AV.i 1000,AV.i 0])/\JoG/\JoG/\JoG/\JoG/\JoG/\JoG/\AV.bool true=AV.bool true:=by
   delta JoG Z77b
   have hS:N7.Sh rS0 [mS0]:=⟨by decide,by decide,by decide,by decide,by decide,by decide⟩
   have k11:=N7.c11v hS (by decide +kernel)
   have k20:=c20t (t:=tS0) ⟨by decide,by decide,by decide,by decide,by decide⟩ 10 12345
   exact⟨k11,k20,fun h=>h,fun h=>h,fun h=>h,fun h=>h,fun h=>h,fun h=>h,rfl⟩
 exact Jw Tryz.f4 ({ mkB sp4 4 [] J1 with gs:=fun i=>if i.beq 1 then[.reno 1 1,.nilb 1 6 1,.frzo 1]else if i.beq 3 then[.frzo 4]else[] }) key (by kernel_rfl)
theorem Jhc{l:List Fx}(h:TrackOK l)(i:Nat):∀ j,i<=j->j < l.length->(l.getD i default).t<=(l.getD j default).t
 | 0,h1,_=>by rw[show i=0 by omega];exact Int.le_refl _
 | j+1,h1,h2=>by
  by_cases e:i=j+1
  . rw[e];exact Int.le_refl _
  have:=Jhc h i j (by omega) (by omega)
  have:=h.up j h2
  omega
theorem JjN{l:List Fx}(h:Qd l=0):TrackOK l/\Qf l-Jp l<=1000:=by
 rw[Jbl]at h
 exact JeG h
theorem t_lt{l:List Fx}(h:TrackOK l){i j:Nat}(h1:i < j)(h2:j < l.length):(l.getD i default).t < (l.getD j default).t:=by
 have a:=h.up i (by omega)
 have b:=Jhc h (i+1) j (by omega) h2
 omega
theorem JjS{ts:List Ty}{fs:List Fl}(h:sSF ts fs=true):ts.length<=9/\fs.length<=17/\(∀ t,t ∈ ts->ShortTy t)/\∀ f,f ∈ fs->f.n.length<=1000/\f.y.length<=1000/\f.tr.length<=1000:=by
 unfold sSF at h
 simp only[Kd]at h
 obtain⟨h1,h2,h3⟩:=h
 have hsz:ts.length<=9/\fs.length<=17:=by
  unfold szOK at h3
  by_cases a:(ts.length:Int)<=4 <;> by_cases b:(ts.length:Int)=9 <;> by_cases c:(fs.length:Int)<=4 <;> by_cases d:(fs.length:Int)=17 <;> simp[a,b,c,d]at h3 <;> omega
 refine⟨hsz.1,hsz.2,fun t ht=>?_,fun f hf=>?_⟩
 . obtain⟨i,hi,e⟩:=List.mem_iff_getElem.1 ht
   have:=List.all_eq_true.1 h1 i (List.mem_range.2 hi)
   rw[Ka,Kj hi,e]at this
   exact JjR this
 obtain⟨i,hi,e⟩:=List.mem_iff_getElem.1 hf
 have h:=List.all_eq_true.1 h2 i (List.mem_range.2 hi)
 rw[Ka,Kj hi,e]at h
 have h:Jhr f=true:=h
 unfold Jhr at h
 by_cases a:f.tr.length<=17
 . by_cases b:(f.n.length:Int) > 40
   . simp[a,b]at h
   by_cases c:(f.y.length:Int) > 40
   . simp[a,b,c]at h
   omega
 simp[a]at h
theorem JeI(l:List Int)(i:Nat)(h:i < l.length):(l.take (i+1)).sum=(l.take i).sum+l.getD i default:=by
 rw[List.take_add_one,List.sum_append,Kj h,Ka,Kj h]
 show _+(l[i]+0)=_+l[i]
 rw[Int.add_zero]
def bdE(l:List Int):Prop:=∀ x,x ∈ l->0<=x/\x<=100000000000000
theorem JmX{l:List Int}(h:bdE l):∀ i,i<=l.length->0<=(l.take i).sum/\(l.take i).sum<=100000000000000 * i
 | 0,_=>by simp
 | i+1,hi=>by
  have ih:=JmX h i (by omega)
  have hx:=h (l.getD i default) (Js (by omega))
  rw[JeI l i (by omega),Int.natCast_add,Int.mul_add]
  omega
theorem Jbq{l:List Int}(h:bdE l)(hl:l.length<=1000):∀ i,i<=l.length->sumW l i=(l.take i).sum
 | 0,_=>by simp[sumW]
 | i+1,hi=>by
  have ih:=Jbq h hl i (by omega)
  have hb:=JmX h (i+1) hi
  show IntKind.i64.wrap (sumW l i+l.getD i default)=_
  rw[ih,<- JeI l i (by omega)]
  have:(100000000000000:Int) * ((i+1:Nat):Int)<=100000000000000 * 1000:=by omega
  exact Qs (by unfold Jc;omega)
theorem Jj0{l:List Int}(h:bdE l)(hl:l.length<=1000):JaE l=l.sum:=by
 unfold JaE
 rw[Jbq h hl _ (Kr _),Kw]
theorem Jl2{ts:List Ty}{f:Fl}(h:FlOK ts f)(x y z:Int):0<=JaB ts x y z f/\JaB ts x y z f<=100000000000000:=by
 have hn:=h.o.n1
 have hs:=h.s
 have hm:=Jhc h.o 0 (f.tr.length-1) (Nat.zero_le _) (by omega)
 have e1:Qf f.tr=(f.tr.getD (f.tr.length-1) default).t:=rfl
 have e2:Jp f.tr=(f.tr.getD 0 default).t:=rfl
 have hb:=Jhg (f:=JcS (tyF ts f) f.tr x y z) (a:=Jp f.tr) (n:=(Qf f.tr-Jp f.tr).toNat) (fun i hi=>by
  have ha:=at_ok (tk:=Jp f.tr+i) h.o (by omega) (by omega)
  exact hrd_b h.t ha.p) _ (Kr _)
 unfold JaB JpB
 have:(((Qf f.tr-Jp f.tr).toNat:Nat):Int)<=1000:=by omega
 omega
theorem Jos{ts:List Ty}{fs:List Fl}(h:∀ f,f ∈ fs->FlOK ts f)(x y z:Int):bdE (fs.map (JaB ts x y z)):=fun n hn=>by
 obtain⟨f,hf,rfl⟩:=List.mem_map.1 hn
 exact Jl2 (h f hf) x y z
structure FlW(ts:List Ty)(f:Fl):Prop where
 nm:sName f.n=true
 kn:VN (knT ts) (.str f.y)=true
 tr:Qd f.tr=0
theorem Jow(fs:List Fl)(s:List UInt8):VN (knF fs) (.str s)=fs.any fun f=>f.n == s:=QQ Fl.n s fs
theorem fFl_z{ts:List Ty}{fs:List Fl}{i:Nat}:fFl ts fs i=0 ↔ FlW ts (fs.getD i default)/\((fs.take i).any fun f=>f.n == (fs.getD i default).n)=false:=by
 unfold fFl
 rw[first_zero,first_zero,first_zero,first_zero,when_zero (by decide),when_zero (by decide),when_zero (by decide),Jow]
 constructor
 . intro h
   exact⟨⟨by simpa using h.1,by simpa using h.2.2.1,h.2.2.2.1⟩,h.2.1⟩
 intro h
 exact⟨by simpa using h.1.nm,h.2,by simpa using h.1.kn,h.1.tr,rfl⟩
theorem Xy(fs:List Fl):(∀ i,i < fs.length->((fs.take i).any fun f=>f.n == (fs.getD i default).n)=false) ↔ (fs.map Fl.n).Nodup:=by
 unfold List.Nodup
 rw[List.pairwise_iff_getElem]
 constructor
 . intro h i j hi hj hij
   rw[Kb]at hi hj
   have h2:=h j hj
   rw[List.any_eq_false]at h2
   have h3:=h2 fs[i] (List.mem_take_iff_getElem.2 ⟨i,by omega,rfl⟩)
   rw[Ka,Kj hj]at h3
   rw[List.getElem_map,List.getElem_map]
   intro e
   apply h3
   rw[beq_iff_eq]
   exact e
 intro h j hj
 rw[List.any_eq_false]
 intro f hf
 obtain⟨i,hi,rfl⟩:=List.mem_take_iff_getElem.1 hf
 have h2:=h i j (by rw[Kb];omega) (by rw[Kb];omega) (by omega)
 rw[List.getElem_map,List.getElem_map]at h2
 rw[Ka,Kj hj,beq_iff_eq]
 exact h2
structure FsW(ts:List Ty)(fs:List Fl):Prop where
 n:fs.length<=16
 f:∀ f,f ∈ fs->FlW ts f
 u:(fs.map Fl.n).Nodup
theorem getD_in{α:Type}[Inhabited α]{l:List α}{P:α->Prop}:(∀ x,x ∈ l->P x) ↔ ∀ i,i < l.length->P (l.getD i default):=by
 constructor
 . intro h i hi
   exact h _ (Js hi)
 intro h x hx
 obtain⟨i,hi,rfl⟩:=List.getElem_of_mem hx
 have:=h i hi
 rwa [Ka,Kj hi]at this
theorem fs_w{ts:List Ty}{fs:List Fl}(h:VH ts fs=0):FsW ts fs:=by
 unfold VH at h
 split at h
 . cases h
 obtain⟨h2,h3⟩:=JL h
 split at h3
 . cases h3
 rename_i h4
 obtain⟨h5,_⟩:=JL h3
 simp only[Ko]at h4
 exact⟨by omega,getD_in.2 fun i hi=>(fFl_z.1 (h5 i hi)).1,(Xy fs).1 fun i hi=>(fFl_z.1 (h5 i hi)).2⟩
theorem Joo{ts:List Ty}{fs gs:List Fl}(h:VH ts fs=0)(hg:FsW ts gs):VH ts gs=0:=by
 unfold VH at h ⊢
 split at h
 . cases h
 rename_i h1
 rw[if_neg h1]
 obtain⟨h2,_⟩:=JL h
 rw[scan_end h2,if_neg (by rw[Ko];have:=hg.n;omega)]
 exact scan_end fun i hi=>fFl_z.2 ⟨hg.f _ (Js hi),(Xy gs).2 hg.u i hi⟩
theorem FsW.turn{ts:List Ty}{fs:List Fl}(h:FsW ts fs)(k:Nat):FsW ts (fs.drop k++fs.take k):=by
 have hp:(fs.drop k++fs.take k).Perm fs:=by
  have:=List.perm_append_comm (l₁:=fs.drop k) (l₂:=fs.take k)
  rwa [List.take_append_drop]at this
 exact⟨by rw[hp.length_eq];exact h.n,fun f hf=>h.f f (hp.mem_iff.1 hf),(hp.map Fl.n).nodup_iff.2 h.u⟩
theorem FsW.tail{ts:List Ty}{fs:List Fl}(h:FsW ts fs)(k:Nat):FsW ts (fs.drop k):=by
 refine⟨by rw[Kh];have:=h.n;omega,fun f hf=>h.f f (List.mem_of_mem_drop hf),?_⟩
 exact List.Pairwise.sublist ((List.drop_sublist k fs).map Fl.n) h.u
theorem chkP_z{ts:List Ty}{fs:List Fl}{x y z:Int}:Us ts fs x y z=0 ↔ VH ts fs=0/\JO x y z=0:=by
 unfold Us
 rw[first_zero,first_zero]
 exact⟨fun h=>⟨h.1,h.2.1⟩,fun h=>⟨h.1,h.2,rfl⟩⟩
def TrB(l:List Fx):Prop:=0<=Jp l/\Qf l<=100000000/\Jp l < Qf l
theorem tr_b{l:List Fx}(h:TrackOK l):TrB l:=by
 have n1:=h.n1
 exact⟨(h.b 0 (by omega)).1.1,(h.b (l.length-1) (by omega)).1.2,t_lt h (by omega) (by omega)⟩
theorem Jau{P:Nat->Prop}{g:Nat}(h:∀ j,j < g->P j)(h2:P g):∀ j,j < g+1->P j:=fun j hj=>by
 by_cases e:j=g
 . rw[e];exact h2
 exact h j (by omega)
theorem Uf{l:List Fx}(h:1<=l.length):nth (Ji (l.map Jg) 0) 0=AV.i (Jp l):=congrArg (fun r=>nth r 0) (Jl Jg (show 0 < l.length by omega))
theorem JeY{l:List Fx}(h:1<=l.length):nth (Ji (l.map Jg) (((l.map Jg).length:Int)-1).toNat) 0=AV.i (Qf l):=by
 rw[Jh7]
 exact congrArg (fun r=>nth r 0) (Jl Jg (show l.length-1 < l.length by omega))
theorem if_f{a b:Bool}(h:(if a=true then true else b)=false):a=false/\b=false:=by
 cases a
 . exact⟨rfl,h⟩
 cases h
def kE1(ts:List Ty):Bool:=if decide ((ts.length:Int) < 1)=true then true else decide ((ts.length:Int) > 3)
def kE2(ts:List Ty)(fs:List Fl):Bool:=if kE1 ts=true then true else decide ((fs.length:Int) > 4)
def kE3(ts:List Ty)(fs:List Fl):Bool:=if kE2 ts fs=true then true else !sSF ts fs
def kE4(ts:List Ty)(fs:List Fl):Bool:=if kE3 ts fs=true then true else Jdk ts fs != 0
def kE(ts:List Ty)(fs:List Fl)(x y z:Int):Bool:=if kE4 ts fs=true then true else JO x y z != 0
def lgE(f:Fl):Bool:=if decide ((f.tr.length:Int) > 6)=true then true else decide (Qf f.tr-Jp f.tr > 100)
def smE(ts:List Ty)(fs:List Fl)(x y z:Int):Bool:=if kE ts fs x y z=true then false else !fs.any lgE
theorem kE2_f{ts:List Ty}{fs:List Fl}(h:kE2 ts fs=false):1<=ts.length/\ts.length<=3/\fs.length<=4:=by
 obtain⟨h1,h2⟩:=if_f h
 obtain⟨h3,h4⟩:=if_f h1
 have:=Kz h2
 have:=Kz h3
 have:=Kz h4
 omega
theorem kE3_f{ts:List Ty}{fs:List Fl}(h:kE3 ts fs=false):kE2 ts fs=false/\sSF ts fs=true:=by
 obtain⟨h1,h2⟩:=if_f h
 exact⟨h1,by cases e:sSF ts fs;rw[e]at h2;cases h2;rfl⟩
structure EK(ts:List Ty)(fs:List Fl)(x y z:Int):Prop where
 n1:1<=ts.length
 n2:ts.length<=3
 m2:fs.length<=4
 s:sSF ts fs=true
 c:VH ts fs=0
 p:JO x y z=0
theorem kE_f{ts:List Ty}{fs:List Fl}{x y z:Int}(h:kE ts fs x y z=false):EK ts fs x y z:=by
 obtain⟨h1,h2⟩:=if_f h
 obtain⟨h3,h4⟩:=if_f h1
 obtain⟨h5,h6⟩:=kE3_f h3
 obtain⟨h7,h8,h9⟩:=kE2_f h5
 exact⟨h7,h8,h9,h6,by rw[Jop];simpa using h4,by simpa using h2⟩
theorem EK.tr{ts:List Ty}{fs:List Fl}{x y z:Int}(h:EK ts fs x y z){f:Fl}(hf:f ∈ fs):TrackOK f.tr/\TrB f.tr:=by
 have k:=((fs_w h.c).f f hf).tr
 have:=JjN k
 exact⟨this.1,tr_b this.1⟩
theorem JfW{f:Nat}{a a':List AV}{r:AV}(h:P0 f a r)(hc:∀ (X:Nat->Prop) (w:World) (vs:List Value),Z (Rep X w) vs a'->Z (Rep X w) vs a):P0 f a' r :=
 ⟨h.callable,fun w X vs hX hG hz=>h.run w X vs hX hG (hc X w _ hz)⟩
def sp5(ts:List Ty)(fs:List Fl)(x y z:Int):Nat->List AV->Option AV
 | 21,_=>some (.bool (sSF ts fs))
 | 22,_=>some (.i (Jdk ts fs))
 | 23,_=>some (.i (JO x y z))
 | n,w=>spR n w
def laE5(fs:List Fl):LA:={
 pre:=[.keep [44,45,46] [],.bound 1],post:=[.keep [44,45,46] [],.bound 1]
 Gh:=Nat
 st:=fun i=>⟨[(44,.sl 3 (fs.map Je)),(45,.i (fs.map Je).length),(46,.i i)],[],1⟩
 ok:=fun i=>i<=(fs.map Je).length/\∀ j,j < i->lgE (fs.getD j default)=false
 ms:=fun i=>(fs.map Je).length-i }
def litB(b:Bool):List AV->Option AV:=fun _=>some (.bool b)
abbrev Jjs(fs:List Fl)(g:Nat):=List.map Jg (fs.getD (g:Int).toNat default).tr
abbrev Jgo(fs:List Fl)(g:Nat):=((Jjs fs g).length:Int)
abbrev JgH(fs:List Fl)(g:Nat):=!decide ((Jgo fs g) > 6)
abbrev Jdl(fs:List Fl)(g:Nat):=(JgH fs g)=true->(JgH fs g)=true
abbrev JpK(ts:List Ty):=((List.map Jd ts).length:Int) < 1
abbrev Jgn(fs:List Fl):=List.map Je fs
abbrev Jk7(fs:List Fl):=((Jgn fs).length:Int)
abbrev Z78g(fs:List Fl)(g:Nat):=if decide ((Jgo fs g) > 6)=true then true else decide (cJ (Jjs fs g) ((Jgo fs g)-1).toNat (0+0)-cJ (Jjs fs g) (Int.toNat (0:Int)) (0+0) > 100)
abbrev JpJ(ts:List Ty)(fs:List Fl):=(!kE2 ts fs)=true->(!kE2 ts fs)=true
abbrev JpI(ts:List Ty)(fs:List Fl):=(!kE3 ts fs)=true->(!kE3 ts fs)=true
abbrev Z78k(ts:List Ty):=(!decide (JpK ts))=true->(!decide (JpK ts))=true
abbrev Z78l(g:Nat)(fs:List Fl):=(g<=(Jgn fs).length/\∀ (j:Nat),j < g->lgE (fs.getD j default)=false)
abbrev Z78m(ts:List Ty):=(!kE1 ts)=true->(!kE1 ts)=true
theorem c5(ts:List Ty)(fs:List Fl)(x y z:Int)(hl:ts.length<=maxLen)(hm:fs.length<=maxLen)(hst:∀ t,t ∈ ts->t.st.length<=maxLen):P0 5 [.agg [.sl 13 (ts.map Jd),.sl 3 (fs.map Je),.i x,.i y,.i z]] (.bool (smE ts fs x y z)):=by
 have key :
  (Z78k ts)/\(Z78k ts)/\(Z78k ts)/\(decide (JpK ts)=false->(!decide (JpK ts))=true)/\(Z78m ts)/\(Z78m ts)/\(Z78m ts)/\(kE1 ts=false->(!kE1 ts)=true)/\(JpJ ts fs)/\(JpJ ts fs)/\(JpJ ts fs)/\(JpJ ts fs) /\
  (JpJ ts fs)/\(kE2 ts fs=false->(!kE2 ts fs)=true)/\(JpI ts fs)/\(JpI ts fs)/\(JpI ts fs)/\(JpI ts fs)/\(JpI ts fs)/\(kE3 ts fs=false->(!kE3 ts fs)=true)/\((!kE4 ts fs)=true->(!kE4 ts fs)=true)/\((!kE4
  ts fs)=true->(!kE4 ts fs)=true)/\((!kE4 ts fs)=true->(!kE4 ts fs)=true)/\(kE4 ts fs=false->(!kE4 ts fs)=true)/\AV.bool (if decide (JpK ts)=true then true else decide (((List.map Jd ts).length:Int) > 3)) =
  AV.bool (kE1 ts)/\AV.bool (if kE1 ts=true then true else decide ((Jk7 fs) > 4))=AV.bool (kE2 ts fs)/\Jd6 (!kE2 ts fs) (P0 21 [AV.sl 13 (List.map Jd ts),AV.sl 3 (Jgn fs)] (AV.bool (sSF ts fs)))/\AV.bool (if kE2 ts fs =
  true then true else !sSF ts fs)=AV.bool (kE3 ts fs)/\Jd6 (!kE3 ts fs) (P0 22 [AV.sl 13 (List.map Jd ts),AV.sl 3 (Jgn fs)] (AV.i (Jdk ts fs)))/\AV.bool (if kE3 ts fs=true then true else Jdk ts fs != 0)=AV.bool (kE4
  ts fs)/\Jd6 (!kE4 ts fs) (P0 23 [AV.agg [AV.i x,AV.i y,AV.i z]] (AV.i (JO x y z)))/\AV.bool (if kE4 ts fs=true then true else JO x y z != 0)=AV.bool (kE ts fs x y z)/\(kE ts fs x y z=true->AV.bool false =
  AV.bool (smE ts fs x y z))/\(kE ts fs x y z=false->(∃ (g:Nat),(Z78l g fs)/\AS.mk [(44,AV.sl 3 (Jgn fs)),(45,AV.i (Jk7 fs)),(46,AV.i 0)] [] 1=AS.mk [(44,AV.sl 3 (Jgn fs)),(45,AV.i (Jk7 fs)),(46,AV.i (↑g :
  Int))] [] 1)/\∀ (g:Nat),(Z78l g fs)->(decide ((g:Int) < (Jk7 fs))=true->(0:Int)<=(g:Int)/\(g:Int) < (Jk7 fs)/\AV.agg (Ji (Jgn fs) (g:Int).toNat)=AV.agg (Je (fs.getD (g:Int).toNat default)) /\
  (Jdl fs g)/\(Jdl fs g)/\(Jdl fs g)/\(Jdl fs g)/\((JgH fs g)=true->Jc ((Jgo fs g)-1))/\(Jdl fs g)/\(Jdl fs g)/\((JgH fs g)=true->(0:Int)<=(Jgo fs g)-1)/\((JgH fs g)=true->(Jgo fs g)-1 < (Jgo
  fs g))/\(Jdl fs g)/\(Jdl fs g)/\(Jdl fs g)/\(Jdl fs g)/\((JgH fs g)=true->(0:Int)<=0)/\((JgH fs g)=true->(0:Int) < (Jgo fs g))/\(Jdl fs g)/\(Jdl fs g)/\(Jdl fs g)/\(Jdl fs g)/\((JgH fs g)=true →
  Jc (cJ (Jjs fs g) ((Jgo fs g)-1).toNat 0-cJ (Jjs fs g) 0 0))/\(Jdl fs g)/\(decide ((Jgo fs g) > 6)=false->(JgH fs g)=true)/\Jd6 (JgH fs g) (nth (Ji (Jjs fs g) ((Jgo fs g)-1).toNat) 0=AV.i (cJ (Jjs fs
  g) ((Jgo fs g)-1).toNat 0))/\Jd6 (JgH fs g) (nth (Ji (Jjs fs g) 0) 0=AV.i (cJ (Jjs fs g) 0 0))/\((Z78g fs g)=true->AV.bool false=AV.bool (smE ts fs x y z))/\((Z78g fs g)=false->Jc ((g:Int)+1)/\∃ (g' :
  Nat),(g'<=(Jgn fs).length/\∀ (j:Nat),j < g'->lgE (fs.getD j default)=false)/\(Jgn fs).length-g' < (Jgn fs).length-g/\AS.mk [(44,AV.sl 3 (Jgn fs)),(45,AV.i (Jk7 fs)),(46,AV.i ((g:Int)+1))] [] 1=AS.mk
  [(44,AV.sl 3 (Jgn fs)),(45,AV.i (Jk7 fs)),(46,AV.i (g':Int))] [] 1))/\(decide ((g:Int) < (Jk7 fs))=false->AV.bool true=AV.bool (smE ts fs x y z))):=by
   delta Jgo Jdl Jjs JpK Jk7 JgH Z78g JpJ JpI Jgn Z78k Z78l Z78m
   have htl:(List.map Jd ts).length=ts.length:=Kb _
   have hfl:(List.map Je fs).length=fs.length:=Kb _
   rw[htl,hfl]
   have sf:sSF ts fs=true->_:=JjS
   have:(List.map Jd ts).length=ts.length:=by simp only[Kb]
   have:(List.map Je fs).length=fs.length:=by simp only[Kb]
   refine⟨fun h=>h,fun h=>h,fun h=>h,fun h=>by first | exact h | (rw[h];rfl) | simp_all,fun h=>h,fun h=>h,fun h=>h,fun h=>by first | exact h | (rw[h];rfl) | simp_all,fun h=>h,fun h=>h,fun h=>h,fun h=>h,fun h=>h,fun h=>by first | exact h | (rw[h];rfl) | simp_all,fun h=>h,fun h=>h,fun h=>h,fun h=>h,fun h=>h,fun h=>by first | exact h | (rw[h];rfl) | simp_all,fun h=>h,fun h=>h,fun h=>h,fun h=>by first | exact h | (rw[h];rfl) | simp_all,rfl,rfl,impB_iff.2 fun hb=>((c21 ts fs hl hm hst)),rfl,impB_iff.2 fun hb=>((by have h9:=kE3_f (by simpa using hb);have h8:=kE2_f h9.1;obtain⟨z1,z2,hS,hF⟩:=JjS h9.2;exact c22 ts fs (by omega) (by omega) hS hF)),rfl,impB_iff.2 fun hb=>((c23 x y z)),rfl,fun h1=>?_,fun h1=>?_⟩
   . first
      | exact congrArg AV.bool (by unfold smE;rw[if_pos h1])
      | (unfold smE
         have hx:fs.any lgE=true:=List.any_eq_true.2 ⟨fs.getD g default,Js hlt,by unfold lgE;rw[<- hlm];exact h2⟩
         rw[if_neg (by rw[h1];decide),hx]
         rfl)
   have hK:=kE_f h1
   refine⟨⟨0,⟨by omega,by intros;omega⟩,rfl⟩,fun g ⟨hg,ha⟩=>⟨fun hd=>?_,fun hd=>?_⟩⟩
   . have hlt:g < fs.length:=by have h9:=Ky hd;have h8:=hg;(try simp only[Kb]at h8);(try simp only[Kb]at h9);omega
     have hT:=hK.tr (Js hlt)
     have hm2:=hK.m2
     have n1:=hT.1.n1
     have n2:=hT.1.n2
     obtain⟨b1,b2,b3⟩:=hT.2
     have hlm:(List.map Jg (fs.getD g default).tr).length=(fs.getD g default).tr.length:=Kb _
     have hc1:cJ (List.map Jg (fs.getD g default).tr) (Int.toNat (0:Int)) ((0:Nat)+(0:Nat))=Jp (fs.getD g default).tr:=Wy _
     rw[show(g:Int).toNat=g from Km g,Wy,Jol,hc1]
     try rw[show(g:Int).toNat=g from Km g]
     refine⟨by omega,by omega,congrArg AV.agg (Jl Je hlt),fun h=>h,fun h=>h,fun h=>h,fun h=>h,fun _=>by unfold Jc;omega,fun h=>h,fun h=>h,fun _=>by omega,fun _=>by omega,fun h=>h,fun h=>h,fun h=>h,fun h=>h,fun _=>by omega,fun _=>by omega,fun h=>h,fun h=>h,fun h=>h,fun h=>h,fun _=>by unfold Jc;omega,fun h=>h,fun h=>by first | exact h | (rw[h];rfl) | simp_all,impB_iff.2 fun hb=>(by first | exact Uf (by omega) | exact JeY (by omega)),impB_iff.2 fun hb=>(by first | exact Uf (by omega) | exact JeY (by omega)),fun h2=>?_,fun h2=>⟨by unfold Jc;omega,⟨g+1,⟨by omega,Jau ha ?_⟩,by omega,rfl⟩⟩⟩
     . first
        | exact congrArg AV.bool (by unfold smE;rw[if_pos h1])
        | (unfold smE
           have hx:fs.any lgE=true:=List.any_eq_true.2 ⟨fs.getD g default,Js hlt,by unfold lgE;rw[<- hlm];exact h2⟩
           rw[if_neg (by rw[h1];decide),hx]
           rfl)
     unfold lgE
     rw[<- hlm]
     exact h2
   have hge:g=fs.length:=by have h9:=Kz hd;have h8:=hg;(try simp only[Kb]at h8);(try simp only[Kb]at h9);omega
   subst hge
   unfold smE
   have hx:fs.any lgE=false:=by
    refine Bool.eq_false_iff.2 fun hc=>?_
    obtain⟨f,hf,hl⟩:=List.any_eq_true.1 hc
    obtain⟨i,hi,rfl⟩:=List.getElem_of_mem hf
    have h9:=ha i (by have:=Kz hd;omega)
    rw[Ka,Kj hi]at h9
    have h8:lgE fs[i]=false:=h9
    rw[h8]at hl
    cases hl
   rw[if_neg (by rw[h1];decide),hx]
   rfl
 exact Jw Tryz.f5 (fzB (mkB (sp5 ts fs x y z) 5 [(1,9,litB (kE1 ts)),(1,15,litB (kE2 ts fs)),(1,23,litB (kE3 ts fs)),(1,31,litB (kE4 ts fs)),(1,37,litB (kE ts fs x y z)),(5,1,rdL 3 Je fs 3 true),(6,13,rdC),(6,18,rdC)] (JnP (laE5 fs)))) key (by kernel_rfl)
structure WE where
 ru:List AV
 xr:List (List AV)
 nr:List (List AV)
 tk:Int->List (List AV)
 dp:Int->List (List AV)
 ra:Int
 rb:Int
 rc:Int
 rd:Int
 tp:List (List AV)
 mv:List (List AV)->List (List AV)
 cs:List Int
 pa:List Int
 lf:List (List AV)->Int
 tt:List (List AV)->Int
 ca:List (List AV)->List (List AV)->List (List AV)
 sp:Int
 sm:Nat->Int
 en:Nat->Int
 go:Nat->Int
 si:Nat->Int
 kk:Nat->Nat
 qu:Nat->List Fl
 wi:Int->Int->Int->Bool
 ky:List UInt8->Nat->Int
def ruL(W:WE):List AV:=[.i W.ra,.i W.rb,.i W.rc,.i W.rd,.sl 3 W.tp,.i 100,.sl 1 [[.str stormS]],.i 3,.i 70,.i 2,.int .u8 0,.int .u8 0,.int .u8 0,.int .u8 0,.int .u8 0,.int .u8 0,.int .u8 0,.int .u8 0]
def xL(ts:List Ty)(fs:List Fl)(x y z:Int):List AV:=[.sl 13 (ts.map Jd),.sl 3 (fs.map Je),.i x,.i y,.i z]
def nL(n0 n1 n2 n3:Int):List AV:=[.int .u16 n0,.int .u16 n1,.int .u16 n2,.int .u16 n3]
def k8(W:WE)(s:List UInt8):List AV:=[.int .u8 (W.ky s 0),.int .u8 (W.ky s 1),.int .u8 (W.ky s 2),.int .u8 (W.ky s 3),.int .u8 (W.ky s 4),.int .u8 (W.ky s 5),.int .u8 (W.ky s 6),.int .u8 (W.ky s 7)]
def JnG:List UInt8:=[110,111,110,101]
def exL(W:WE)(f:Fl):List AV:=[.str f.n,.str stormS,.i (1+(Jp f.tr).tdiv 1440),.int .u8 (W.ky f.n 0),.int .u8 (W.ky f.n 1),.int .u8 (W.ky f.n 2),.int .u8 (W.ky f.n 3),.int .u8 (W.ky f.n 4),.int .u8 (W.ky f.n 5),.int .u8 (W.ky f.n 6),.int .u8 (W.ky f.n 7)]
def Jd1(fs:List Fl)(i:Nat):List Fl:=fs.take i++fs.drop (i+1)
def JiE(W:WE)(f:Fl):Bool:=W.wi W.rc W.rd ((Jp f.tr).tmod 1440)
def B15(n:Int):Prop := -1000000000000000<=n/\n<=1000000000000000
structure LawE(W:WE)(ts:List Ty)(fs:List Fl)(x y z n0 n1 n2 n3:Int):Prop where
 k:EK ts fs x y z
 hru:W.ru=ruL W
 hxr:W.xr=[xL ts fs x y z]
 hnr:W.nr=[nL n0 n1 n2 n3]
 htk:∀ i:Nat,i<=fs.length->W.tk i=(fs.take i).map Je
 hdp:∀ i:Nat,i<=fs.length->W.dp i=(fs.drop i).map Je
 c6:P0 6 [.elt 5 W.xr 0 0,.elt 4 W.nr 0 0] (.agg W.ru)
 c10:∀ gs:List Fl,gs.Sublist fs->P0 10 [.sl 3 (gs.map Je)] (.sl 5 (W.mv (gs.map Je)))
 c9:P0 9 [.agg W.ru,.sl 5 (W.mv (fs.map Je))] (.tup [.sl 1 (W.cs.map Jh),.i 0])
 c11:∀ gs:List Fl,gs.Sublist fs->P0 11 [.agg W.ru,.sl 5 (W.mv (gs.map Je))] (.tup [.i (W.lf (W.mv (gs.map Je))),.i 0])
 c12:P0 12 [.agg W.ru,.sl 5 (W.mv (fs.map Je)),.agg [.i 0,.i 100001]] (.tup [.i W.sp,.i 0])
 c13:∀ gs:List Fl,gs.Sublist fs->P0 13 [.agg W.ru,.sl 5 (W.mv (gs.map Je)),.ex (.slice none 0 0)] (.tup [.sl 3 (W.ca (W.mv (gs.map Je)) []),.i 0])
 c13x:∀ f,f ∈ fs->JiE W f=true->P0 13 [.agg W.ru,.sl 5 (W.mv (fs.map Je)),.sl 11 [exL W f]] (.tup [.sl 3 (W.ca (W.mv (fs.map Je)) [exL W f]),.i 0])
 c14:P0 14 [.sl 13 (ts.map Jd),.sl 3 (fs.map Je),.agg [.i x,.i y,.i z]] (.tup [.sl 1 (W.pa.map Jh),.i 0])
 c17:∀ gs:List Fl,gs.Sublist fs->P0 17 [.sl 13 (ts.map Jd),.sl 3 (gs.map Je),.agg [.i x,.i y,.i z]] (.tup [.i (W.tt (gs.map Je)),.i 0])
 c18:∀ f,f ∈ fs->P0 18 [.agg [.i W.rc,.i W.rd],.i ((Jp f.tr).tmod 1440)] (.tup [.bool (JiE W f),.i 0])
 c19:∀ f,f ∈ fs->P0 19 [.agg W.ru,.str f.n,.str stormS] (.tup [.agg (k8 W f.n),.i 0])
 hcs:W.cs.length=fs.length
 hpa:W.pa.length=fs.length
 bl:B15 (W.lf (W.mv (fs.map Je)))
 bt:B15 (W.tt (fs.map Je))
 hsp:W.sp=100-W.lf (W.mv (fs.map Je))
 sm0:W.sm 0=0
 en0:W.en 0=0
 go0:W.go 0=0
 si0:W.si 0=0
 kk0:W.kk 0=0
 qu0:W.qu 0=[]
 sm1:∀ i,i < fs.length->W.sm (i+1)=W.sm i+W.cs.getD i default
 en1:∀ i,i < fs.length->W.en (i+1)=W.en i+W.pa.getD i default
 go1:∀ i,i < fs.length->JiE W (fs.getD i default)=true->W.go (i+1)=W.go i+W.cs.getD i default/\W.si (i+1)=W.si i+W.pa.getD i default/\W.kk (i+1)=W.kk i+1/\W.qu (i+1)=W.qu i
 go2:∀ i,i < fs.length->JiE W (fs.getD i default)=false->W.go (i+1)=W.go i/\W.si (i+1)=W.si i/\W.kk (i+1)=W.kk i/\W.qu (i+1)=W.qu i++[fs.getD i default]
 bnd:∀ i,i<=fs.length->B15 (W.sm i)/\B15 (W.en i)/\B15 (W.go i)/\B15 (W.si i)/\W.kk i<=i/\(W.qu i).length<=i/\(W.qu i).Sublist fs
 cb:∀ i,i < fs.length->B15 (W.cs.getD i default)/\B15 (W.pa.getD i default)
 le1:∀ i,i < fs.length->W.lf (W.mv ((Jd1 fs i).map Je))-W.lf (W.mv (fs.map Je))=W.cs.getD i default
 le2:∀ i,i < fs.length->W.tt (fs.map Je)-W.tt ((Jd1 fs i).map Je)=W.pa.getD i default
 row:∀ i,i < fs.length->JiE W (fs.getD i default)=true->W.kk i < (W.ca (W.mv (fs.map Je)) []).length/\Ji (W.ca (W.mv (fs.map Je)) []) (W.kk i)=[.str (fs.getD i default).n,.str JnG,.i 70]
 exc:∀ i,i < fs.length->JiE W (fs.getD i default)=true->((W.ca (W.mv (fs.map Je)) [exL W (fs.getD i default)]).length:Int)=(W.ca (W.mv (fs.map Je)) []).length-1
 lca:(W.ca (W.mv (fs.map Je)) []).length=W.kk fs.length
 fs1:W.sm fs.length=W.sp
 fs2:W.en fs.length=W.tt (fs.map Je)
 fq1:(W.ca (W.mv ((W.qu fs.length).map Je)) []).length=0
 fq2:W.lf (W.mv ((W.qu fs.length).map Je))=W.lf (W.mv (fs.map Je))+W.go fs.length
 fq3:W.tt ((W.qu fs.length).map Je)=W.tt (fs.map Je)-W.si fs.length
end Go.Proofs.YthkngjifljcocaaGreatDoor
