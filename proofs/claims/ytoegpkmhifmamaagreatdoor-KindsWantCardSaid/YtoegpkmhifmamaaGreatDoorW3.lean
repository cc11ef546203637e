/- Words of the same proof, part 3: what the last text needs; nothing is claimed here. -/
import Derived.Test.YtoegpkmhifmamaaGreatDoorW2
set_option linter.unusedVariables false
set_option linter.unusedSimpArgs false
namespace Go.Proofs.YtoegpkmhifmamaaGreatDoor
open Go
def ahG (k:Nat)  : LC→Nat→(List LS)→Option (List LS)
 | [],b,a=>(some a)
 | (.mk e f g h c) :: d,b,a=>(aaT (decide ((a.length + 1) * 24 ≤ 140737488355328)) ((ahG k d) (b + 1) (a ++ [c])))
def asn (k:Nat):aaf→Option (List LS):=fun a =>
 match a with
 | .mk f g h i j l m b c d e=>(ahG k e 0 [b,c,d])
def f92 (k:Nat):aaf→Option (List LS):=asn k
structure afl where
 f63:LS→Option Bool
 f90:aaf→Option Bool
 f1004261:LS→Option Bool
 f1006261:LS→Option Int
 f1009184:(List LS)→Option Bool
 f1010784:(List LS)→Option Int
def au0 (k:Nat) (F:afl):LS→Option Bool:=fun a=>((F.f1004261 a).bind fun b=>(some b))
def aii (k:Nat) (F:afl) (a:Bool):Option Bool:=(some a)
def amj (k:Nat) (F:afl) (a:Int) (c:BA) (d:Int) (e:BA) (f:Int) (b:Int) (g:LE) (h:LS) (i:LS) (j:LS) (l:LC) (m:Bool):Option Bool:=(cond m (some false) (cond (a == 18) (aii k F true) (cond (a == 6) (cond (b == 1) (aii k F true) ((f92 k (aaf.mk a c d e f b g h i j l)).bind fun n=>((F.f1009184 n).bind fun o=>(aii k F o)))) ((f92 k (aaf.mk a c d e f b g h i j l)).bind fun p=>((F.f1009184 p).bind fun q=>(aii k F q))))))
def arf (k:Nat) (F:afl):aaf→Option Bool:=fun m =>
 match m with
 | .mk a b c d e f g h i j l=>(cond (a == 21) (amj k F a b c d e f g h i j l true) (amj k F a b c d e f g h i j l (a == 28)))
def ahk (k:Nat) (F:afl):LS→Option Bool:=fun a=>((F.f1006261 a).bind fun b=>(some (decide (b ≥ 0))))
def act (k:Nat) (F:afl)  : LS→Nat→Option Int
 | [],a=>(some (-1))
 | (.mk b c d e f g h i j l m) :: n,a=>((F.f90 (aaf.mk b c d e f g h i j l m)).bind fun o=>(cond o (some (a:Int)) ((act k F n) (a + 1))))
def ahd (k:Nat) (F:afl):LS→Option Int:=fun a=>(act k F a 0)
def ag3 (k:Nat) (F:afl):(List LS)→Option Bool:=fun a=>((F.f1010784 a).bind fun b=>(some (decide (b ≥ 0))))
def acS (k:Nat) (F:afl)  : List LS→Nat→Option Int
 | [],a=>(some (-1))
 | b :: c,a=>((F.f63 b).bind fun d=>(cond d (some (a:Int)) ((acS k F c) (a + 1))))
def ahm (k:Nat) (F:afl):(List LS)→Option Int:=fun a=>(acS k F a 0)
def acD (k0:Nat):Nat→afl
 | 0=>{ f63:=fun _=>none,f90:=fun _=>none,f1004261:=fun _=>none,f1006261:=fun _=>none,f1009184:=fun _=>none,f1010784:=fun _=>none }
 | k + 1=>{ f63:=au0 k0 (acD k0 k),f90:=arf k0 (acD k0 k),f1004261:=ahk k0 (acD k0 k),f1006261:=ahd k0 (acD k0 k),f1009184:=ag3 k0 (acD k0 k),f1010784:=ahm k0 (acD k0 k) }
def f63 (k:Nat):LS→Option Bool:=(acD k k).f63
def f90 (k:Nat):aaf→Option Bool:=(acD k k).f90
def f1004261 (k:Nat):LS→Option Bool:=(acD k k).f1004261
def f1006261 (k:Nat):LS→Option Int:=(acD k k).f1006261
def f1009184 (k:Nat):(List LS)→Option Bool:=(acD k k).f1009184
def f1010784 (k:Nat):(List LS)→Option Int:=(acD k k).f1010784
structure adk where
 f24:LS→Option Bool
 f43:aaf→Option Bool
 f65:aaB→Option Bool
 f1004205:LS→Option Bool
 f1006205:LS→Option Int
 f1006449:LC→Option Bool
 f1009382:LC→Unit→Option Bool
 f1009447:aaB→Unit→Option Bool
 f1010882:LC→Unit→Option Int
def au6 (k:Nat) (F:adk):LS→Option Bool:=fun a=>((F.f1004205 a).bind fun b=>(some b))
def ajQ (k:Nat) (F:adk) (a:Bool):Option Bool:=(some a)
def ajG (k:Nat) (F:adk) (a:Bool):Option Bool:=(some a)
def aja (k:Nat) (F:adk) (a:Bool):Option Bool:=(some a)
def ajD (k:Nat) (F:adk) (a:Int) (c:Int) (b:LS) (d:LS) (e:LS) (f:LC) (g:Bool):Option Bool:=(cond g ((F.f24 b).bind fun h=>(some h)) (cond (a == 24) ((F.f24 e).bind fun i=>(cond i (aja k F true) ((F.f24 b).bind fun j=>(cond j (cond ((IntKind.i64.wrap (BitVec.ofInt IntKind.i64.bits c &&& BitVec.ofInt IntKind.i64.bits 1).toNat) == 0) (aja k F true) ((F.f24 d).bind fun l=>(aja k F l))) (aja k F false))))) (cond (a == 27) ((F.f1006449 f).bind fun m=>(some m)) (some false))))
def aix (k:Nat) (F:adk) (a:Int) (c:Int) (g:LE) (b:LS) (d:LS) (e:LS) (f:LC) (h:Bool):Option Bool:=(cond h (some true) (cond (a == 20) (cond (c == 1) ((F.f24 b).bind fun i=>(cond i ((F.f24 d).bind fun j=>(ajQ k F j)) (ajQ k F false))) (ajQ k F false)) (cond (a == 21) ((idxO g 0).bind fun q_=>match q_ with | .mk l m o p q=>(cond (l == 2) (cond (m == 1) ((f63 k b).bind fun n=>(ajG k F (!n))) (ajG k F false)) (ajG k F false))) (cond (a == 23) (ajD k F a c b d e f (a == 23)) (cond (a == 25) (ajD k F a c b d e f (a == 25)) (ajD k F a c b d e f (a == 26)))))))
def ap8 (k:Nat) (F:adk):aaf→Option Bool:=fun h =>
 match h with
 | .mk a i j l m b c d e f g=>(cond (a == 17) (aix k F a b c d e f g (a == 17)) (cond (a == 15) (aix k F a b c d e f g (a == 15)) (cond (a == 18) (aix k F a b c d e f g (a == 18)) (aix k F a b c d e f g (a == 19)))))
def avZ (k:Nat) (F:adk):aaB→Option Bool:=fun a =>
 match a with
 | .mk d e f g b=>((F.f24 b).bind fun c=>(some c))
def ag6 (k:Nat) (F:adk):LS→Option Bool:=fun a=>((F.f1006205 a).bind fun b=>(some (decide (b ≥ 0))))
def acy (k:Nat) (F:adk)  : LS→Nat→Option Int
 | [],a=>(some (-1))
 | (.mk b c d e f g h i j l m) :: n,a=>((F.f43 (aaf.mk b c d e f g h i j l m)).bind fun o=>(cond o (some (a:Int)) ((acy k F n) (a + 1))))
def ag2 (k:Nat) (F:adk):LS→Option Int:=fun a=>(acy k F a 0)
def ahi (k:Nat) (F:adk):LC→Option Bool:=fun a=>((F.f1009382 a ()).bind fun b=>(some (!b)))
def ahl (k:Nat) (F:adk):LC→Unit→Option Bool:=fun a _=>((F.f1010882 a ()).bind fun b=>(some (decide (b ≥ 0))))
def agW (k:Nat) (F:adk):aaB→Unit→Option Bool:=fun a b =>
 match a,b with
 | .mk c d e f g,_=>((F.f65 (aaB.mk c d e f g)).bind fun h=>(some (!h)))
def acu (k:Nat) (F:adk)  : LC→Nat→Option Int
 | [],a=>(some (-1))
 | (.mk b c d e f) :: g,a=>((F.f1009447 (aaB.mk b c d e f) ()).bind fun h=>(cond h (some (a:Int)) ((acu k F g) (a + 1))))
def ahp (k:Nat) (F:adk):LC→Unit→Option Int:=fun a _=>(acu k F a 0)
def abL (k0:Nat):Nat→adk
 | 0=>{ f24:=fun _=>none,f43:=fun _=>none,f65:=fun _=>none,f1004205:=fun _=>none,f1006205:=fun _=>none,f1006449:=fun _=>none,f1009382:=fun _ _=>none,f1009447:=fun _ _=>none,f1010882:=fun _ _=>none }
 | k + 1=>{ f24:=au6 k0 (abL k0 k),f43:=ap8 k0 (abL k0 k),f65:=avZ k0 (abL k0 k),f1004205:=ag6 k0 (abL k0 k),f1006205:=ag2 k0 (abL k0 k),f1006449:=ahi k0 (abL k0 k),f1009382:=ahl k0 (abL k0 k),f1009447:=agW k0 (abL k0 k),f1010882:=ahp k0 (abL k0 k) }
def f24 (k:Nat):LS→Option Bool:=(abL k k).f24
def f43 (k:Nat):aaf→Option Bool:=(abL k k).f43
def f65 (k:Nat):aaB→Option Bool:=(abL k k).f65
def f1004205 (k:Nat):LS→Option Bool:=(abL k k).f1004205
def f1006205 (k:Nat):LS→Option Int:=(abL k k).f1006205
def f1006449 (k:Nat):LC→Option Bool:=(abL k k).f1006449
def f1009382 (k:Nat):LC→Unit→Option Bool:=(abL k k).f1009382
def f1009447 (k:Nat):aaB→Unit→Option Bool:=(abL k k).f1009447
def f1010882 (k:Nat):LC→Unit→Option Int:=(abL k k).f1010882
def ahr (k:Nat)  : LP→Nat→(List Int)→Option (List Int)
 | [],b,a=>(some a)
 | (.mk e c) :: d,b,a=>(aaT (decide ((a.length + 1) * 8 ≤ 140737488355328)) ((ahr k d) (b + 1) (a ++ [c])))
def atz (k:Nat):aae→Option (List Int):=fun a =>
 match a with
 | .mk c b d e f g=>(ahr k b 0 ([]:List Int))
def f26 (k:Nat):aae→Option (List Int):=atz k
def avr (k:Nat):Bool→Int→Option (Except Int Unit):=fun a b=>(cond (!a) (some (.error b)) (some (.ok ())))
def f77 (k:Nat):Bool→Int→Option (Except Int Unit):=avr k
def apC (k:Nat):Option (List (Int × aaH)):=(some (mput qI 29 (aaH.mk 0 false 1 1 false) (mput qI 28 (aaH.mk 1 true 0 601 true) (mput qI 27 (aaH.mk 0 false 0 0 false) (mput qI 26 (aaH.mk 0 false 1 1 true) (mput qI 25 (aaH.mk 1 false 1 1 true) (mput qI 24 (aaH.mk 2 false 0 0 true) (mput qI 23 (aaH.mk 0 false 0 0 true) (mput qI 22 (aaH.mk 0 false 0 1 true) (mput qI 21 (aaH.mk 0 false 1 1 true) (mput qI 20 (aaH.mk 0 false 1 1 true) (mput qI 19 (aaH.mk 0 false 0 0 false) (mput qI 18 (aaH.mk 0 false 0 0 false) (mput qI 17 (aaH.mk 0 false 0 1 false) (mput qI 16 (aaH.mk 0 false 1 1 false) (mput qI 15 (aaH.mk 0 false 1 1 false) (mput qI 14 (aaH.mk 0 false 1 1 false) (mput qI 13 (aaH.mk 0 false 0 0 false) (mput qI 12 (aaH.mk 0 false 1 1 false) (mput qI 11 (aaH.mk 0 false 1 1 false) (mput qI 10 (aaH.mk 0 false 2 2 false) (mput qI 9 (aaH.mk 1 false 0 0 false) (mput qI 8 (aaH.mk 1 false 1 1 false) (mput qI 7 (aaH.mk 1 false 1 1 false) (mput qI 6 (aaH.mk 2 false 1 1 false) (mput qI 5 (aaH.mk 2 false 1 1 false) (mput qI 4 (aaH.mk 2 true 0 601 false) (mput qI 3 (aaH.mk 2 true 0 601 false) (mput qI 2 (aaH.mk 1 false 1 1 false) (mput qI 1 (aaH.mk 1 false 1 1 false) ([]:List (Int × aaH))))))))))))))))))))))))))))))))
def f148 (k:Nat):Option (List (Int × aaH)):=apC k
def amU (k:Nat) (a:Bool):Option Bool:=(some a)
def asU (k:Nat):Int→Int→Int→Option Bool:=fun a b c=>(cond (decide (a ≥ b)) (amU k (decide (a ≤ c))) (amU k false))
def f69 (k:Nat):Int→Int→Int→Option Bool:=asU k
def aeT (k:Nat) (a:Bool):Option Bool:=(some a)
def adg (k:Nat) (c:LS) (a:LS) (d:Bool) (b:Bool) (e:Bool):Option Bool:=(cond e (cond d (cond b (aeT k true) (aeT k ((a.length:Int) == 0))) (cond ((c.length:Int) == 0) (cond b (aeT k true) (aeT k ((a.length:Int) == 0))) (aeT k false))) (aeT k false))
def aiC (k:Nat) (a:Int) (b:LS) (c:LS) (d:Bool):Option Bool:=(adg k b c ((IntKind.i64.wrap (BitVec.ofInt IntKind.i64.bits a &&& BitVec.ofInt IntKind.i64.bits 1).toNat) == 1) ((IntKind.i64.wrap (BitVec.ofInt IntKind.i64.bits a &&& BitVec.ofInt IntKind.i64.bits 2).toNat) == 2) d)
def aoq (k:Nat):aaf→Option Bool:=fun f =>
 match f with
 | .mk d e n o p a q r b c s=>(cond (d == 6) ((f69 k a 0 1).bind fun g=>(cond g (cond (a == 0) (adg k b c false false true) (adg k b c false false (!seq e ⟨#[]⟩))) (adg k b c false false false))) (cond (d == 7) ((f69 k a 0 2).bind fun h=>(adg k b c false false h)) (cond (d == 22) ((f69 k a 0 1).bind fun i=>(adg k b c false false i)) (cond (d == 20) ((f69 k a 0 1).bind fun j=>(adg k b c (a == 1) false j)) (cond (d == 24) ((f69 k a 1 3).bind fun l=>(cond l (aiC k a b c ((!seq e ⟨#[]⟩) == ((IntKind.i64.wrap (BitVec.ofInt IntKind.i64.bits a &&& BitVec.ofInt IntKind.i64.bits 1).toNat) == 1))) (aiC k a b c false))) (cond (d == 28) ((f69 k a 0 66).bind fun m=>(cond m (adg k b c false false (decide ((a.tmod 4) < 3))) (adg k b c false false false))) (adg k b c false false (a == 0))))))))
def f149 (k:Nat):aaf→Option Bool:=aoq k
def al6 (k:Nat) (a:Int) (b:Int) (c:Bool) (d:Int) (e:Bool):Option (aag × Bool):=(some ((aag.mk (w64 (a + 1)) (imax b d) c),e))
def arT (k:Nat):aag→Int→Option (aag × Bool):=fun e a =>
 match e,a with
 | .mk b c d,a=>(cond (decide ((w64 (b + 1)) ≤ 600)) (al6 k b c d a (decide (a ≤ 16))) (al6 k b c d a false))
def f68 (k:Nat):aag→Int→Option (aag × Bool):=arT k
def aib (k:Nat) (a:Bool):Option Bool:=(some a)
def aov (k:Nat):Int→Option Bool:=fun a=>(cond (decide (a ≥ 97)) (aib k (decide (a ≤ 122))) (aib k false))
def f115 (k:Nat):Int→Option Bool:=aov k
def ai9 (k:Nat) (a:Bool):Option Bool:=(some a)
def aoP (k:Nat):Int→Option Bool:=fun a=>(cond (decide (a ≥ 48)) (ai9 k (decide (a ≤ 57))) (ai9 k false))
def f116 (k:Nat):Int→Option Bool:=aoP k
def ajr (k:Nat) (a:Nat) (b:Bool) (nx1:Nat→Option Bool):Option Bool:=(cond b (some false) (nx1 (a + 1)))
def ae0 (k:Nat) (b:BA):List UInt8→Nat→Option Bool
 | [],a=>(some (!seq b ⟨#[]⟩))
 | d :: c,a=>((f115 k (d.toNat:Int)).bind fun e=>(cond (!e) (cond ((a:Int) == 0) (ajr k a true (ae0 k b c)) ((f116 k (d.toNat:Int)).bind fun f=>(ajr k a (!f) (ae0 k b c)))) (ajr k a false (ae0 k b c))))
def ath (k:Nat):BA→Option Bool:=fun a=>(ae0 k a a.data.toList 0)
def f96 (k:Nat):BA→Option Bool:=ath k
def af4 (k:Nat) (b:BA):LB→Nat→Option Int
 | [],a=>(some (-1))
 | c :: d,a=>(cond (seq b c) (some (a:Int)) ((af4 k b d) (a + 1)))
def aow (k:Nat):LB→BA→Option Int:=fun a b=>(af4 k b a 0)
def f134 (k:Nat):LB→BA→Option Int:=aow k
def an0 (k:Nat):LB→BA→Option Bool:=fun a b=>((f134 k a b).bind fun c=>(some (decide (c ≥ 0))))
def f117 (k:Nat):LB→BA→Option Bool:=an0 k
def ac1:LB:=[⟨#[97,102,116,101,114]⟩,⟨#[97,119,97,105,116]⟩,⟨#[98,111,111,108]⟩,⟨#[98,114,101,97,107]⟩,⟨#[98,117,102,102,101,114]⟩,⟨#[99,97,110,99,101,108]⟩,⟨#[99,97,116,99,104]⟩,⟨#[99,104,97,110]⟩,⟨#[99,108,111,115,101]⟩,⟨#[99,111,110,116,105,110,117,101]⟩,⟨#[100,114,111,112]⟩,⟨#[101,97,99,104]⟩,⟨#[101,108,115,101]⟩,⟨#[101,109,105,116]⟩,⟨#[102,97,108,115,101]⟩,⟨#[102,105,110,97,108,108,121]⟩,⟨#[102,108,111,119]⟩,⟨#[102,110]⟩,⟨#[102,114,111,109]⟩,⟨#[104,111,108,100]⟩,⟨#[105,102]⟩,⟨#[105,110,116]⟩,⟨#[108,101,116]⟩,⟨#[108,111,99,107]⟩,⟨#[110,101,119]⟩,⟨#[110,111,119]⟩,⟨#[111,108,100]⟩,⟨#[112,114,111,100,117,99,101]⟩,⟨#[114,101,99,101,105,118,101]⟩,⟨#[114,101,116,117,114,110]⟩,⟨#[115,99,111,112,101]⟩,⟨#[115,101,108,101,99,116]⟩,⟨#[115,101,110,100]⟩,⟨#[115,104,105,101,108,100]⟩,⟨#[115,108,101,101,112]⟩,⟨#[115,112,97,119,110]⟩,⟨#[115,117,112,101,114,118,105,115,101,100]⟩,⟨#[116,97,115,107]⟩,⟨#[116,101,120,116]⟩,⟨#[116,104,114,111,119]⟩,⟨#[116,114,117,101]⟩,⟨#[116,114,121]⟩,⟨#[117,115,101]⟩,⟨#[119,104,105,108,101]⟩,⟨#[119,105,116,104,105,110]⟩,⟨#[121,105,101,108,100]⟩]
def f118 (k:Nat):Option LB:=some ac1
def ati (k:Nat):BA→Option Bool:=fun a=>((f118 k ).bind fun b=>((f117 k b a).bind fun c=>(some c)))
def f97 (k:Nat):BA→Option Bool:=ati k
def ajo (k:Nat) (a:Bool):Option Bool:=(some a)
def asQ (k:Nat):BA→Option Bool:=fun a=>((f96 k a).bind fun b=>(cond b (cond (decide ((a.size:Int) ≤ 12)) ((f97 k a).bind fun c=>(ajo k (!c))) (ajo k false)) (ajo k false)))
def f71 (k:Nat):BA→Option Bool:=asQ k
def aiT (k:Nat) (a:Nat) (b:Bool) (nx1:Nat→Option Bool):Option Bool:=(cond b (some false) (nx1 (a + 1)))
def aei (k:Nat) (a:BA):List UInt8→Nat→Option Bool
 | [],b=>(some (decide ((a.size:Int) ≤ 60)))
 | c :: d,b=>(cond (decide ((c.toNat:Int) < 32)) (aiT k b true (aei k a d)) (aiT k b (decide ((c.toNat:Int) > 126)) (aei k a d)))
def auz (k:Nat):BA→Option Bool:=fun a=>(aei k a a.data.toList 0)
def f66 (k:Nat):BA→Option Bool:=auz k
def f70 (k:Nat):BA→Option Bool:=fun a=>f66 k a
structure ahn where
 f47:aag→aah→Int→Option (aag × Bool)
 f72:aag→LE→Int→Option (aag × Bool)
def ai8 (k:Nat) (F:ahn) (a:Bool) (b:Int) (c:Int) (d:Bool):Option (aag × Bool):=(some ((aag.mk b c d),a))
def adt (k:Nat) (F:ahn) (d:LE) (e:Int) (a:Int) (b:Int) (c:Bool) (f:Int) (g:Bool):Option (aag × Bool):=(cond g (cond ((d.length:Int) == f) ((F.f72 (aag.mk a b c) d (w64 (e + 1))).bind fun q_=>match q_ with | (.mk h i j,l)=>(ai8 k F l h i j)) (ai8 k F false a b c)) (ai8 k F false a b c))
def amW (k:Nat) (F:ahn) (a:LE) (b:Int) (c:Int) (d:Int) (e:Bool) (f:Bool):Option (aag × Bool):=(adt k F a b c d e 1 f)
def aju (k:Nat) (F:ahn) (a:LE) (b:Int) (c:Int) (d:Int) (e:Bool) (f:Bool):Option (aag × Bool):=(adt k F a b c d e 2 f)
def amu (k:Nat) (F:ahn) (h:Int) (f:Int) (g:BA) (a:LE) (b:Int) (c:Int) (d:Int) (e:Bool) (i:Bool):Option (aag × Bool):=(cond i (cond (f == 0) (amW k F a b c d e (seq g ⟨#[]⟩)) (amW k F a b c d e false)) ((f69 k h 7 19).bind fun j=>(cond j (cond (f == 0) (aju k F a b c d e (seq g ⟨#[]⟩)) (aju k F a b c d e false)) (aju k F a b c d e false))))
def ahy (k:Nat) (F:ahn) (f:Int) (g:Int) (h:BA) (d:LE) (e:Int) (a:Int) (b:Int) (c:Bool) (i:Bool):Option (aag × Bool):=(cond i (some ((aag.mk a b c),false)) (cond (f == 1) ((f69 k g 0 1000000000000).bind fun j=>(cond j (adt k F d e a b c 0 (seq h ⟨#[]⟩)) (adt k F d e a b c 0 false))) (cond (f == 2) ((f69 k g 0 1).bind fun l=>(cond l (adt k F d e a b c 0 (seq h ⟨#[]⟩)) (adt k F d e a b c 0 false))) (cond (f == 3) (cond (g == 0) ((f70 k h).bind fun m=>(adt k F d e a b c 0 m)) (adt k F d e a b c 0 false)) (cond (f == 4) (cond (g == 0) ((f71 k h).bind fun n=>(adt k F d e a b c 0 n)) (adt k F d e a b c 0 false)) (cond (f == 5) (amu k F f g h d e a b c (f == 5)) (amu k F f g h d e a b c (f == 6))))))))
def ap0 (k:Nat) (F:ahn):aag→aah→Int→Option (aag × Bool):=fun i j a =>
 match i,j,a with
 | .mk l m n,.mk c d e o f,a=>((f68 k (aag.mk l m n) a).bind fun q_=>match q_ with | (.mk g h b,p)=>(cond (!p) (ahy k F c d e f a g h b true) (cond (o != 0) (ahy k F c d e f a g h b (!b)) (ahy k F c d e f a g h b false))))
def ahF (k:Nat) (F:ahn) (d:Int):LE→Nat→Int→Int→Bool→Option (aag × Bool)
 | [],e,a,b,c=>(some ((aag.mk a b c),true))
 | (.mk i j l m n) :: o,e,a,b,c=>((F.f47 (aag.mk a b c) (aah.mk i j l m n) d).bind fun q_=>match q_ with | (.mk f g h,p)=>(cond (!p) (some ((aag.mk f g h),false)) ((ahF k F d o) (e + 1) f g h)))
def awd (k:Nat) (F:ahn):aag→LE→Int→Option (aag × Bool):=fun c a b =>
 match c,a,b with
 | .mk d e f,a,b=>(ahF k F b a 0 d e f)
def aga (k0:Nat):Nat→ahn
 | 0=>{ f47:=fun _ _ _=>none,f72:=fun _ _ _=>none }
 | k + 1=>{ f47:=ap0 k0 (aga k0 k),f72:=awd k0 (aga k0 k) }
def f47 (k:Nat):aag→aah→Int→Option (aag × Bool):=(aga k k).f47
def f72 (k:Nat):aag→LE→Int→Option (aag × Bool):=(aga k k).f72
structure ac5 where
 f119:aag→LS→Int→Option (aag × Bool)
 f136:aag→aaf→Int→Option (aag × Bool)
 f150:aag→aaB→Int→Option (aag × Bool)
def afo (k:Nat) (F:ac5) (d:Int):LS→Nat→Int→Int→Bool→Option (aag × Bool)
 | [],e,a,b,c=>(some ((aag.mk a b c),true))
 | (.mk i j l m n o p q r s t) :: u,e,a,b,c=>((F.f136 (aag.mk a b c) (aaf.mk i j l m n o p q r s t) d).bind fun q_=>match q_ with | (.mk f g h,v)=>(cond (!v) (some ((aag.mk f g h),false)) ((afo k F d u) (e + 1) f g h)))
def arg (k:Nat) (F:ac5):aag→LS→Int→Option (aag × Bool):=fun c a b =>
 match c,a,b with
 | .mk d e f,a,b=>(afo k F b a 0 d e f)
def ag5 (k:Nat) (F:ac5) (a:Bool) (b:Int) (c:Int) (d:Bool):Option (aag × Bool):=(some ((aag.mk b c d),a))
def agS (k:Nat) (F:ac5) (d:Nat) (a:Int) (b:Int) (c:Bool) (e:Bool) (nx1:Nat→Int→Int→Bool→Option (aag × Bool)):Option (aag × Bool):=(cond e (some ((aag.mk a b c),false)) (nx1 (d + 1) a b c))
def acJ (k:Nat) (F:ac5) (f:LE) (g:LS) (h:LS) (i:LS) (j:LC) (a:Int):LC→Nat→Int→Int→Bool→Option (aag × Bool)
 | [],b,c,d,e=>((f72 k (aag.mk c d e) f (w64 (a + 1))).bind fun q_=>match q_ with | (.mk n o p,A)=>(cond A ((F.f119 (aag.mk n o p) g (w64 (a + 1))).bind fun q_=>match q_ with | (.mk q r s,B)=>(cond B ((F.f119 (aag.mk q r s) h (w64 (a + 1))).bind fun q_=>match q_ with | (.mk t u v,C)=>(cond C ((F.f119 (aag.mk t u v) i (w64 (a + 1))).bind fun q_=>match q_ with | (.mk D G I,J)=>(ag5 k F J D G I)) (ag5 k F false t u v))) (ag5 k F false q r s))) (ag5 k F false n o p)))
 | (.mk l w x y z) :: m,b,c,d,e=>(cond (l == 4) (cond (decide ((b:Int) < (w64 ((j.length:Int) - 1)))) (agS k F b c d e true (acJ k F f g h i j a m)) ((F.f150 (aag.mk c d e) (aaB.mk l w x y z) (w64 (a + 1))).bind fun q_=>match q_ with | (.mk N O S,U)=>(agS k F b N O S (!U) (acJ k F f g h i j a m)))) ((F.f150 (aag.mk c d e) (aaB.mk l w x y z) (w64 (a + 1))).bind fun q_=>match q_ with | (.mk V W X,Y)=>(agS k F b V W X (!Y) (acJ k F f g h i j a m))))
def acN (k:Nat) (F:ac5) (e:LE) (f:LS) (g:LS) (h:LS) (a:LC) (i:Int) (b:Int) (c:Int) (d:Bool) (j:Bool):Option (aag × Bool):=(cond j (some ((aag.mk b c d),false)) (acJ k F e f g h a i a 0 b c d))
def abU (k:Nat) (F:ac5) (j:Int) (b:LE) (c:LS) (g:LS) (h:LS) (a:LC) (i:Int) (l:Int) (m:Int) (n:Bool) (d:Int) (e:Int) (f:Bool) (o:Bool):Option (aag × Bool):=(cond o (some ((aag.mk d e f),false)) ((f69 k (b.length:Int) l m).bind fun p=>(cond (!p) (acN k F b c g h a i d e f true) (cond (!n) (cond (decide ((c.length:Int) > 0)) (acN k F b c g h a i d e f true) (cond (j != 27) (cond (decide ((a.length:Int) > 0)) (acN k F b c g h a i d e f true) (cond (j == 27) ((f69 k (a.length:Int) 1 4).bind fun q=>(acN k F b c g h a i d e f (!q))) (acN k F b c g h a i d e f false))) (cond (j == 27) ((f69 k (a.length:Int) 1 4).bind fun r=>(acN k F b c g h a i d e f (!r))) (acN k F b c g h a i d e f false)))) (cond (j != 27) (cond (decide ((a.length:Int) > 0)) (acN k F b c g h a i d e f true) (cond (j == 27) ((f69 k (a.length:Int) 1 4).bind fun s=>(acN k F b c g h a i d e f (!s))) (acN k F b c g h a i d e f false))) (cond (j == 27) ((f69 k (a.length:Int) 1 4).bind fun t=>(acN k F b c g h a i d e f (!t))) (acN k F b c g h a i d e f false)))))))
def adH (k:Nat) (F:ac5) (d:Int) (q:BA) (o:BA) (e:LE) (f:LS) (g:LS) (h:LS) (i:LC) (j:Int) (r:Int) (p:Bool) (l:Int) (m:Int) (n:Bool) (a:Int) (b:Int) (c:Bool) (s:Bool):Option (aag × Bool):=(cond s (some ((aag.mk a b c),false)) (cond (!seq q ⟨#[]⟩) (cond (r == 0) (abU k F d e f g h i j l m n a b c true) ((f71 k q).bind fun t=>(cond (!t) (abU k F d e f g h i j l m n a b c true) (cond (!(!seq q ⟨#[]⟩)) (cond (r == 1) (abU k F d e f g h i j l m n a b c true) (cond (!((!seq o ⟨#[]⟩) == p)) (abU k F d e f g h i j l m n a b c true) (cond p ((f71 k o).bind fun u=>(abU k F d e f g h i j l m n a b c (!u))) (abU k F d e f g h i j l m n a b c false)))) (cond (!((!seq o ⟨#[]⟩) == p)) (abU k F d e f g h i j l m n a b c true) (cond p ((f71 k o).bind fun v=>(abU k F d e f g h i j l m n a b c (!v))) (abU k F d e f g h i j l m n a b c false))))))) (cond (!(!seq q ⟨#[]⟩)) (cond (r == 1) (abU k F d e f g h i j l m n a b c true) (cond (!((!seq o ⟨#[]⟩) == p)) (abU k F d e f g h i j l m n a b c true) (cond p ((f71 k o).bind fun w=>(abU k F d e f g h i j l m n a b c (!w))) (abU k F d e f g h i j l m n a b c false)))) (cond (!((!seq o ⟨#[]⟩) == p)) (abU k F d e f g h i j l m n a b c true) (cond p ((f71 k o).bind fun x=>(abU k F d e f g h i j l m n a b c (!x))) (abU k F d e f g h i j l m n a b c false))))))
def af5 (k:Nat) (F:ac5) (v:Int) (w:Int) (x:Bool) (a:Int) (b:BA) (s:Int) (c:BA) (t:Int) (u:Int) (d:LE) (e:LS) (f:LS) (g:LS) (h:LC) (i:Int) (l:Int) (m:Bool) (n:Int) (o:Int) (p:Bool) (y:Bool):Option (aag × Bool):=(cond (!y) (adH k F a b c d e f g h i l m n o p v w x true) ((f68 k (aag.mk v w x) i).bind fun q_=>match q_ with | (.mk q r j,z)=>(cond (!z) (adH k F a b c d e f g h i l m n o p q r j true) (cond (s != 0) (cond (!j) (adH k F a b c d e f g h i l m n o p q r j true) ((f149 k (aaf.mk a b s c t u d e f g h)).bind fun A=>(adH k F a b c d e f g h i l m n o p q r j (!A)))) (cond (t != 0) (cond (!j) (adH k F a b c d e f g h i l m n o p q r j true) ((f149 k (aaf.mk a b s c t u d e f g h)).bind fun B=>(adH k F a b c d e f g h i l m n o p q r j (!B)))) ((f149 k (aaf.mk a b s c t u d e f g h)).bind fun C=>(adH k F a b c d e f g h i l m n o p q r j (!C))))))))
def amC (k:Nat) (F:ac5):aag→aaf→Int→Option (aag × Bool):=fun q r a =>
 match q,r,a with
 | .mk c d e,.mk b f g h i j l m n o p,a=>((f148 k ).bind fun s=>(afN (mget qI b s) (af5 k F c d e b f g h i j l m n o p a 0 false 0 0 false false) (fun q_=>match q_ with | .mk t u v w x=>(af5 k F c d e b f g h i j l m n o p a t u v w x true))))
def ak0 (k:Nat) (F:ac5) (a:Bool) (b:Int) (c:Int) (d:Bool):Option (aag × Bool):=(some ((aag.mk b c d),a))
def acT (k:Nat) (F:ac5) (h:LE) (i:LS) (a:Int) (b:Int) (c:Int) (d:Bool) (j:Bool):Option (aag × Bool):=(cond j (some ((aag.mk b c d),false)) ((f72 k (aag.mk b c d) h (w64 (a + 1))).bind fun q_=>match q_ with | (.mk e f g,l)=>(cond l ((F.f119 (aag.mk e f g) i (w64 (a + 1))).bind fun q_=>match q_ with | (.mk m n o,p)=>(ak0 k F p m n o)) (ak0 k F false e f g))))
def ajP (k:Nat) (F:ac5):aag→aaB→Int→Option (aag × Bool):=fun n o a =>
 match n,o,a with
 | .mk i j l,.mk h g p b d,a=>(afN (mget qI h (mput qI 4 0 (mput qI 3 1 (mput qI 2 2 (mput qI 1 1 ([]:List (Int × Int))))))) (some ((aag.mk i j l),false)) (fun m=>((f68 k (aag.mk i j l) a).bind fun q_=>match q_ with | (.mk e f c,q)=>(cond (!q) (acT k F b d a e f c true) (cond (p != 0) (cond (!c) (acT k F b d a e f c true) (cond ((b.length:Int) != m) (acT k F b d a e f c true) (cond (!((!seq g ⟨#[]⟩) == (h == 1))) (acT k F b d a e f c true) (cond (!seq g ⟨#[]⟩) ((f71 k g).bind fun r=>(acT k F b d a e f c (!r))) (acT k F b d a e f c false))))) (cond ((b.length:Int) != m) (acT k F b d a e f c true) (cond (!((!seq g ⟨#[]⟩) == (h == 1))) (acT k F b d a e f c true) (cond (!seq g ⟨#[]⟩) ((f71 k g).bind fun s=>(acT k F b d a e f c (!s))) (acT k F b d a e f c false)))))))))
def acn (k0:Nat):Nat→ac5
 | 0=>{ f119:=fun _ _ _=>none,f136:=fun _ _ _=>none,f150:=fun _ _ _=>none }
 | k + 1=>{ f119:=arg k0 (acn k0 k),f136:=amC k0 (acn k0 k),f150:=ajP k0 (acn k0 k) }
def f119 (k:Nat):aag→LS→Int→Option (aag × Bool):=(acn k k).f119
def f136 (k:Nat):aag→aaf→Int→Option (aag × Bool):=(acn k k).f136
def f150 (k:Nat):aag→aaB→Int→Option (aag × Bool):=(acn k k).f150
def amf (k:Nat) (a:Int) (b:Int) (c:Bool) (d:Nat) (e:Bool) (nx2:Nat→Option (aag × Bool)):Option (aag × Bool):=(cond e (some ((aag.mk a b c),false)) (nx2 (d + 1)))
def adX (k:Nat) (d:Nat) (e:LS) (a:Int) (b:Int) (c:Bool) (nx1:Nat→Int→Int→Bool→Option (aag × Bool)):LP→Nat→Option (aag × Bool)
 | [],f=>((f119 k (aag.mk a b c) e 1).bind fun q_=>match q_ with | (.mk g h i,l)=>(cond (!l) (some ((aag.mk g h i),false)) (nx1 (d + 1) g h i)))
 | (.mk m n) :: j,f=>((f71 k m).bind fun o=>(cond (!o) (amf k a b c f true (adX k d e a b c nx1 j)) ((f69 k n 1 6).bind fun p=>(amf k a b c f (!p) (adX k d e a b c nx1 j)))))
def adZ (k:Nat) (d:Nat) (e:LP) (f:LS) (a:Int) (b:Int) (c:Bool) (g:Bool) (nx1:Nat→Int→Int→Bool→Option (aag × Bool)):Option (aag × Bool):=(cond g (some ((aag.mk a b c),false)) (adX k d f a b c nx1 e 0))
def acF (k:Nat)  : LF→Nat→Int→Int→Bool→Option (aag × Bool)
 | [],a,i,j,l=>(some ((aag.mk i j l),true))
 | (.mk n b h m o d) :: e,a,i,j,l=>((f68 k (aag.mk i j l) 0).bind fun q_=>match q_ with | (.mk f g c,p)=>(cond (!p) (adZ k a b d f g c true (acF k e)) ((f71 k n).bind fun q=>(cond (!q) (adZ k a b d f g c true (acF k e)) (cond (decide ((b.length:Int) > 4)) (adZ k a b d f g c true (acF k e)) (cond (o != 0) (cond (!c) (adZ k a b d f g c true (acF k e)) (cond m (cond (h != 0) (adZ k a b d f g c true (acF k e)) ((f69 k h 0 6).bind fun r=>(adZ k a b d f g c (!r) (acF k e)))) ((f69 k h 0 6).bind fun s=>(adZ k a b d f g c (!s) (acF k e))))) (cond m (cond (h != 0) (adZ k a b d f g c true (acF k e)) ((f69 k h 0 6).bind fun t=>(adZ k a b d f g c (!t) (acF k e)))) ((f69 k h 0 6).bind fun u=>(adZ k a b d f g c (!u) (acF k e))))))))))
def arl (k:Nat):aag→aaa→Option (aag × Bool):=fun e f =>
 match e,f with
 | .mk a b c,.mk d=>((f69 k (d.length:Int) 1 16).bind fun g=>(cond (!g) (some ((aag.mk a b c),false)) (acF k d 0 a b c)))
def f99 (k:Nat):aag→aaa→Option (aag × Bool):=arl k
def arX (k:Nat):aaa→Bool→Option Bool:=fun b a =>
 match b,a with
 | .mk c,a=>((f99 k (aag.mk 0 0 a) (aaa.mk c)).bind fun q_=>match q_ with | (.mk e f g,d)=>(some d))
def f78 (k:Nat):aaa→Bool→Option Bool:=arX k
def f100 (k:Nat):LP→Option LP:=fun a=>aaT (decide (a.length * 24 ≤ 140737488355328)) (some a)
def an1 (k:Nat):aah→Option Int:=fun a =>
 match a with
 | .mk b c d e f=>(some 0)
def f120 (k:Nat):aah→Option Int:=an1 k
structure adC where
 f1012227:LE→Option LE
 f1013727:aah→Option aah
def aca (k:Nat) (F:adC)  : LE→Nat→LE→Option LE
 | [],b,a=>(some a)
 | (.mk c d e f g) :: h,b,a=>((F.f1013727 (aah.mk c d e f g)).bind fun q_=>match q_ with | .mk i j l m n=>(aaT (decide ((a.length + 1) * 64 ≤ 140737488355328)) ((aca k F h) (b + 1) (a ++ [(aah.mk i j l m n)]))))
def ahj (k:Nat) (F:adC):LE→Option LE:=fun a=>(aca k F a 0 ([]:LE))
def aef (k:Nat) (F:adC):aah→Option aah:=fun e =>
 match e with
 | .mk a b c f g=>((F.f1012227 g).bind fun d=>((f120 k (aah.mk a b c f d)).bind fun h=>(some (aah.mk a b c h d))))
def abG (k0:Nat):Nat→adC
 | 0=>{ f1012227:=fun _=>none,f1013727:=fun _=>none }
 | k + 1=>{ f1012227:=ahj k0 (abG k0 k),f1013727:=aef k0 (abG k0 k) }
def f1012227 (k:Nat):LE→Option LE:=(abG k k).f1012227
def f1013727 (k:Nat):aah→Option aah:=(abG k k).f1013727
def arb (k:Nat):aah→Option Int:=fun a =>
 match a with
 | .mk c d e b f=>(some b)
def f121 (k:Nat):aah→Option Int:=arb k
structure adB where
 f1012258:LE→Option LE
 f1013758:aah→Option aah
def adF (k:Nat) (F:adB)  : LE→Nat→LE→Option LE
 | [],b,a=>(some a)
 | (.mk c d e f g) :: h,b,a=>((F.f1013758 (aah.mk c d e f g)).bind fun q_=>match q_ with | .mk i j l m n=>(aaT (decide ((a.length + 1) * 64 ≤ 140737488355328)) ((adF k F h) (b + 1) (a ++ [(aah.mk i j l m n)]))))
def ahf (k:Nat) (F:adB):LE→Option LE:=fun a=>(adF k F a 0 ([]:LE))
def agZ (k:Nat) (F:adB):aah→Option aah:=fun e =>
 match e with
 | .mk a b c f g=>((F.f1012258 g).bind fun d=>((f121 k (aah.mk a b c f d)).bind fun h=>(some (aah.mk a b c h d))))
def acU (k0:Nat):Nat→adB
 | 0=>{ f1012258:=fun _=>none,f1013758:=fun _=>none }
 | k + 1=>{ f1012258:=ahf k0 (acU k0 k),f1013758:=agZ k0 (acU k0 k) }
def f1012258 (k:Nat):LE→Option LE:=(acU k k).f1012258
def f1013758 (k:Nat):aah→Option aah:=(acU k k).f1013758
structure ae4 where
 f101:LS→Bool→Option LS
def akD (k:Nat) (F:ae4) (b:Bool) (a:LC) (c:Nat) (d:Int) (e:BA) (f:LE) (g:LS) (h:Int) (nx2:Nat→LC→Option LS):Option LS:=((f1012258 k f).bind fun i=>((F.f101 g b).bind fun j=>(aaT (decide ((a.length + 1) * 80 ≤ 140737488355328)) (nx2 (c + 1) (a ++ [(aaB.mk d e h i j)])))))
def agd (k:Nat) (F:ae4) (a:Bool) (b:LS) (d:Nat) (e:Int) (f:BA) (g:BA) (h:Int) (i:Int) (j:Int) (l:LE) (m:LS) (n:LS) (o:LS) (nx1:Nat→LS→Option LS):LC→Nat→LC→Option LS
 | [],p,c=>(aaT (decide ((b.length + 1) * 184 ≤ 140737488355328)) (nx1 (d + 1) (b ++ [(aaf.mk e f i g j h l m n o c)])))
 | (.mk q r v s t) :: u,p,c=>(cond (!a) (akD k F a c p q r s t 0 (agd k F a b d e f g h i j l m n o nx1 u)) (akD k F a c p q r s t v (agd k F a b d e f g h i j l m n o nx1 u)))
def ak8 (k:Nat) (F:ae4) (a:Bool) (b:LS) (c:Nat) (d:Int) (e:BA) (f:BA) (g:Int) (h:LE) (i:LS) (j:LS) (l:LS) (m:LC) (n:Int) (o:Int) (nx1:Nat→LS→Option LS):Option LS:=((f1012258 k h).bind fun p=>((F.f101 i a).bind fun q=>((F.f101 j a).bind fun r=>((F.f101 l a).bind fun s=>(agd k F a b c d e f g n o p q r s nx1 m 0 ([]:LC))))))
def aey (k:Nat) (F:ae4) (a:Bool):LS→Nat→LS→Option LS
 | [],c,b=>(some b)
 | (.mk d e o f p g h i j l m) :: n,c,b=>(cond (!a) (ak8 k F a b c d e f g h i j l m 0 0 (aey k F a n)) (ak8 k F a b c d e f g h i j l m o p (aey k F a n)))
def aij (k:Nat) (F:ae4) (b:Bool) (a:LC) (c:Nat) (d:Int) (e:BA) (f:LE) (g:LS) (h:Int) (nx4:Nat→LC→Option LS):Option LS:=((f1012227 k f).bind fun i=>((F.f101 g b).bind fun j=>(aaT (decide ((a.length + 1) * 80 ≤ 140737488355328)) (nx4 (c + 1) (a ++ [(aaB.mk d e h i j)])))))
def ad7 (k:Nat) (F:ae4) (a:Bool) (b:LS) (d:Nat) (e:Int) (f:BA) (g:BA) (h:Int) (i:Int) (j:Int) (l:LE) (m:LS) (n:LS) (o:LS) (nx3:Nat→LS→Option LS):LC→Nat→LC→Option LS
 | [],p,c=>(aaT (decide ((b.length + 1) * 184 ≤ 140737488355328)) (nx3 (d + 1) (b ++ [(aaf.mk e f i g j h l m n o c)])))
 | (.mk q r v s t) :: u,p,c=>(cond (!a) (aij k F a c p q r s t 0 (ad7 k F a b d e f g h i j l m n o nx3 u)) (aij k F a c p q r s t v (ad7 k F a b d e f g h i j l m n o nx3 u)))
def aiu (k:Nat) (F:ae4) (a:Bool) (b:LS) (c:Nat) (d:Int) (e:BA) (f:BA) (g:Int) (h:LE) (i:LS) (j:LS) (l:LS) (m:LC) (n:Int) (o:Int) (nx3:Nat→LS→Option LS):Option LS:=((f1012227 k h).bind fun p=>((F.f101 i a).bind fun q=>((F.f101 j a).bind fun r=>((F.f101 l a).bind fun s=>(ad7 k F a b c d e f g n o p q r s nx3 m 0 ([]:LC))))))
def adc (k:Nat) (F:ae4) (a:Bool):LS→Nat→LS→Option LS
 | [],c,b=>(some b)
 | (.mk d e o f p g h i j l m) :: n,c,b=>(cond (!a) (aiu k F a b c d e f g h i j l m 0 0 (adc k F a n)) (aiu k F a b c d e f g h i j l m o p (adc k F a n)))
def api (k:Nat) (F:ae4):LS→Bool→Option LS:=fun b a=>(cond a (aey k F a b 0 ([]:LS)) (adc k F a b 0 ([]:LS)))
def ahE (k0:Nat):Nat→ae4
 | 0=>{ f101:=fun _ _=>none }
 | k + 1=>{ f101:=api k0 (ahE k0 k) }
def f101 (k:Nat):LS→Bool→Option LS:=(ahE k k).f101
def amk (k:Nat) (b:Bool) (a:LF) (c:Nat) (d:BA) (e:LP) (f:Int) (g:Bool) (h:LS) (i:Int) (nx1:Nat→LF→Option aaa):Option aaa:=((f100 k e).bind fun j=>((f101 k h b).bind fun l=>(aaT (decide ((a.length + 1) * 88 ≤ 140737488355328)) (nx1 (c + 1) (a ++ [(aae.mk d j f g i l)])))))
def aeZ (k:Nat) (a:Bool):LF→Nat→LF→Option aaa
 | [],c,b=>(some (aaa.mk b))
 | (.mk d e f g j h) :: i,c,b=>(cond (!a) (amk k a b c d e f g h 0 (aeZ k a i)) (amk k a b c d e f g h j (aeZ k a i)))
def avJ (k:Nat):aaa→Bool→Option aaa:=fun b a =>
 match b,a with
 | .mk c,a=>(aeZ k a c 0 ([]:LF))
def f79 (k:Nat):aaa→Bool→Option aaa:=avJ k
def as8 (k:Nat):aaa→Option (Except Int aaa):=fun b =>
 match b with
 | .mk a=>((f78 k (aaa.mk a) true).bind fun c=>((f77 k c 2).bind fun q_=>match q_ with | .error c_=>some (.error c_) | .ok _=>((f79 k (aaa.mk a) false).bind fun q_=>match q_ with | .mk d=>(some (.ok (aaa.mk d))))))
def f54 (k:Nat):aaa→Option (Except Int aaa):=as8 k
def afs (k:Nat):aaa→aaa→Option (Except Int (aaa × aaa)):=fun b c =>
 match b,c with
 | .mk a,.mk sA_0=>((f54 k (aaa.mk a)).bind fun q_=>match q_ with | .error c_=>some (.error c_) | .ok (.mk d)=>(some (.ok ((aaa.mk a),(aaa.mk d)))))
def ahW (k:Nat):aaa→aaa→Option (Except Int (aaa × aaa)):=afs k
def ah2 (k:Nat):aaa→aaa→Option (aaa × aaa × Int):=fun a b=>match ahW k a b with
 | none=>none
 | some (.ok (y0,y1))=>some (y0,y1,0)
 | some (.error c)=>some (a,b,c)
def asj (k:Nat):aaa→Option (aaa × Int):=fun a =>
 match a with
 | .mk b=>((ah2 k (aaa.mk b) (aaa.mk [])).bind fun q_=>match q_ with | (.mk e,.mk c,d)=>(some ((aaa.mk c),d)))
def f34 (k:Nat):aaa→Option (aaa × Int):=asj k
def afy (k:Nat):aae→aae→Option Bool:=fun a b =>
 match a,b with
 | .mk c e f g h i,.mk d j l m n o=>(some (seq d c))
def alH (k:Nat):aae→aae→Option Bool:=afy k
def acQ (k:Nat) (b:BA) (c:LP) (d:Int) (e:Bool) (f:Int) (g:LS):LF→Nat→Option Int
 | [],a=>(some (-1))
 | (.mk h i j l m n) :: o,a=>((alH k (aae.mk h i j l m n) (aae.mk b c d e f g)).bind fun p=>(cond p (some (a:Int)) ((acQ k b c d e f g o) (a + 1))))
def afr (k:Nat):LF→aae→Option Int:=fun a b =>
 match a,b with
 | a,.mk c d e f g h=>(acQ k c d e f g h a 0)
def alf (k:Nat):LF→aae→Option Int:=afr k
def afv (k:Nat):LF→aae→Option Bool:=fun a b =>
 match a,b with
 | a,.mk c d e f g h=>((alf k a (aae.mk c d e f g h)).bind fun i=>(some (decide (i ≥ 0))))
def agH (k:Nat):LF→aae→Option Bool:=afv k
def af6 (k:Nat) (a:BA):LM→Nat→Option (Int × Bool)
 | [],b=>(some (0,false))
 | c :: d,b=>(afN (mget seq a c) ((af6 k a d) (b + 1)) (fun e=>(some (e,true))))
def aqi (k:Nat):aad→BA→Option (Int × Bool):=fun b a =>
 match b,a with
 | .mk (.mk d) (.mk e f g h i j) l c m,a=>(af6 k a c 0)
def f123 (k:Nat):aad→BA→Option (Int × Bool):=aqi k
def aop (k:Nat):aad→BA→Option (Except Int (aad × Int)):=fun m a =>
 match m,a with
 | .mk (.mk d) (.mk e f g h i j) b c l,a=>((f123 k (aad.mk (aaa.mk d) (aae.mk e f g h i j) b c l) a).bind fun q_=>match q_ with | (p,n)=>((f77 k (!n) 21).bind fun q_=>match q_ with | .error c_=>some (.error c_) | .ok _=>(aaT (decide ((b.length + 1) * 16 ≤ 140737488355328)) ((idxO c (w64 ((c.length:Int) - 1))).bind fun o=>(some (.ok ((aad.mk (aaa.mk d) (aae.mk e f g h i j) (b ++ [a]) (c.set (w64 ((c.length:Int) - 1)).toNat (mput seq a (b.length:Int) o)) l),(b.length:Int))))))))
def f104 (k:Nat):aad→BA→Option (Except Int (aad × Int)):=aop k
def afM (k:Nat):aah→aad→Option (Except Int Int):=fun a b =>
 match a,b with
 | .mk c r d s t,.mk (.mk e) (.mk f g h i j l) m n o=>(cond (c != 4) (some (.ok 0)) ((f123 k (aad.mk (aaa.mk e) (aae.mk f g h i j l) m n o) d).bind fun q_=>match q_ with | (p,q)=>((f77 k q 20).bind fun q_=>match q_ with | .error c_=>some (.error c_) | .ok _=>(some (.ok p)))))
def alm (k:Nat):aah→aad→Option (Except Int Int):=afM k
structure adD where
 f1012222:LE→aad→Option (Except Int LE)
 f1013722:aah→aad→Option (Except Int aah)
def ab4 (k:Nat) (F:adD) (b:LF) (c:BA) (d:LP) (e:Int) (f:Bool) (g:Int) (h:LS) (i:LB) (j:LM) (l:Int):LE→Nat→LE→Option (Except Int LE)
 | [],m,a=>(some (.ok a))
 | (.mk n o p q r) :: s,m,a=>((F.f1013722 (aah.mk n o p q r) (aad.mk (aaa.mk b) (aae.mk c d e f g h) i j l)).bind fun q_=>match q_ with | .error c_=>some (.error c_) | .ok (.mk t u v w x)=>(aaT (decide ((a.length + 1) * 64 ≤ 140737488355328)) ((ab4 k F b c d e f g h i j l s) (m + 1) (a ++ [(aah.mk t u v w x)]))))
def agQ (k:Nat) (F:adD):LE→aad→Option (Except Int LE):=fun a b =>
 match a,b with
 | a,.mk (.mk c) (.mk d e f g h i) j l m=>(ab4 k F c d e f g h i j l m a 0 ([]:LE))
def aev (k:Nat) (F:adD):aah→aad→Option (Except Int aah):=fun p q =>
 match p,q with
 | .mk a b c r s,.mk (.mk d) (.mk e f g h i j) l m n=>((F.f1012222 s (aad.mk (aaa.mk d) (aae.mk e f g h i j) l m n)).bind fun q_=>match q_ with | .error c_=>some (.error c_) | .ok o=>((alm k (aah.mk a b c r o) (aad.mk (aaa.mk d) (aae.mk e f g h i j) l m n)).bind fun q_=>match q_ with | .error c_=>some (.error c_) | .ok t=>(some (.ok (aah.mk a b c t o)))))
def abF (k0:Nat):Nat→adD
 | 0=>{ f1012222:=fun _ _=>none,f1013722:=fun _ _=>none }
 | k + 1=>{ f1012222:=agQ k0 (abF k0 k),f1013722:=aev k0 (abF k0 k) }
def f1012222 (k:Nat):LE→aad→Option (Except Int LE):=(abF k k).f1012222
def f1013722 (k:Nat):aah→aad→Option (Except Int aah):=(abF k k).f1013722
def aom (k:Nat):aad→LE→Option (Except Int LE):=fun b a =>
 match b,a with
 | .mk (.mk c) (.mk d e f g h i) j l m,a=>((f1012222 k a (aad.mk (aaa.mk c) (aae.mk d e f g h i) j l m)).bind fun q_=>match q_ with | .error c_=>some (.error c_) | .ok n=>(some (.ok n)))
def f124 (k:Nat):aad→LE→Option (Except Int LE):=aom k
def afL (k:Nat):aae→aaf→Option Bool:=fun a b =>
 match a,b with
 | .mk c e f g h i,.mk j l m d n o p q r s t=>(some (seq c d))
def akK (k:Nat):aae→aaf→Option Bool:=afL k
def acR (k:Nat) (b:Int) (c:BA) (d:Int) (e:BA) (f:Int) (g:Int) (h:LE) (i:LS) (j:LS) (l:LS) (m:LC):LF→Nat→Option Int
 | [],a=>(some (-1))
 | (.mk n o p q r s) :: t,a=>((akK k (aae.mk n o p q r s) (aaf.mk b c d e f g h i j l m)).bind fun u=>(cond u (some (a:Int)) ((acR k b c d e f g h i j l m t) (a + 1))))
def afG (k:Nat):LF→aaf→Option Int:=fun a b =>
 match a,b with
 | a,.mk c d e f g h i j l m n=>(acR k c d e f g h i j l m n a 0)
def alo (k:Nat):LF→aaf→Option Int:=afG k
def aob (k:Nat):aad→aaf→Option (Except Int (aad × aaf)):=fun c d =>
 match c,d with
 | .mk (.mk a) (.mk e f g h i j) l m n,.mk sA_0 sA_1 sA_2 sA_3 sA_4 sA_5 sA_6 sA_7 sA_8 sA_9 sA_10=>((alo k a (aaf.mk sA_0 sA_1 sA_2 sA_3 sA_4 sA_5 sA_6 sA_7 sA_8 sA_9 sA_10)).bind fun b=>((f77 k (decide (b ≥ 0)) 20).bind fun q_=>match q_ with | .error c_=>some (.error c_) | .ok _=>((idxO a b).bind fun q_=>match q_ with | .mk q o r p s t=>((f77 k (p == (sA_0 == 28)) 25).bind fun q_=>match q_ with | .error c_=>some (.error c_) | .ok _=>((f77 k ((o.length:Int) == (sA_6.length:Int)) 24).bind fun q_=>match q_ with | .error c_=>some (.error c_) | .ok _=>(some (.ok ((aad.mk (aaa.mk a) (aae.mk e f g h i j) l m n),(aaf.mk sA_0 sA_1 sA_2 sA_3 b sA_5 sA_6 sA_7 sA_8 sA_9 sA_10)))))))))
def f126 (k:Nat):aad→aaf→Option (Except Int (aad × aaf)):=aob k
structure acr where
 f105:aad→aaf→Option (Except Int (aad × aaf))
 f1012528:aad→BA→LS→aaB→Option (Except Int (aad × aaB × LS))
 f1012531:aad→BA→LS→aaf→Option (Except Int (aad × aaf × LS))
 f1012566:aad→BA→LS→Option (Except Int (aad × LS))
 f1012731:aad→BA→LS→aaf→Option (Except Int (aad × aaf × LS))
 f1012766:aad→BA→LS→Option (Except Int (aad × LS))
def afm (k:Nat) (F:acr) (m:Int) (n:BA) (o:Int) (p:BA) (q:Int) (r:Int) (s:LS) (t:LS) (u:LS) (v:LE):LC→Nat→LF→BA→LP→Int→Bool→Int→LS→LB→LM→Int→LC→Option (Except Int (aad × aaf))
 | [],w,a,b,c,d,e,f,g,h,i,j,l=>(some (.ok ((aad.mk (aaa.mk a) (aae.mk b c d e f g) h i j),(aaf.mk m n o p q r v s t u l))))
 | (.mk z x A B y) :: C,w,a,b,c,d,e,f,g,h,i,j,l=>((f124 k (aad.mk (aaa.mk a) (aae.mk b c d e f g) h i j) B).bind fun q_=>match q_ with | .error c_=>some (.error c_) | .ok D=>((F.f1012528 (aad.mk (aaa.mk a) (aae.mk b c d e f g) h i j) x y (aaB.mk z x A D y)).bind fun q_=>match q_ with | .error c_=>some (.error c_) | .ok (.mk (.mk G) (.mk I J N O S U) V W X,.mk Y Z ab ac ae,ad)=>(aaT (decide ((l.length + 1) * 80 ≤ 140737488355328)) ((afm k F m n o p q r s t u v C) (w + 1) G I J N O S U V W X (l ++ [(aaB.mk Y Z ab ac ad)])))))
def acX (k:Nat) (F:acr) (a:Int) (b:BA) (c:Int) (d:BA) (e:Int) (f:Int) (g:LE) (h:LS) (i:LS) (j:LS) (l:LC) (m:LF) (n:BA) (o:LP) (p:Int) (q:Bool) (r:Int) (s:LS) (t:LB) (u:LM) (v:Int):Option (Except Int (aad × aaf)):=(some (.ok ((aad.mk (aaa.mk m) (aae.mk n o p q r s) t u v),(aaf.mk a b c d e f g h i j l))))
def ahg (k:Nat) (F:acr) (a:Int) (d:BA) (e:BA) (f:Int) (b:Int) (g:LE) (h:LS) (i:LS) (j:LS) (l:LC) (m:LF) (n:BA) (o:LP) (p:Int) (q:Bool) (r:Int) (s:LS) (t:LB) (u:LM) (c:Int) (v:Int):Option (Except Int (aad × aaf)):=(cond (a != 6) ((f77 k true 22).bind fun q_=>match q_ with | .error c_=>some (.error c_) | .ok _=>(acX k F a d v e f b g h i j l m n o p q r s t u c)) (cond (b == 0) ((f77 k true 22).bind fun q_=>match q_ with | .error c_=>some (.error c_) | .ok _=>(acX k F a d v e f b g h i j l m n o p q r s t u c)) ((f77 k (decide (c > 0)) 22).bind fun q_=>match q_ with | .error c_=>some (.error c_) | .ok _=>(acX k F a d v e f b g h i j l m n o p q r s t u c))))
def afi (k:Nat) (F:acr) (b:LF) (c:BA) (d:LP) (e:Int) (f:Bool) (g:Int) (h:LS) (i:LB) (j:LM) (l:Int) (m:Int) (a:BA) (v:Int) (n:BA) (o:Int) (p:Int) (q:LE) (r:LS) (s:LS) (t:LS) (u:LC) (w:Bool):Option (Except Int (aad × aaf)):=(cond w ((F.f1012566 (aad.mk (aaa.mk b) (aae.mk c d e f g h) i j l) ⟨#[]⟩ r).bind fun q_=>match q_ with | .error c_=>some (.error c_) | .ok (.mk (.mk x) (.mk y z A B C D) G I J,N)=>((F.f1012566 (aad.mk (aaa.mk x) (aae.mk y z A B C D) G I J) ⟨#[]⟩ s).bind fun q_=>match q_ with | .error c_=>some (.error c_) | .ok (.mk (.mk O) (.mk S U V W X Y) Z ab ac,ad)=>(acX k F m a v n o p q N ad t u O S U V W X Y Z ab ac))) (cond (!seq a ⟨#[]⟩) ((f104 k (aad.mk (aaa.mk b) (aae.mk c d e f g h) i j l) a).bind fun q_=>match q_ with | .error c_=>some (.error c_) | .ok (.mk (.mk ae) (.mk af ag ah ai aj ak) al am an,ao)=>(ahg k F m a n o p q r s t u ae af ag ah ai aj ak al am an ao)) (ahg k F m a n o p q r s t u b c d e f g h i j l v)))
def aho (k:Nat) (F:acr) (i:LF) (j:BA) (l:LP) (d:Int) (e:Bool) (m:Int) (n:LS) (o:LB) (p:LM) (f:Int) (a:Int) (b:BA) (q:Int) (r:BA) (s:Int) (t:Int) (g:LE) (c:LS) (h:LS) (u:LS) (v:LC) (w:Bool):Option (Except Int (aad × aaf)):=(cond w ((f77 k (decide (f > 0)) 22).bind fun q_=>match q_ with | .error c_=>some (.error c_) | .ok _=>(acX k F a b q r s t g c h u v i j l d e m n o p f)) (cond (a == 29) ((f77 k e 22).bind fun q_=>match q_ with | .error c_=>some (.error c_) | .ok _=>(acX k F a b q r s t g c h u v i j l d e m n o p f)) (cond (a == 17) ((f77 k ((decide ((g.length:Int) > 0)) == (d != 0)) 22).bind fun q_=>match q_ with | .error c_=>some (.error c_) | .ok _=>(acX k F a b q r s t g c h u v i j l d e m n o p f)) (cond (a == 21) ((F.f1012766 (aad.mk (aaa.mk i) (aae.mk j l d e m n) o p f) ⟨#[]⟩ c).bind fun q_=>match q_ with | .error c_=>some (.error c_) | .ok (.mk (.mk x) (.mk y z A B C D) G I J,N)=>(acX k F a b q r s t g N h u v x y z A B C D G I J)) (cond (a == 28) ((F.f1012731 (aad.mk (aaa.mk i) (aae.mk j l d e m n) o p f) b c (aaf.mk a b q r s t g c h u v)).bind fun q_=>match q_ with | .error c_=>some (.error c_) | .ok (.mk (.mk O) (.mk S U V W X Y) Z ab ac,.mk ad ae af ag ah ai aj bD ak al am,an)=>(acX k F ad ae af ag ah ai aj an ak al am O S U V W X Y Z ab ac)) (cond (a == 25) ((F.f1012531 (aad.mk (aaa.mk i) (aae.mk j l d e m n) o p f) b c (aaf.mk a b q r s t g c h u v)).bind fun q_=>match q_ with | .error c_=>some (.error c_) | .ok (.mk (.mk ao) (.mk ap aq ar au av aw) ax ay az,.mk aA aB aG aH aI aJ aK bE aL aM aN,aP)=>(acX k F aA aB aG aH aI aJ aK aP aL aM aN ao ap aq ar au av aw ax ay az)) (cond (a == 24) ((F.f1012566 (aad.mk (aaa.mk i) (aae.mk j l d e m n) o p f) ⟨#[]⟩ c).bind fun q_=>match q_ with | .error c_=>some (.error c_) | .ok (.mk (.mk aQ) (.mk aT aU aV aW aX aY) aZ a0 a1,a2)=>((F.f1012531 (aad.mk (aaa.mk aQ) (aae.mk aT aU aV aW aX aY) aZ a0 a1) b h (aaf.mk a b q r s t g a2 h u v)).bind fun q_=>match q_ with | .error c_=>some (.error c_) | .ok (.mk (.mk a3) (.mk a4 a5 a6 a7 a8 a9) ba bb bd,.mk be bf bg bh bi bj bk bm bF bn bo,bp)=>((F.f1012566 (aad.mk (aaa.mk a3) (aae.mk a4 a5 a6 a7 a8 a9) ba bb bd) ⟨#[]⟩ bn).bind fun q_=>match q_ with | .error c_=>some (.error c_) | .ok (.mk (.mk bq) (.mk br bs bu bv bw bx) bz bA bB,bC)=>(acX k F be bf bg bh bi bj bk bm bp bC bo bq br bs bu bv bw bx bz bA bB)))) (cond (a == 20) (afi k F i j l d e m n o p f a b q r s t g c h u v (a == 20)) (cond (a == 22) (afi k F i j l d e m n o p f a b q r s t g c h u v (a == 22)) (cond (a == 23) (afi k F i j l d e m n o p f a b q r s t g c h u v (a == 23)) (afi k F i j l d e m n o p f a b q r s t g c h u v (a == 26))))))))))))
def agY (k:Nat) (F:acr) (b:LF) (c:BA) (d:LP) (e:Int) (f:Bool) (g:Int) (h:LS) (i:LB) (j:LM) (l:Int) (a:Int) (m:BA) (v:Int) (n:BA) (o:Int) (p:Int) (q:LE) (r:LS) (s:LS) (t:LS) (u:LC):Option (Except Int (aad × aaf)):=(cond (a == 2) ((f123 k (aad.mk (aaa.mk b) (aae.mk c d e f g h) i j l) m).bind fun q_=>match q_ with | (w,x)=>((f77 k x 20).bind fun q_=>match q_ with | .error c_=>some (.error c_) | .ok _=>(acX k F a m w n o p q r s t u b c d e f g h i j l))) (cond (a == 18) (aho k F b c d e f g h i j l a m v n o p q r s t u (a == 18)) (aho k F b c d e f g h i j l a m v n o p q r s t u (a == 19))))
def amP (k:Nat) (F:acr):aad→aaf→Option (Except Int (aad × aaf)):=fun w x =>
 match w,x with
 | .mk (.mk a) (.mk b c d e f g) h i j,.mk l n o m p q y r s t u=>((f124 k (aad.mk (aaa.mk a) (aae.mk b c d e f g) h i j) y).bind fun q_=>match q_ with | .error c_=>some (.error c_) | .ok v=>(cond (l == 27) (afm k F l n o m p q r s t v u 0 a b c d e f g h i j ([]:LC)) (cond (!seq m ⟨#[]⟩) ((f126 k (aad.mk (aaa.mk a) (aae.mk b c d e f g) h i j) (aaf.mk l n o m p q v r s t u)).bind fun q_=>match q_ with | .error c_=>some (.error c_) | .ok (.mk (.mk z) (.mk A B C D G I) J N O,.mk S U V W X Y Z ab ac ad ae)=>(agY k F z A B C D G I J N O S U V W X Y Z ab ac ad ae)) (agY k F a b c d e f g h i j l n o m p q v r s t u))))
def acv (k:Nat) (F:acr) (sA_0:Int) (sA_1:BA) (sA_3:LE) (sA_4:LS) (m:Int):LS→Nat→LF→BA→LP→Int→Bool→Int→LS→LB→LM→Int→LS→Option (Except Int (aad × aaB × LS))
 | [],n,c,d,e,f,g,h,i,j,a,l,b=>(aaT (decide (0 ≤ (w64 ((a.length:Int) - 1))∧(w64 ((a.length:Int) - 1)) ≤ (a.length:Int))) (some (.ok ((aad.mk (aaa.mk c) (aae.mk d e f g h i) j (a.take (w64 ((a.length:Int) - 1)).toNat) l),(aaB.mk sA_0 sA_1 m sA_3 sA_4),b))))
 | (.mk o p q r s t u v w x y) :: z,n,c,d,e,f,g,h,i,j,a,l,b=>((F.f105 (aad.mk (aaa.mk c) (aae.mk d e f g h i) j a l) (aaf.mk o p q r s t u v w x y)).bind fun q_=>match q_ with | .error c_=>some (.error c_) | .ok (.mk (.mk A) (.mk B C D G I J) N O S,.mk U V W X Y Z ab ac ad ae af)=>(aaT (decide ((b.length + 1) * 184 ≤ 140737488355328)) ((acv k F sA_0 sA_1 sA_3 sA_4 m z) (n + 1) A B C D G I J N O S (b ++ [(aaf.mk U V W X Y Z ab ac ad ae af)]))))
def adP (k:Nat) (F:acr) (a:LS) (sA_0:Int) (sA_1:BA) (sA_3:LE) (sA_4:LS) (b:LF) (c:BA) (d:LP) (e:Int) (f:Bool) (g:Int) (h:LS) (i:LB) (j:LM) (l:Int) (m:Int):Option (Except Int (aad × aaB × LS)):=(acv k F sA_0 sA_1 sA_3 sA_4 m a 0 b c d e f g h i j l ([]:LS))
def aen (k:Nat) (F:acr):aad→BA→LS→aaB→Option (Except Int (aad × aaB × LS)):=fun n a b o =>
 match n,a,b,o with
 | .mk (.mk d) (.mk e f g h i j) l c m,a,b,.mk sA_0 sA_1 sA_2 sA_3 sA_4=>(aaT (decide ((c.length + 1) * 8 ≤ 140737488355328)) (cond (!seq a ⟨#[]⟩) ((f104 k (aad.mk (aaa.mk d) (aae.mk e f g h i j) l (c ++ [([]:List (BA × Int))]) m) a).bind fun q_=>match q_ with | .error c_=>some (.error c_) | .ok (.mk (.mk p) (.mk q r s t u v) w x y,z)=>(adP k F b sA_0 sA_1 sA_3 sA_4 p q r s t u v w x y z)) (adP k F b sA_0 sA_1 sA_3 sA_4 d e f g h i j l (c ++ [([]:List (BA × Int))]) m sA_2)))
def acB (k:Nat) (F:acr) (sA_0:Int) (sA_1:BA) (sA_3:BA) (sA_4:Int) (sA_5:Int) (sA_6:LE) (sA_7:LS) (sA_8:LS) (sA_9:LS) (sA_10:LC) (m:Int):LS→Nat→LF→BA→LP→Int→Bool→Int→LS→LB→LM→Int→LS→Option (Except Int (aad × aaf × LS))
 | [],n,c,d,e,f,g,h,i,j,a,l,b=>(aaT (decide (0 ≤ (w64 ((a.length:Int) - 1))∧(w64 ((a.length:Int) - 1)) ≤ (a.length:Int))) (some (.ok ((aad.mk (aaa.mk c) (aae.mk d e f g h i) j (a.take (w64 ((a.length:Int) - 1)).toNat) l),(aaf.mk sA_0 sA_1 m sA_3 sA_4 sA_5 sA_6 sA_7 sA_8 sA_9 sA_10),b))))
 | (.mk o p q r s t u v w x y) :: z,n,c,d,e,f,g,h,i,j,a,l,b=>((F.f105 (aad.mk (aaa.mk c) (aae.mk d e f g h i) j a l) (aaf.mk o p q r s t u v w x y)).bind fun q_=>match q_ with | .error c_=>some (.error c_) | .ok (.mk (.mk A) (.mk B C D G I J) N O S,.mk U V W X Y Z ab ac ad ae af)=>(aaT (decide ((b.length + 1) * 184 ≤ 140737488355328)) ((acB k F sA_0 sA_1 sA_3 sA_4 sA_5 sA_6 sA_7 sA_8 sA_9 sA_10 m z) (n + 1) A B C D G I J N O S (b ++ [(aaf.mk U V W X Y Z ab ac ad ae af)]))))
def adI (k:Nat) (F:acr) (a:LS) (sA_0:Int) (sA_1:BA) (sA_3:BA) (sA_4:Int) (sA_5:Int) (sA_6:LE) (sA_7:LS) (sA_8:LS) (sA_9:LS) (sA_10:LC) (b:LF) (c:BA) (d:LP) (e:Int) (f:Bool) (g:Int) (h:LS) (i:LB) (j:LM) (l:Int) (m:Int):Option (Except Int (aad × aaf × LS)):=(acB k F sA_0 sA_1 sA_3 sA_4 sA_5 sA_6 sA_7 sA_8 sA_9 sA_10 m a 0 b c d e f g h i j l ([]:LS))
def aee (k:Nat) (F:acr):aad→BA→LS→aaf→Option (Except Int (aad × aaf × LS)):=fun n a b o =>
 match n,a,b,o with
 | .mk (.mk d) (.mk e f g h i j) l c m,a,b,.mk sA_0 sA_1 sA_2 sA_3 sA_4 sA_5 sA_6 sA_7 sA_8 sA_9 sA_10=>(aaT (decide ((c.length + 1) * 8 ≤ 140737488355328)) (cond (!seq a ⟨#[]⟩) ((f104 k (aad.mk (aaa.mk d) (aae.mk e f g h i j) l (c ++ [([]:List (BA × Int))]) m) a).bind fun q_=>match q_ with | .error c_=>some (.error c_) | .ok (.mk (.mk p) (.mk q r s t u v) w x y,z)=>(adI k F b sA_0 sA_1 sA_3 sA_4 sA_5 sA_6 sA_7 sA_8 sA_9 sA_10 p q r s t u v w x y z)) (adI k F b sA_0 sA_1 sA_3 sA_4 sA_5 sA_6 sA_7 sA_8 sA_9 sA_10 d e f g h i j l (c ++ [([]:List (BA × Int))]) m sA_2)))
def acz (k:Nat) (F:acr)  : LS→Nat→LF→BA→LP→Int→Bool→Int→LS→LB→LM→Int→LS→Option (Except Int (aad × LS))
 | [],m,c,d,e,f,g,h,i,j,a,l,b=>(aaT (decide (0 ≤ (w64 ((a.length:Int) - 1))∧(w64 ((a.length:Int) - 1)) ≤ (a.length:Int))) (some (.ok ((aad.mk (aaa.mk c) (aae.mk d e f g h i) j (a.take (w64 ((a.length:Int) - 1)).toNat) l),b))))
 | (.mk n o p q r s t u v w x) :: y,m,c,d,e,f,g,h,i,j,a,l,b=>((F.f105 (aad.mk (aaa.mk c) (aae.mk d e f g h i) j a l) (aaf.mk n o p q r s t u v w x)).bind fun q_=>match q_ with | .error c_=>some (.error c_) | .ok (.mk (.mk z) (.mk A B C D G I) J N O,.mk S U V W X Y Z ab ac ad ae)=>(aaT (decide ((b.length + 1) * 184 ≤ 140737488355328)) ((acz k F y) (m + 1) z A B C D G I J N O (b ++ [(aaf.mk S U V W X Y Z ab ac ad ae)]))))
def aes (k:Nat) (F:acr):aad→BA→LS→Option (Except Int (aad × LS)):=fun n a b =>
 match n,a,b with
 | .mk (.mk d) (.mk e f g h i j) l c m,a,b=>(aaT (decide ((c.length + 1) * 8 ≤ 140737488355328)) (cond (!seq a ⟨#[]⟩) ((f104 k (aad.mk (aaa.mk d) (aae.mk e f g h i j) l (c ++ [([]:List (BA × Int))]) m) a).bind fun q_=>match q_ with | .error c_=>some (.error c_) | .ok (.mk (.mk o) (.mk p q r s t u) v w x,y)=>(none)) (acz k F b 0 d e f g h i j l (c ++ [([]:List (BA × Int))]) m ([]:LS))))
def aeh (k:Nat) (F:acr):aad→BA→LS→aaf→Option (Except Int (aad × aaf × LS)):=fun c a b d =>
 match c,a,b,d with
 | .mk (.mk e) (.mk f g h i j l) m n o,a,b,.mk sA_0 sA_1 sA_2 sA_3 sA_4 sA_5 sA_6 sA_7 sA_8 sA_9 sA_10=>((F.f1012531 (aad.mk (aaa.mk e) (aae.mk f g h i j l) m n (w64 (o + 1))) a b (aaf.mk sA_0 sA_1 sA_2 sA_3 sA_4 sA_5 sA_6 sA_7 sA_8 sA_9 sA_10)).bind fun q_=>match q_ with | .error c_=>some (.error c_) | .ok (.mk (.mk p) (.mk q r s t u v) w x y,.mk z A B C D G I J N O S,U)=>(some (.ok ((aad.mk (aaa.mk p) (aae.mk q r s t u v) w x (w64 (y - 1))),(aaf.mk z A B C D G I J N O S),U))))
def aer (k:Nat) (F:acr):aad→BA→LS→Option (Except Int (aad × LS)):=fun c a b =>
 match c,a,b with
 | .mk (.mk d) (.mk e f g h i j) l m n,a,b=>((F.f1012566 (aad.mk (aaa.mk d) (aae.mk e f g h i j) l m (w64 (n + 1))) a b).bind fun q_=>match q_ with | .error c_=>some (.error c_) | .ok (.mk (.mk o) (.mk p q r s t u) v w x,y)=>(some (.ok ((aad.mk (aaa.mk o) (aae.mk p q r s t u) v w (w64 (x - 1))),y))))
def aa9 (k0:Nat):Nat→acr
 | 0=>{ f105:=fun _ _=>none,f1012528:=fun _ _ _ _=>none,f1012531:=fun _ _ _ _=>none,f1012566:=fun _ _ _=>none,f1012731:=fun _ _ _ _=>none,f1012766:=fun _ _ _=>none }
 | k + 1=>{ f105:=amP k0 (aa9 k0 k),f1012528:=aen k0 (aa9 k0 k),f1012531:=aee k0 (aa9 k0 k),f1012566:=aes k0 (aa9 k0 k),f1012731:=aeh k0 (aa9 k0 k),f1012766:=aer k0 (aa9 k0 k) }
def f105 (k:Nat):aad→aaf→Option (Except Int (aad × aaf)):=(aa9 k k).f105
def f1012528 (k:Nat):aad→BA→LS→aaB→Option (Except Int (aad × aaB × LS)):=(aa9 k k).f1012528
def f1012531 (k:Nat):aad→BA→LS→aaf→Option (Except Int (aad × aaf × LS)):=(aa9 k k).f1012531
def f1012566 (k:Nat):aad→BA→LS→Option (Except Int (aad × LS)):=(aa9 k k).f1012566
def f1012731 (k:Nat):aad→BA→LS→aaf→Option (Except Int (aad × aaf × LS)):=(aa9 k k).f1012731
def f1012766 (k:Nat):aad→BA→LS→Option (Except Int (aad × LS)):=(aa9 k k).f1012766
def aoQ (k:Nat) (a:BA) (b:LP) (c:Int) (d:Bool) (e:Int) (f:LS) (g:LB):Option (Except Int (aae × LB)):=(some (.ok ((aae.mk a b c d e f),g)))
def aht (k:Nat) (c:BA) (d:Int) (e:Bool) (f:LP):LS→Nat→LF→BA→LP→Int→Bool→Int→LS→LB→LM→Int→LS→Option (Except Int (aae × LB))
 | [],g,h,i,j,l,m,n,o,a,p,q,b=>((f77 k (decide ((a.length:Int) ≤ 32)) 5).bind fun q_=>match q_ with | .error c_=>some (.error c_) | .ok _=>(aoQ k c f d e (a.length:Int) b a))
 | (.mk r s t u v w x y z A B) :: C,g,h,i,j,l,m,n,o,a,p,q,b=>((f105 k (aad.mk (aaa.mk h) (aae.mk i j l m n o) a p q) (aaf.mk r s t u v w x y z A B)).bind fun q_=>match q_ with | .error c_=>some (.error c_) | .ok (.mk (.mk D) (.mk G I J N O S) U V W,.mk X Y Z ab ac ad ae af ag ah ai)=>(aaT (decide ((b.length + 1) * 184 ≤ 140737488355328)) ((aht k c d e f C) (g + 1) D G I J N O S U V W (b ++ [(aaf.mk X Y Z ab ac ad ae af ag ah ai)]))))
def adY (k:Nat) (l:BA) (m:LP) (n:Int) (o:Bool) (p:LS):LP→Nat→LF→BA→LP→Int→Bool→Int→LS→LB→LM→Int→Option (Except Int (aae × LB))
 | [],q,a,b,c,d,e,f,g,h,i,j=>((f100 k m).bind fun r=>(aht k l n o r p 0 a b c d e f g h i j ([]:LS)))
 | (.mk s G) :: t,q,a,b,c,d,e,f,g,h,i,j=>((f104 k (aad.mk (aaa.mk a) (aae.mk b c d e f g) h i j) s).bind fun q_=>match q_ with | .error c_=>some (.error c_) | .ok (.mk (.mk u) (.mk v w x y z A) B C D,I)=>((adY k l m n o p t) (q + 1) u v w x y z A B C D))
def arY (k:Nat):aaa→aae→Option (Except Int (aae × LB)):=fun f g =>
 match f,g with
 | .mk h,.mk b a c d i e=>(adY k b a c d e a 0 h b a c d i e ([]:LB) [([]:List (BA × Int))] 0)
def f83 (k:Nat):aaa→aae→Option (Except Int (aae × LB)):=arY k
def ahD (k:Nat) (all:LF):LF→Nat→Option (Except Int Unit)
 | [],_=>some (.ok ())
 | f :: rest,i=>(agH k (all.take i) f).bind fun b=>(f77 k (!b) 21).bind fun q=>match q with
  | .error c=>some (.error c)
  | .ok _=>ahD k all rest (i + 1)
def acA:LF→Int
 | []=>20
 | .mk nm ps _ fl _ _ :: rest=>cond (!(seq nm ⟨#[109,97,105,110]⟩)) (acA rest) (cond fl 25 (cond (decide ((ps.length:Int) > 0)) 24 0))
def agO (k:Nat) (p:aaa):LF→List aae→List LB→Option (Except Int (aaa × List LB))
 | [],out,names=>some (.ok (.mk out,names))
 | f :: rest,out,names=>(f83 k p f).bind fun q=>match q with
  | .error c=>some (.error c)
  | .ok (g,l)=>agO k p rest (out ++ [g]) (names ++ [l])
def f56 (k:Nat):aaa→Option (Except Int (aaa × (List LB))):=fun a=>match a with
 | .mk fs=>(f78 k (.mk fs) false).bind fun ok=>(f77 k ok 2).bind fun q=>match q with
  | .error c=>some (.error c)
  | .ok _=>(ahD k fs fs 0).bind fun q=>match q with
   | .error c=>some (.error c)
   | .ok _=>(f77 k (decide (acA fs=0)) (acA fs)).bind fun q=>match q with
    | .error c=>some (.error c)
    | .ok _=>agO k (.mk fs) fs [] []
def afE (k:Nat):aaa→aaa→Option (Except Int (aaa × aaa)):=fun b c =>
 match b,c with
 | .mk a,.mk sA_0=>((f56 k (aaa.mk a)).bind fun q_=>match q_ with | .error c_=>some (.error c_) | .ok (.mk d,e)=>(some (.ok ((aaa.mk a),(aaa.mk d)))))
def ah4 (k:Nat):aaa→aaa→Option (Except Int (aaa × aaa)):=afE k
def ahZ (k:Nat):aaa→aaa→Option (aaa × aaa × Int):=fun a b=>match ah4 k a b with
 | none=>none
 | some (.ok (y0,y1))=>some (y0,y1,0)
 | some (.error c)=>some (a,b,c)
def as7 (k:Nat):aaa→Option (aaa × Int):=fun a =>
 match a with
 | .mk b=>((ahZ k (aaa.mk b) (aaa.mk [])).bind fun q_=>match q_ with | (.mk e,.mk c,d)=>(some ((aaa.mk c),d)))
def f35 (k:Nat):aaa→Option (aaa × Int):=as7 k
def avs (k:Nat):Option (List (Int × aaG)):=(some (mput qI 19 (aaG.mk [1] 1) (mput qI 18 (aaG.mk [1] 1) (mput qI 17 (aaG.mk [1] 1) (mput qI 16 (aaG.mk [1] 1) (mput qI 6 (aaG.mk [1] 1) (mput qI 14 (aaG.mk [1,3] 2) (mput qI 13 (aaG.mk [1,3] 2) (mput qI 12 (aaG.mk [1,3] 2) (mput qI 11 (aaG.mk [1,3] 2) (mput qI 8 (aaG.mk [2] 2) (mput qI 7 (aaG.mk [2] 2) (mput qI 5 (aaG.mk [2] 2) ([]:List (Int × aaG)))))))))))))))
def f50 (k:Nat):Option (List (Int × aaG)):=avs k
def aid (k:Nat) (b:Int):List Int→Nat→Option Int
 | [],a=>(some (-1))
 | c :: d,a=>(cond (b == c) (some (a:Int)) ((aid k b d) (a + 1)))
def art (k:Nat):(List Int)→Int→Option Int:=fun a b=>(aid k b a 0)
def f75 (k:Nat):(List Int)→Int→Option Int:=art k
def asH (k:Nat):(List Int)→Int→Option Bool:=fun a b=>((f75 k a b).bind fun c=>(some (decide (c ≥ 0))))
def f51 (k:Nat):(List Int)→Int→Option Bool:=asH k
structure amn where
 f33:aah→(List Int)→Option Int
def amG (k:Nat) (F:amn) (a:Int) (b:Bool):Option Int:=(cond b (some (-1)) (some a))
def alZ (k:Nat) (F:amn) (a:Int) (b:List Int) (c:Int):Option Int:=((f51 k b a).bind fun d=>(cond (!d) (some (-1)) (some c)))
def amq (k:Nat) (F:amn) (b:Int) (a:Int) (c:Bool):Option Int:=(cond c (some 2) (cond (b == 15) (cond (a != 1) (amG k F a (a != 3)) (amG k F a false)) ((f50 k ).bind fun d=>(afN (mget qI b d) (alZ k F a [] 0) (fun q_=>match q_ with | .mk e f=>(alZ k F a e f))))))
def aim (k:Nat) (F:amn) (a:Int) (b:Int) (c:Bool):Option Int:=(cond c (some (-1)) (cond (a == 9) (amq k F a b (a == 9)) (amq k F a b (a == 10))))
def aqJ (k:Nat) (F:amn):aah→(List Int)→Option Int:=fun e b =>
 match e,b with
 | .mk a t u f d,b=>(cond (a == 1) (some 1) (cond (a == 2) (some 2) (cond (a == 3) (some 3) (cond (a == 4) ((idxO b f).bind fun g=>(some g)) ((idxO d 0).bind fun q_=>match q_ with | .mk h i j l m=>((F.f33 (aah.mk h i j l m) b).bind fun c=>(cond (c == (-1)) (aim k F a c true) (cond ((d.length:Int) == 2) ((idxO d 1).bind fun q_=>match q_ with | .mk n o p q r=>((F.f33 (aah.mk n o p q r) b).bind fun s=>(aim k F a c (s != c)))) (aim k F a c false)))))))))
def ao8 (k0:Nat):Nat→amn
 | 0=>{ f33:=fun _ _=>none }
 | k + 1=>{ f33:=aqJ k0 (ao8 k0 k) }
def f33 (k:Nat):aah→(List Int)→Option Int:=(ao8 k k).f33
def ah7 (k:Nat) (b:(List Int)) (c:(List Int)):LE→Nat→Option Bool
 | [],a=>(some true)
 | (.mk d e f g h) :: i,a=>((idxO c (a:Int)).bind fun j=>((f33 k (aah.mk d e f g h) b).bind fun l=>(cond (l != j) (some false) ((ah7 k b c i) (a + 1)))))
def arV (k:Nat):aas→LE→(List Int)→Option Bool:=fun c a b =>
 match c,a,b with
 | .mk (.mk e) (.mk f g h i j l) d,a,b=>(ah7 k d b a 0)
def f84 (k:Nat):aas→LE→(List Int)→Option Bool:=arV k
def avV (k:Nat):Option (List (Int × (List Int))):=(some (mput qI 26 [6] (mput qI 21 [2] (mput qI 20 [2] (mput qI 15 [3] (mput qI 22 [1] (mput qI 29 [1] (mput qI 25 [1] (mput qI 8 [1] (mput qI 7 [1] (mput qI 12 [1] (mput qI 10 [4,1] (mput qI 11 [4] (mput qI 6 [4] (mput qI 16 [5] (mput qI 5 [5] ([]:List (Int × (List Int)))))))))))))))))))
def f85 (k:Nat):Option (List (Int × (List Int))):=avV k
structure ad6 where
 f36:aas→LS→Option (aas × Bool)
 f57:aas→aaf→Option (aas × Bool)
def ahK (k:Nat) (F:ad6)  : LS→Nat→LF→BA→LP→Int→Bool→Int→LS→(List Int)→Option (aas × Bool)
 | [],i,a,b,c,d,e,f,g,h=>(some ((aas.mk (aaa.mk a) (aae.mk b c d e f g) h),true))
 | (.mk s t u v w x y z A B C) :: D,i,a,b,c,d,e,f,g,h=>((F.f57 (aas.mk (aaa.mk a) (aae.mk b c d e f g) h) (aaf.mk s t u v w x y z A B C)).bind fun q_=>match q_ with | (.mk (.mk j) (.mk l m n o p q) r,G)=>(cond (!G) (some ((aas.mk (aaa.mk j) (aae.mk l m n o p q) r),false)) ((ahK k F D) (i + 1) j l m n o p q r)))
def au4 (k:Nat) (F:ad6):aas→LS→Option (aas × Bool):=fun b a =>
 match b,a with
 | .mk (.mk c) (.mk d e f g h i) j,a=>(ahK k F a 0 c d e f g h i j)
def ajx (k:Nat) (F:ad6) (a:Bool) (b:LF) (c:BA) (d:LP) (e:Int) (f:Bool) (g:Int) (h:LS) (i:List Int):Option (aas × Bool):=(some ((aas.mk (aaa.mk b) (aae.mk c d e f g h) i),a))
def ajF (k:Nat) (F:ad6) (i:LF) (j:BA) (l:LP) (m:Int) (n:Bool) (o:Int) (p:LS) (q:Nat) (r:LS) (s:List Int) (nx1:Nat→LF→BA→LP→Int→Bool→Int→LS→(List Int)→Option (aas × Bool)):Option (aas × Bool):=((F.f36 (aas.mk (aaa.mk i) (aae.mk j l m n o p) s) r).bind fun q_=>match q_ with | (.mk (.mk a) (.mk b c d e f g) h,t)=>(cond (!t) (some ((aas.mk (aaa.mk a) (aae.mk b c d e f g) h),false)) (nx1 (q + 1) a b c d e f g h)))
def ain (k:Nat) (F:ad6) (b:LF) (c:BA) (d:LP) (e:Int) (f:Bool) (g:Int) (h:LS) (a:List Int) (i:Nat) (m:BA) (j:Int) (l:LS) (nx1:Nat→LF→BA→LP→Int→Bool→Int→LS→(List Int)→Option (aas × Bool)):Option (aas × Bool):=(cond (!seq m ⟨#[]⟩) ((idxO a j).bind fun n=>(ajF k F b c d e f g h i l (a.set j.toNat 1) nx1)) (ajF k F b c d e f g h i l a nx1))
def adl (k:Nat) (F:ad6) (i:LS) (j:LS) (l:LS):LC→Nat→LF→BA→LP→Int→Bool→Int→LS→(List Int)→Option (aas × Bool)
 | [],m,a,b,c,d,e,f,g,h=>((F.f36 (aas.mk (aaa.mk a) (aae.mk b c d e f g) h) i).bind fun q_=>match q_ with | (.mk (.mk n) (.mk o p q r s t) u,O)=>(cond O ((F.f36 (aas.mk (aaa.mk n) (aae.mk o p q r s t) u) j).bind fun q_=>match q_ with | (.mk (.mk v) (.mk w x y z A B) C,S)=>(cond S ((F.f36 (aas.mk (aaa.mk v) (aae.mk w x y z A B) C) l).bind fun q_=>match q_ with | (.mk (.mk U) (.mk V W X Y Z ab) ac,ad)=>(ajx k F ad U V W X Y Z ab ac)) (ajx k F false v w x y z A B C))) (ajx k F false n o p q r s t u)))
 | (.mk ae D G I J) :: N,m,a,b,c,d,e,f,g,h=>(afN (mget qI ae (mput qI 3 [1] (mput qI 2 [4,1] (mput qI 1 [4] ([]:List (Int × (List Int))))))) ((f84 k (aas.mk (aaa.mk a) (aae.mk b c d e f g) h) I []).bind fun af=>(cond (!af) (some ((aas.mk (aaa.mk a) (aae.mk b c d e f g) h),false)) (ain k F a b c d e f g h m D G J (adl k F i j l N)))) (fun ag=>((f84 k (aas.mk (aaa.mk a) (aae.mk b c d e f g) h) I ag).bind fun ah=>(cond (!ah) (some ((aas.mk (aaa.mk a) (aae.mk b c d e f g) h),false)) (ain k F a b c d e f g h m D G J (adl k F i j l N))))))
def al5 (k:Nat) (F:ad6) (a:LF) (b:BA) (c:LP) (d:Int) (e:Bool) (f:Int) (g:LS) (h:LS) (i:LS) (j:LS) (l:LC) (m:List Int):Option (aas × Bool):=(adl k F h i j l 0 a b c d e f g m)
def ai1 (k:Nat) (F:ad6) (b:LF) (c:BA) (d:LP) (e:Int) (f:Bool) (g:Int) (h:LS) (a:(List Int)) (o:BA) (i:Int) (j:LS) (l:LS) (m:LS) (n:LC) (p:Int) (q:Bool):Option (aas × Bool):=(cond q (some ((aas.mk (aaa.mk b) (aae.mk c d e f g h) a),false)) (cond (!seq o ⟨#[]⟩) ((idxO a i).bind fun r=>(al5 k F b c d e f g h j l m n (a.set i.toNat p))) (al5 k F b c d e f g h j l m n a)))
def al0 (k:Nat) (F:ad6) (a:LF) (b:BA) (c:LP) (d:Int) (e:Bool) (f:Int) (g:LS) (h:(List Int)) (i:BA) (j:Int) (q:LE) (l:LS) (m:LS) (n:LS) (o:LC) (p:Int) (r:List Int) (s:Bool):Option (aas × Bool):=(cond s ((f84 k (aas.mk (aaa.mk a) (aae.mk b c d e f g) h) q r).bind fun t=>(ai1 k F a b c d e f g h i j l m n o p (!t))) (ai1 k F a b c d e f g h i j l m n o p false))
def aeU (k:Nat) (F:ad6) (a:LF) (b:BA) (c:LP) (d:Int) (e:Bool) (f:Int) (g:LS) (h:(List Int)) (r:Int) (i:BA) (j:Int) (l:LE) (m:LS) (n:LS) (o:LS) (p:LC) (q:Int):Option (aas × Bool):=((f85 k ).bind fun s=>(afN (mget qI r s) (al0 k F a b c d e f g h i j l m n o p q [] false) (fun t=>(al0 k F a b c d e f g h i j l m n o p q t true))))
def ahc (k:Nat) (F:ad6) (b:LF) (c:BA) (d:LP) (e:Int) (f:Bool) (g:Int) (h:LS) (i:(List Int)) (a:Int) (j:BA) (l:Int) (m:LE) (n:LS) (o:LS) (p:LS) (q:LC) (r:Int):Option (aas × Bool):=(cond (a == 28) (aeU k F b c d e f g h i a j l m n o p q 1) (aeU k F b c d e f g h i a j l m n o p q r))
def aiU (k:Nat) (F:ad6) (a:LF) (b:BA) (c:LP) (d:Int) (e:Bool) (f:Int) (g:LS) (h:(List Int)) (i:Int) (j:BA) (l:Int) (m:LE) (n:LS) (o:LS) (p:LS) (q:LC) (r:Bool):Option (aas × Bool):=(cond r (some ((aas.mk (aaa.mk a) (aae.mk b c d e f g) h),false)) (ahc k F a b c d e f g h i j l m n o p q 5))
def ahB (k:Nat) (F:ad6) (a:LF) (b:BA) (c:LP) (d:Int) (e:Bool) (f:Int) (g:LS) (h:(List Int)) (i:Int) (j:BA) (l:Int) (m:LE) (n:LS) (o:LS) (p:LS) (q:LC) (r:Int) (s:Bool):Option (aas × Bool):=(cond s (some ((aas.mk (aaa.mk a) (aae.mk b c d e f g) h),false)) (cond (i == 4) (cond (r != 1) (aiU k F a b c d e f g h i j l m n o p q (r != 0)) (aiU k F a b c d e f g h i j l m n o p q false)) (ahc k F a b c d e f g h i j l m n o p q r)))
def afd (k:Nat) (F:ad6) (b:LF) (c:BA) (d:LP) (e:Int) (f:Bool) (g:Int) (h:LS) (i:(List Int)) (a:Int) (j:BA) (m:Int) (s:Int) (l:LE) (n:LS) (o:LS) (p:LS) (q:LC) (t:Bool):Option (aas × Bool):=(cond t ((idxO b s).bind fun q_=>match q_ with | .mk u v r w x y=>((f26 k (aae.mk u v r w x y)).bind fun z=>((f84 k (aas.mk (aaa.mk b) (aae.mk c d e f g h) i) l z).bind fun A=>(cond (!A) (ahB k F b c d e f g h i a j m l n o p q r true) (cond (a == 3) (cond (!seq j ⟨#[]⟩) (ahB k F b c d e f g h i a j m l n o p q r (r == 0)) (ahB k F b c d e f g h i a j m l n o p q r false)) (ahB k F b c d e f g h i a j m l n o p q r false)))))) (cond (a == 7) (aeU k F b c d e f g h i a j m l n o p q 4) (cond (a == 8) (aeU k F b c d e f g h i a j m l n o p q 6) (cond (a == 24) (aeU k F b c d e f g h i a j m l n o p q 3) (aeU k F b c d e f g h i a j m l n o p q 1)))))
def ao3 (k:Nat) (F:ad6):aas→aaf→Option (aas × Bool):=fun t u =>
 match t,u with
 | .mk (.mk d) (.mk e f c g h i) a,.mk b m l Y r Z j n o p q=>(cond (b == 1) ((idxO j 0).bind fun q_=>match q_ with | .mk v w x y z=>((f33 k (aah.mk v w x y z) a).bind fun s=>(cond (s == (-1)) (some ((aas.mk (aaa.mk d) (aae.mk e f c g h i) a),false)) (aeU k F d e f c g h i a b m l j n o p q s)))) (cond (b == 14) ((idxO j 0).bind fun q_=>match q_ with | .mk A B C D G=>((f33 k (aah.mk A B C D G) a).bind fun I=>(cond (I == (-1)) (some ((aas.mk (aaa.mk d) (aae.mk e f c g h i) a),false)) (aeU k F d e f c g h i a b m l j n o p q 1)))) (cond (b == 2) ((idxO j 0).bind fun q_=>match q_ with | .mk J N O S U=>((idxO a l).bind fun V=>((f33 k (aah.mk J N O S U) a).bind fun W=>(some ((aas.mk (aaa.mk d) (aae.mk e f c g h i) a),(W == V)))))) (cond (b == 17) ((f84 k (aas.mk (aaa.mk d) (aae.mk e f c g h i) a) j [c]).bind fun X=>(some ((aas.mk (aaa.mk d) (aae.mk e f c g h i) a),X))) (cond (b == 3) (afd k F d e f c g h i a b m l r j n o p q (b == 3)) (cond (b == 4) (afd k F d e f c g h i a b m l r j n o p q (b == 4)) (afd k F d e f c g h i a b m l r j n o p q (b == 28))))))))
def ahR (k0:Nat):Nat→ad6
 | 0=>{ f36:=fun _ _=>none,f57:=fun _ _=>none }
 | k + 1=>{ f36:=au4 k0 (ahR k0 k),f57:=ao3 k0 (ahR k0 k) }
def f36 (k:Nat):aas→LS→Option (aas × Bool):=(ahR k k).f36
def f57 (k:Nat):aas→aaf→Option (aas × Bool):=(ahR k k).f57
def ajs (k:Nat) (b:LF) (a:Int) (c:List (List Int)):Option (aaa × (List (List Int)) × Int):=(cond (a != 0) (some ((aaa.mk []),[],a)) (some ((aaa.mk b),c,0)))
def ajN (k:Nat) (c:LF) (a:List (List Int)) (d:Nat) (b:Int) (e:List Int) (nx1:Nat→Int→(List (List Int))→Option (aaa × (List (List Int)) × Int)):Option (aaa × (List (List Int)) × Int):=(cond (b != 0) (ajs k c b a) (aaT (decide ((a.length + 1) * 24 ≤ 140737488355328)) (nx1 (d + 1) b (a ++ [e]))))
def amg (k:Nat) (a:LF) (e:Int) (b:List (List Int)) (c:Nat) (d:(List Int)) (f:Bool) (nx1:Nat→Int→(List (List Int))→Option (aaa × (List (List Int)) × Int)):Option (aaa × (List (List Int)) × Int):=(cond f (ajN k a b c 26 d nx1) (ajN k a b c e d nx1))
def an7 (k:Nat) (a:LF) (e:Int) (b:List (List Int)) (c:Nat) (g:Int) (f:LS) (h:LF) (i:BA) (j:LP) (l:Int) (m:Bool) (n:Int) (o:LS) (p:List Int) (nx1:Nat→Int→(List (List Int))→Option (aaa × (List (List Int)) × Int)):Option (aaa × (List (List Int)) × Int):=((f36 k (aas.mk (aaa.mk h) (aae.mk i j l m n o) p) f).bind fun q_=>match q_ with | (.mk (.mk s) (.mk t u v w x y) d,q)=>(cond (!q) (ajN k a b c 23 d nx1) (cond (g != 0) ((f24 k f).bind fun r=>(amg k a e b c d (!r) nx1)) (amg k a e b c d false nx1))))
def ae8 (k:Nat) (c:LF):LF→Nat→Int→(List (List Int))→Option (aaa × (List (List Int)) × Int)
 | [],h,d,e=>(ajs k c d e)
 | (.mk i a f j b g) :: m,h,d,e=>((f26 k (aae.mk i a f j b g)).bind fun l=>(aaT (decide (0 ≤ (w64 (b - (a.length:Int)))∧((l.length:Int) + (w64 (b - (a.length:Int)))) * ((8:Nat):Int) ≤ 140737488355328)) (an7 k c d e h f g c i a f j b g (l ++ List.replicate (w64 (b - (a.length:Int))).toNat (0:Int)) (ae8 k c m))))
def arK (k:Nat):aaa→Option (aaa × (List (List Int)) × Int):=fun d =>
 match d with
 | .mk e=>((f34 k (aaa.mk e)).bind fun q_=>match q_ with | (.mk f,b)=>(cond (b != 0) (some ((aaa.mk []),[],b)) ((f35 k (aaa.mk f)).bind fun q_=>match q_ with | (.mk c,a)=>(cond (a != 0) (some ((aaa.mk []),[],a)) (ae8 k c c 0 a ([]:List (List Int)))))))
def f21 (k:Nat):aaa→Option (aaa × (List (List Int)) × Int):=arK k
def aru (k:Nat):aaa→Option (aaa × Int):=fun a =>
 match a with
 | .mk b=>((f21 k (aaa.mk b)).bind fun q_=>match q_ with | (.mk c,e,d)=>(some ((aaa.mk c),d)))
def f10 (k:Nat):aaa→Option (aaa × Int):=aru k
structure ar4 where
 f44:LE→Option LE
def agr (k:Nat) (F:ar4)  : LE→Nat→LE→Option LE
 | [],b,a=>(some a)
 | (.mk c d e f g) :: h,b,a=>((F.f44 g).bind fun i=>(aaT (decide ((a.length + 1) * 64 ≤ 140737488355328)) ((agr k F h) (b + 1) (a ++ [(aah.mk c d e f i)]))))
def avo (k:Nat) (F:ar4):LE→Option LE:=fun a=>(agr k F a 0 ([]:LE))
def anx (k0:Nat):Nat→ar4
 | 0=>{ f44:=fun _=>none }
 | k + 1=>{ f44:=avo k0 (anx k0 k) }
def f44 (k:Nat):LE→Option LE:=(anx k k).f44
structure apO where
 f25:LS→Option LS
def ahL (k:Nat) (F:apO) (b:LS) (c:Nat) (d:Int) (e:BA) (f:Int) (g:BA) (h:Int) (i:Int) (j:LE) (l:LS) (m:LS) (n:LS) (nx1:Nat→LS→Option LS):LC→Nat→LC→Option LS
 | [],o,a=>(aaT (decide ((b.length + 1) * 184 ≤ 140737488355328)) (nx1 (c + 1) (b ++ [(aaf.mk d e f g h i j l m n a)])))
 | (.mk p q r s t) :: u,o,a=>((f44 k s).bind fun v=>((F.f25 t).bind fun w=>(aaT (decide ((a.length + 1) * 80 ≤ 140737488355328)) ((ahL k F b c d e f g h i j l m n nx1 u) (o + 1) (a ++ [(aaB.mk p q r v w)])))))
def afY (k:Nat) (F:apO)  : LS→Nat→LS→Option LS
 | [],b,a=>(some a)
 | (.mk c d e f g h i j l m n) :: o,b,a=>((f44 k i).bind fun p=>((F.f25 j).bind fun q=>((F.f25 l).bind fun r=>((F.f25 m).bind fun s=>(ahL k F a b c d e f g h p q r s (afY k F o) n 0 ([]:LC))))))
def auD (k:Nat) (F:apO):LS→Option LS:=fun a=>(afY k F a 0 ([]:LS))
def amw (k0:Nat):Nat→apO
 | 0=>{ f25:=fun _=>none }
 | k + 1=>{ f25:=auD k0 (amw k0 k) }
def f25 (k:Nat):LS→Option LS:=(amw k k).f25
def agk (k:Nat)  : LF→Nat→LF→Option aaa
 | [],b,a=>(some (aaa.mk a))
 | (.mk d c e f g h) :: i,b,a=>(aaT (decide ((([]:LP).length + c.length) * 24 ≤ 140737488355328)) ((f25 k h).bind fun j=>(aaT (decide ((a.length + 1) * 88 ≤ 140737488355328)) ((agk k i) (b + 1) (a ++ [(aae.mk d (([]:LP) ++ c) e f g j)])))))
def auP (k:Nat):aaa→Option aaa:=fun a =>
 match a with
 | .mk b=>(agk k b 0 ([]:LF))
def f14 (k:Nat):aaa→Option aaa:=auP k
structure ar8 where
 f37:LE→Option LE
def agC (k:Nat) (F:ar8)  : LE→Nat→LE→Option LE
 | [],b,a=>(some a)
 | (.mk c d e i f) :: g,b,a=>((F.f37 f).bind fun h=>(aaT (decide ((a.length + 1) * 64 ≤ 140737488355328)) ((agC k F g) (b + 1) (a ++ [(aah.mk c d e 0 h)]))))
def auF (k:Nat) (F:ar8):LE→Option LE:=fun a=>(agC k F a 0 ([]:LE))
def anK (k0:Nat):Nat→ar8
 | 0=>{ f37:=fun _=>none }
 | k + 1=>{ f37:=auF k0 (anK k0 k) }
def f37 (k:Nat):LE→Option LE:=(anK k k).f37
structure apV where
 f22:LS→Option LS
def ahs (k:Nat) (F:apV) (b:LS) (c:Nat) (d:Int) (e:BA) (f:BA) (g:Int) (h:LE) (i:LS) (j:LS) (l:LS) (nx1:Nat→LS→Option LS):LC→Nat→LC→Option LS
 | [],m,a=>(aaT (decide ((b.length + 1) * 184 ≤ 140737488355328)) (nx1 (c + 1) (b ++ [(aaf.mk d e 0 f 0 g h i j l a)])))
 | (.mk n o u p q) :: r,m,a=>((f37 k p).bind fun s=>((F.f22 q).bind fun t=>(aaT (decide ((a.length + 1) * 80 ≤ 140737488355328)) ((ahs k F b c d e f g h i j l nx1 r) (m + 1) (a ++ [(aaB.mk n o 0 s t)])))))
def afS (k:Nat) (F:apV)  : LS→Nat→LS→Option LS
 | [],b,a=>(some a)
 | (.mk c d r e s f g h i j l) :: m,b,a=>((f37 k g).bind fun n=>((F.f22 h).bind fun o=>((F.f22 i).bind fun p=>((F.f22 j).bind fun q=>(ahs k F a b c d e f n o p q (afS k F m) l 0 ([]:LC))))))
def avB (k:Nat) (F:apV):LS→Option LS:=fun a=>(afS k F a 0 ([]:LS))
def amv (k0:Nat):Nat→apV
 | 0=>{ f22:=fun _=>none }
 | k + 1=>{ f22:=avB k0 (amv k0 k) }
def f22 (k:Nat):LS→Option LS:=(amv k k).f22
def ahA (k:Nat)  : Nat→LF→Int→Option aaa
 | 0,_,_=>none
 | j720 + 1,b,a=>(cond (decide (a < (b.length:Int))) ((idxO b a).bind fun q_=>match q_ with | .mk c d e f i g=>((f22 k g).bind fun h=>((ahA k j720) ((b.set a.toNat (aae.mk c d e f 0 g)).set a.toNat (aae.mk c d e f 0 h)) (w64 (a + 1))))) (some (aaa.mk b)))
def atm (k:Nat):aaa→Option aaa:=fun a =>
 match a with
 | .mk b=>((f14 k (aaa.mk b)).bind fun q_=>match q_ with | .mk c=>(ahA k k c 0))
def f11 (k:Nat):aaa→Option aaa:=atm k
def asY (k:Nat):aar→Bool→Option aar:=fun d a =>
 match d,a with
 | .mk b c e,a=>(cond (!a) (some (aar.mk b c true)) (some (aar.mk b c e)))
def f38 (k:Nat):aar→Bool→Option aar:=asY k
def amo (k:Nat) (a:Int) (b:Int) (d:Bool) (c:Int) (e:Bool):Option aar:=(cond e (some (aar.mk (w64 (a + 1)) (imax b c) true)) (some (aar.mk (w64 (a + 1)) (imax b c) d)))
def asM (k:Nat):aar→Int→Option aar:=fun e a =>
 match e,a with
 | .mk b c d,a=>(cond (decide ((w64 (b + 1)) > 600)) (amo k b c d a true) (amo k b c d a (decide (a > 16))))
def f39 (k:Nat):aar→Int→Option aar:=asM k
def amY (k:Nat) (a:Bool):Option Bool:=(some a)
def asV (k:Nat):Int→Option Bool:=fun a=>(cond (decide (a ≥ 97)) (amY k (decide (a ≤ 122))) (amY k false))
def f58 (k:Nat):Int→Option Bool:=asV k
def amV (k:Nat) (a:Bool):Option Bool:=(some a)
def atp (k:Nat):Int→Option Bool:=fun a=>(cond (decide (a ≥ 48)) (amV k (decide (a ≤ 57))) (amV k false))
def f59 (k:Nat):Int→Option Bool:=atp k
def auy (k:Nat):Option LB:=(some [⟨#[97,102,116,101,114]⟩,⟨#[97,119,97,105,116]⟩,⟨#[98,111,111,108]⟩,⟨#[98,114,101,97,107]⟩,⟨#[98,117,102,102,101,114]⟩,⟨#[99,97,110,99,101,108]⟩,⟨#[99,97,116,99,104]⟩,⟨#[99,104,97,110]⟩,⟨#[99,108,111,115,101]⟩,⟨#[99,111,110,116,105,110,117,101]⟩,⟨#[100,114,111,112]⟩,⟨#[101,97,99,104]⟩,⟨#[101,108,115,101]⟩,⟨#[101,109,105,116]⟩,⟨#[102,97,108,115,101]⟩,⟨#[102,105,110,97,108,108,121]⟩,⟨#[102,108,111,119]⟩,⟨#[102,110]⟩,⟨#[102,114,111,109]⟩,⟨#[104,111,108,100]⟩,⟨#[105,102]⟩,⟨#[105,110,116]⟩,⟨#[108,101,116]⟩,⟨#[108,111,99,107]⟩,⟨#[110,101,119]⟩,⟨#[110,111,119]⟩,⟨#[111,108,100]⟩,⟨#[112,114,111,100,117,99,101]⟩,⟨#[114,101,99,101,105,118,101]⟩,⟨#[114,101,116,117,114,110]⟩,⟨#[115,99,111,112,101]⟩,⟨#[115,101,108,101,99,116]⟩,⟨#[115,101,110,100]⟩,⟨#[115,104,105,101,108,100]⟩,⟨#[115,108,101,101,112]⟩,⟨#[115,112,97,119,110]⟩,⟨#[115,117,112,101,114,118,105,115,101,100]⟩,⟨#[116,97,115,107]⟩,⟨#[116,101,120,116]⟩,⟨#[116,104,114,111,119]⟩,⟨#[116,114,117,101]⟩,⟨#[116,114,121]⟩,⟨#[117,115,101]⟩,⟨#[119,104,105,108,101]⟩,⟨#[119,105,116,104,105,110]⟩,⟨#[121,105,101,108,100]⟩])
def f86 (k:Nat):Option LB:=auy k
def aiQ (k:Nat) (a:BA):LB→Nat→Option Bool
 | [],b=>(some false)
 | c :: d,b=>(cond (seq c a) (some true) ((aiQ k a d) (b + 1)))
def asO (k:Nat):BA→Option Bool:=fun a=>((f86 k ).bind fun b=>(aiQ k a b 0))
def f60 (k:Nat):BA→Option Bool:=asO k
def ajS (k:Nat) (a:Bool):Option Bool:=(some a)
def ajH (k:Nat) (a:Nat) (b:Bool) (nx1:Nat→Option Bool):Option Bool:=(cond b (some false) (nx1 (a + 1)))
def ae5 (k:Nat) (a:BA):List UInt8→Nat→Option Bool
 | [],b=>(cond (decide ((a.size:Int) ≥ 1)) (cond (decide ((a.size:Int) ≤ 12)) ((f60 k a).bind fun e=>(ajS k (!e))) (ajS k false)) (ajS k false))
 | d :: c,b=>((f58 k (d.toNat:Int)).bind fun f=>(cond (!f) (cond ((b:Int) == 0) (ajH k b true (ae5 k a c)) ((f59 k (d.toNat:Int)).bind fun g=>(ajH k b (!g) (ae5 k a c)))) (ajH k b false (ae5 k a c))))
def avt (k:Nat):BA→Option Bool:=fun a=>(ae5 k a a.data.toList 0)
def f40 (k:Nat):BA→Option Bool:=avt k
def amK (k:Nat) (a:Int) (b:Bool):Option (abD × Bool):=(cond b (some ((abD.mk 1 1 0 false true 0),true)) (cond (a == 22) (some ((abD.mk 0 1 0 false true 1),true)) (cond (a == 23) (some ((abD.mk 0 0 0 false true 0),true)) (cond (a == 24) (some ((abD.mk 0 0 2 false true 3),true)) (cond (a == 25) (some ((abD.mk 1 1 1 false true 0),true)) (cond (a == 28) (some ((abD.mk 0 600 1 true true 66),true)) (some ((abD.mk 0 0 0 false false 0),false))))))))
def ai2 (k:Nat) (a:Int) (b:Bool):Option (abD × Bool):=(cond b (some ((abD.mk 0 0 0 false false 0),true)) (cond (a == 17) (some ((abD.mk 0 1 0 false false 0),true)) (cond (a == 20) (some ((abD.mk 1 1 0 false true 1),true)) (cond (a == 21) (amK k a (a == 21)) (amK k a (a == 26))))))
def agt (k:Nat) (a:Int) (b:Bool):Option (abD × Bool):=(cond b (some ((abD.mk 1 1 0 false false 0),true)) (cond (a == 13) (ai2 k a (a == 13)) (cond (a == 18) (ai2 k a (a == 18)) (cond (a == 19) (ai2 k a (a == 19)) (ai2 k a (a == 27))))))
def al3 (k:Nat) (a:Int) (b:Bool):Option (abD × Bool):=(cond b (some ((abD.mk 0 600 2 true false 0),true)) (cond (a == 5) (some ((abD.mk 1 1 2 false false 0),true)) (cond (a == 6) (some ((abD.mk 1 1 2 false false 1),true)) (cond (a == 10) (some ((abD.mk 2 2 0 false false 0),true)) (cond (a == 11) (agt k a (a == 11)) (cond (a == 12) (agt k a (a == 12)) (cond (a == 14) (agt k a (a == 14)) (cond (a == 15) (agt k a (a == 15)) (cond (a == 16) (agt k a (a == 16)) (agt k a (a == 29)))))))))))
def ajp (k:Nat) (a:Int) (b:Bool):Option (abD × Bool):=(cond b (some ((abD.mk 1 1 1 false false 0),true)) (cond (a == 7) (some ((abD.mk 1 1 1 false false 2),true)) (cond (a == 9) (some ((abD.mk 0 0 1 false false 0),true)) (cond (a == 3) (al3 k a (a == 3)) (al3 k a (a == 4))))))
def atj (k:Nat):Int→Option (abD × Bool):=fun a=>(cond (a == 1) (ajp k a (a == 1)) (cond (a == 2) (ajp k a (a == 2)) (ajp k a (a == 8))))
def f87 (k:Nat):Int→Option (abD × Bool):=atj k
def ai5 (k:Nat) (a:Nat) (b:Bool) (nx1:Nat→Option Bool):Option Bool:=(cond b (some false) (nx1 (a + 1)))
def aed (k:Nat) (a:BA):List UInt8→Nat→Option Bool
 | [],b=>(some (decide ((a.size:Int) ≤ 60)))
 | c :: d,b=>(cond (decide ((c.toNat:Int) < 32)) (ai5 k b true (aed k a d)) (ai5 k b (decide ((c.toNat:Int) > 126)) (aed k a d)))
def aq5 (k:Nat):BA→Option Bool:=fun a=>(aed k a a.data.toList 0)
def f106 (k:Nat):BA→Option Bool:=aq5 k
structure amx where
 f88:aar→aah→Int→Bool→Option aar
def afQ (k:Nat) (F:amx) (d:Int) (e:Bool):LE→Nat→Int→Int→Bool→Option aar
 | [],f,b,c,a=>(some (aar.mk b c a))
 | (.mk g h i j l) :: m,f,b,c,a=>(cond (!a) ((F.f88 (aar.mk b c a) (aah.mk g h i j l) (w64 (d + 1)) e).bind fun q_=>match q_ with | .mk n o p=>((afQ k F d e m) (f + 1) n o p)) (some (aar.mk b c a)))
def ac0 (k:Nat) (F:amx) (a:LE) (b:Int) (c:Bool) (d:Int) (e:Int) (f:Bool) (g:Int):Option aar:=((f38 k (aar.mk d e f) ((a.length:Int) == g)).bind fun q_=>match q_ with | .mk h i j=>(afQ k F b c a 0 h i j))
def amL (k:Nat) (F:amx) (g:Int) (h:Int) (i:BA) (a:LE) (b:Int) (c:Bool) (d:Int) (e:Int) (f:Bool) (j:Bool):Option aar:=(cond j (cond (h == 0) ((f38 k (aar.mk d e f) (seq i ⟨#[]⟩)).bind fun q_=>match q_ with | .mk l m n=>(ac0 k F a b c l m n 1)) ((f38 k (aar.mk d e f) false).bind fun q_=>match q_ with | .mk o p q=>(ac0 k F a b c o p q 1))) (cond (decide (g ≥ 7)) (cond (decide (g ≤ 19)) (cond (h == 0) ((f38 k (aar.mk d e f) (seq i ⟨#[]⟩)).bind fun q_=>match q_ with | .mk r s t=>(ac0 k F a b c r s t 2)) ((f38 k (aar.mk d e f) false).bind fun q_=>match q_ with | .mk u v w=>(ac0 k F a b c u v w 2))) ((f38 k (aar.mk d e f) false).bind fun q_=>match q_ with | .mk x y z=>(ac0 k F a b c x y z 2))) ((f38 k (aar.mk d e f) false).bind fun q_=>match q_ with | .mk A B C=>(ac0 k F a b c A B C 2))))
def ajB (k:Nat) (F:amx) (g:Int) (h:Int) (i:BA) (a:LE) (b:Int) (c:Bool) (d:Int) (e:Int) (f:Bool):Option aar:=(cond (g == 1) (cond (decide (h ≥ 0)) (cond (decide (h ≤ 1000000000000)) ((f38 k (aar.mk d e f) (seq i ⟨#[]⟩)).bind fun q_=>match q_ with | .mk j l m=>(ac0 k F a b c j l m 0)) ((f38 k (aar.mk d e f) false).bind fun q_=>match q_ with | .mk n o p=>(ac0 k F a b c n o p 0))) ((f38 k (aar.mk d e f) false).bind fun q_=>match q_ with | .mk q r s=>(ac0 k F a b c q r s 0))) (cond (g == 2) (cond (h == 0) ((f38 k (aar.mk d e f) (seq i ⟨#[]⟩)).bind fun q_=>match q_ with | .mk t u v=>(ac0 k F a b c t u v 0)) (cond (h == 1) ((f38 k (aar.mk d e f) (seq i ⟨#[]⟩)).bind fun q_=>match q_ with | .mk w x y=>(ac0 k F a b c w x y 0)) ((f38 k (aar.mk d e f) false).bind fun q_=>match q_ with | .mk z A B=>(ac0 k F a b c z A B 0)))) (cond (g == 3) (cond (h == 0) ((f106 k i).bind fun C=>((f38 k (aar.mk d e f) C).bind fun q_=>match q_ with | .mk D G I=>(ac0 k F a b c D G I 0))) ((f38 k (aar.mk d e f) false).bind fun q_=>match q_ with | .mk J N O=>(ac0 k F a b c J N O 0))) (cond (g == 4) (cond (h == 0) ((f40 k i).bind fun S=>((f38 k (aar.mk d e f) S).bind fun q_=>match q_ with | .mk U V W=>(ac0 k F a b c U V W 0))) ((f38 k (aar.mk d e f) false).bind fun q_=>match q_ with | .mk X Y Z=>(ac0 k F a b c X Y Z 0))) (cond (g == 5) (amL k F g h i a b c d e f true) (amL k F g h i a b c d e f (g == 6)))))))
def aqO (k:Nat) (F:amx):aar→aah→Int→Bool→Option aar:=fun n o a b =>
 match n,o,a,b with
 | .mk d e c,.mk f g h p i,a,b=>(cond c (some (aar.mk d e c)) ((f39 k (aar.mk d e c) a).bind fun q_=>match q_ with | .mk j l m=>(cond b ((f38 k (aar.mk j l m) true).bind fun q_=>match q_ with | .mk q r s=>(ajB k F f g h i a b q r s)) ((f38 k (aar.mk j l m) (p == 0)).bind fun q_=>match q_ with | .mk t u v=>(ajB k F f g h i a b t u v)))))
def amz (k0:Nat):Nat→amx
 | 0=>{ f88:=fun _ _ _ _=>none }
 | k + 1=>{ f88:=aqO k0 (amz k0 k) }
def f88 (k:Nat):aar→aah→Int→Bool→Option aar:=(amz k k).f88
structure ac8 where
 f41:aar→LS→Int→Option aar
 f61:aar→aaf→Int→Option aar
 f89:aar→aaB→Int→Option aar
def agq (k:Nat) (F:ac8) (d:Int):LS→Nat→Int→Int→Bool→Option aar
 | [],e,b,c,a=>(some (aar.mk b c a))
 | (.mk f g h i j l m n o p q) :: r,e,b,c,a=>(cond (!a) ((F.f61 (aar.mk b c a) (aaf.mk f g h i j l m n o p q) d).bind fun q_=>match q_ with | .mk s t u=>((agq k F d r) (e + 1) s t u)) (some (aar.mk b c a)))
def av8 (k:Nat) (F:ac8):aar→LS→Int→Option aar:=fun c a b =>
 match c,a,b with
 | .mk d e f,a,b=>(agq k F b a 0 d e f)
def agf (k:Nat) (F:ac8) (a:Nat) (b:Int) (c:Int) (d:Bool) (nx1:Nat→Int→Int→Bool→Option aar):Option aar:=(nx1 (a + 1) b c d)
def aek (k:Nat) (F:ac8) (e:LC) (f:Int):LC→Nat→Int→Int→Bool→Option aar
 | [],b,c,d,a=>(some (aar.mk c d a))
 | (.mk g m n o p) :: h,b,c,d,a=>(cond (!a) ((F.f89 (aar.mk c d a) (aaB.mk g m n o p) (w64 (f + 1))).bind fun q_=>match q_ with | .mk i j l=>(cond (g != 4) ((f38 k (aar.mk i j l) true).bind fun q_=>match q_ with | .mk q r s=>(agf k F b q r s (aek k F e f h))) ((f38 k (aar.mk i j l) ((b:Int) == (w64 ((e.length:Int) - 1)))).bind fun q_=>match q_ with | .mk t u v=>(agf k F b t u v (aek k F e f h))))) (some (aar.mk c d a)))
def ahq (k:Nat) (F:ac8) (c:LS) (d:LS) (e:LS) (b:LC) (a:Int) (f:Int) (g:Int) (h:Bool):Option aar:=((F.f41 (aar.mk f g h) c (w64 (a + 1))).bind fun q_=>match q_ with | .mk i j l=>((F.f41 (aar.mk i j l) d (w64 (a + 1))).bind fun q_=>match q_ with | .mk m n o=>((F.f41 (aar.mk m n o) e (w64 (a + 1))).bind fun q_=>match q_ with | .mk p q r=>(aek k F b a b 0 p q r))))
def ac6 (k:Nat) (F:ac8) (e:LS) (f:LS) (g:LS) (h:LC) (b:Int):LE→Nat→Int→Int→Bool→Option aar
 | [],i,c,d,a=>(ahq k F e f g h b c d a)
 | (.mk j l m n o) :: p,i,c,d,a=>(cond (!a) ((f88 k (aar.mk c d a) (aah.mk j l m n o) (w64 (b + 1)) false).bind fun q_=>match q_ with | .mk q r s=>((ac6 k F e f g h b p) (i + 1) q r s)) (ahq k F e f g h b c d a))
def amX (k:Nat) (F:ac8) (a:LE) (b:LS) (c:LS) (d:LS) (e:LC) (f:Int) (g:Int) (h:Int) (i:Bool):Option aar:=(ac6 k F b c d e f a 0 g h i)
def afX (k:Nat) (F:ac8) (j:Int) (b:LE) (c:LS) (d:LS) (e:LS) (a:LC) (f:Int) (g:Int) (h:Int) (i:Bool):Option aar:=(cond ((j == 27) == (decide ((a.length:Int) > 0))) ((f38 k (aar.mk g h i) (decide ((a.length:Int) ≤ 4))).bind fun q_=>match q_ with | .mk l m n=>(amX k F b c d e a f l m n)) ((f38 k (aar.mk g h i) false).bind fun q_=>match q_ with | .mk o p q=>(amX k F b c d e a f o p q)))
def ajC (k:Nat) (F:ac8) (a:Int) (m:BA) (l:Int) (b:LE) (c:LS) (d:LS) (e:LS) (f:LC) (g:Int) (h:Int) (i:Int) (j:Bool):Option aar:=(cond (a == 6) (cond (l == 0) ((f38 k (aar.mk h i j) true).bind fun q_=>match q_ with | .mk n o p=>(afX k F a b c d e f g n o p)) ((f38 k (aar.mk h i j) (!seq m ⟨#[]⟩)).bind fun q_=>match q_ with | .mk q r s=>(afX k F a b c d e f g q r s))) (cond (a == 24) (cond (decide (l > 0)) ((f38 k (aar.mk h i j) (((l.tmod 2) == 1) == (!seq m ⟨#[]⟩))).bind fun q_=>match q_ with | .mk t u v=>(afX k F a b c d e f g t u v)) ((f38 k (aar.mk h i j) false).bind fun q_=>match q_ with | .mk w x y=>(afX k F a b c d e f g w x y))) (cond (a == 28) ((f38 k (aar.mk h i j) (decide ((l.tmod 4) < 3))).bind fun q_=>match q_ with | .mk z A B=>(afX k F a b c d e f g z A B)) (afX k F a b c d e f g h i j))))
def agF (k:Nat) (F:ac8) (a:Int) (d:BA) (b:Int) (e:LE) (f:LS) (g:LS) (c:LS) (h:LC) (i:Int) (j:Int) (l:Int) (m:Bool):Option aar:=(cond ((c.length:Int) == 0) ((f38 k (aar.mk j l m) true).bind fun q_=>match q_ with | .mk n o p=>(ajC k F a d b e f g c h i n o p)) (cond (a == 24) ((f38 k (aar.mk j l m) (decide (b ≥ 2))).bind fun q_=>match q_ with | .mk q r s=>(ajC k F a d b e f g c h i q r s)) ((f38 k (aar.mk j l m) false).bind fun q_=>match q_ with | .mk t u v=>(ajC k F a d b e f g c h i t u v))))
def ajm (k:Nat) (F:ac8) (a:Int) (d:BA) (b:Int) (e:LE) (f:LS) (c:LS) (g:LS) (h:LC) (i:Int) (j:Int) (l:Int) (m:Bool):Option aar:=(cond ((c.length:Int) == 0) ((f38 k (aar.mk j l m) true).bind fun q_=>match q_ with | .mk n o p=>(agF k F a d b e f c g h i n o p)) (cond (a == 20) (cond (b == 1) ((f38 k (aar.mk j l m) true).bind fun q_=>match q_ with | .mk q r s=>(agF k F a d b e f c g h i q r s)) (cond (a == 24) ((f38 k (aar.mk j l m) ((b.tmod 2) == 1)).bind fun q_=>match q_ with | .mk t u v=>(agF k F a d b e f c g h i t u v)) ((f38 k (aar.mk j l m) false).bind fun q_=>match q_ with | .mk w x y=>(agF k F a d b e f c g h i w x y)))) (cond (a == 24) ((f38 k (aar.mk j l m) ((b.tmod 2) == 1)).bind fun q_=>match q_ with | .mk z A B=>(agF k F a d b e f c g h i z A B)) ((f38 k (aar.mk j l m) false).bind fun q_=>match q_ with | .mk C D G=>(agF k F a d b e f c g h i C D G)))))
def ahH (k:Nat) (F:ac8) (b:Int) (c:BA) (d:Int) (e:LE) (a:LS) (f:LS) (g:LS) (h:LC) (i:Int) (n:Bool) (j:Int) (l:Int) (m:Bool):Option aar:=(cond n ((f38 k (aar.mk j l m) true).bind fun q_=>match q_ with | .mk o p q=>(ajm k F b c d e a f g h i o p q)) ((f38 k (aar.mk j l m) ((a.length:Int) == 0)).bind fun q_=>match q_ with | .mk r s t=>(ajm k F b c d e a f g h i r s t)))
def adu (k:Nat) (F:ac8) (a:Int) (b:BA) (o:BA) (c:Int) (d:LE) (e:LS) (f:LS) (g:LS) (h:LC) (i:Int) (p:Bool) (j:Bool) (l:Int) (m:Int) (n:Bool):Option aar:=(cond p ((f40 k o).bind fun q=>(cond q ((f38 k (aar.mk l m n) true).bind fun q_=>match q_ with | .mk r s t=>(ahH k F a b c d e f g h i j r s t)) (cond (!p) ((f38 k (aar.mk l m n) (seq o ⟨#[]⟩)).bind fun q_=>match q_ with | .mk u v w=>(ahH k F a b c d e f g h i j u v w)) ((f38 k (aar.mk l m n) false).bind fun q_=>match q_ with | .mk x y z=>(ahH k F a b c d e f g h i j x y z))))) (cond (!p) ((f38 k (aar.mk l m n) (seq o ⟨#[]⟩)).bind fun q_=>match q_ with | .mk A B C=>(ahH k F a b c d e f g h i j A B C)) ((f38 k (aar.mk l m n) false).bind fun q_=>match q_ with | .mk D G I=>(ahH k F a b c d e f g h i j D G I))))
def ae2 (k:Nat) (F:ac8) (b:Int) (a:BA) (c:BA) (d:Int) (e:LE) (f:LS) (g:LS) (h:LS) (i:LC) (j:Int) (q:Int) (l:Bool) (m:Bool) (n:Int) (o:Int) (p:Bool):Option aar:=(cond (q == 0) (cond (seq a ⟨#[]⟩) ((f38 k (aar.mk n o p) true).bind fun q_=>match q_ with | .mk r s t=>(adu k F b a c d e f g h i j l m r s t)) (cond (q == 1) ((f40 k a).bind fun u=>(cond u ((f38 k (aar.mk n o p) true).bind fun q_=>match q_ with | .mk v w x=>(adu k F b a c d e f g h i j l m v w x)) (cond (q == 2) ((f40 k a).bind fun y=>((f38 k (aar.mk n o p) y).bind fun q_=>match q_ with | .mk z A B=>(adu k F b a c d e f g h i j l m z A B))) ((f38 k (aar.mk n o p) false).bind fun q_=>match q_ with | .mk C D G=>(adu k F b a c d e f g h i j l m C D G))))) (cond (q == 2) ((f40 k a).bind fun I=>((f38 k (aar.mk n o p) I).bind fun q_=>match q_ with | .mk J N O=>(adu k F b a c d e f g h i j l m J N O))) ((f38 k (aar.mk n o p) false).bind fun q_=>match q_ with | .mk S U V=>(adu k F b a c d e f g h i j l m S U V))))) (cond (q == 1) ((f40 k a).bind fun W=>(cond W ((f38 k (aar.mk n o p) true).bind fun q_=>match q_ with | .mk X Y Z=>(adu k F b a c d e f g h i j l m X Y Z)) (cond (q == 2) (cond (seq a ⟨#[]⟩) ((f38 k (aar.mk n o p) true).bind fun q_=>match q_ with | .mk ab ac ad=>(adu k F b a c d e f g h i j l m ab ac ad)) ((f40 k a).bind fun ae=>((f38 k (aar.mk n o p) ae).bind fun q_=>match q_ with | .mk af ag ah=>(adu k F b a c d e f g h i j l m af ag ah)))) ((f38 k (aar.mk n o p) false).bind fun q_=>match q_ with | .mk ai aj ak=>(adu k F b a c d e f g h i j l m ai aj ak))))) (cond (q == 2) (cond (seq a ⟨#[]⟩) ((f38 k (aar.mk n o p) true).bind fun q_=>match q_ with | .mk al am an=>(adu k F b a c d e f g h i j l m al am an)) ((f40 k a).bind fun ao=>((f38 k (aar.mk n o p) ao).bind fun q_=>match q_ with | .mk ap aq ar=>(adu k F b a c d e f g h i j l m ap aq ar)))) ((f38 k (aar.mk n o p) false).bind fun q_=>match q_ with | .mk au av aw=>(adu k F b a c d e f g h i j l m au av aw)))))
def ao4 (k:Nat) (F:ac8):aar→aaf→Int→Option aar:=fun u v a =>
 match u,v,a with
 | .mk s t r,.mk d e w f x b c g h i j,a=>(cond r (some (aar.mk s t r)) ((f39 k (aar.mk s t r) a).bind fun q_=>match q_ with | .mk l m n=>((f87 k d).bind fun q_=>match q_ with | (.mk y z o p q A,B)=>(cond B (cond (decide ((c.length:Int) ≥ y)) (cond (decide ((c.length:Int) ≤ z)) (cond (decide (b ≥ 0)) (cond (decide (b ≤ A)) (cond (w == 0) ((f38 k (aar.mk l m n) (x == 0)).bind fun q_=>match q_ with | .mk C D G=>(ae2 k F d e f b c g h i j a o p q C D G)) ((f38 k (aar.mk l m n) false).bind fun q_=>match q_ with | .mk I J N=>(ae2 k F d e f b c g h i j a o p q I J N))) ((f38 k (aar.mk l m n) false).bind fun q_=>match q_ with | .mk O S U=>(ae2 k F d e f b c g h i j a o p q O S U))) ((f38 k (aar.mk l m n) false).bind fun q_=>match q_ with | .mk V W X=>(ae2 k F d e f b c g h i j a o p q V W X))) ((f38 k (aar.mk l m n) false).bind fun q_=>match q_ with | .mk Y Z ab=>(ae2 k F d e f b c g h i j a o p q Y Z ab))) ((f38 k (aar.mk l m n) false).bind fun q_=>match q_ with | .mk ac ad ae=>(ae2 k F d e f b c g h i j a o p q ac ad ae))) ((f38 k (aar.mk l m n) false).bind fun q_=>match q_ with | .mk af ag ah=>(ae2 k F d e f b c g h i j a o p q af ag ah))))))
def ahx (k:Nat) (F:ac8) (a:LS) (b:Int) (c:Int) (d:Int) (e:Bool):Option aar:=((F.f41 (aar.mk c d e) a (w64 (b + 1))).bind fun q_=>match q_ with | .mk f g h=>(some (aar.mk f g h)))
def aem (k:Nat) (F:ac8) (e:LS) (b:Int):LE→Nat→Int→Int→Bool→Option aar
 | [],f,c,d,a=>(ahx k F e b c d a)
 | (.mk g h i j l) :: m,f,c,d,a=>(cond (!a) ((f88 k (aar.mk c d a) (aah.mk g h i j l) (w64 (b + 1)) false).bind fun q_=>match q_ with | .mk n o p=>((aem k F e b m) (f + 1) n o p)) (ahx k F e b c d a))
def ahu (k:Nat) (F:ac8) (a:LE) (b:LS) (c:Int) (d:Int) (e:Int) (f:Bool):Option aar:=(aem k F b c a 0 d e f)
def aie (k:Nat) (F:ac8) (g:Int) (h:BA) (a:LE) (b:LS) (c:Int) (d:Int) (e:Int) (f:Bool):Option aar:=(cond (g == 1) ((f40 k h).bind fun i=>(cond i ((f38 k (aar.mk d e f) true).bind fun q_=>match q_ with | .mk j l m=>(ahu k F a b c j l m)) (cond (g != 1) ((f38 k (aar.mk d e f) (seq h ⟨#[]⟩)).bind fun q_=>match q_ with | .mk n o p=>(ahu k F a b c n o p)) ((f38 k (aar.mk d e f) false).bind fun q_=>match q_ with | .mk q r s=>(ahu k F a b c q r s))))) (cond (g != 1) ((f38 k (aar.mk d e f) (seq h ⟨#[]⟩)).bind fun q_=>match q_ with | .mk t u v=>(ahu k F a b c t u v)) ((f38 k (aar.mk d e f) false).bind fun q_=>match q_ with | .mk w x y=>(ahu k F a b c w x y))))
def ajI (k:Nat) (F:ac8) (a:Int) (c:BA) (i:Int) (b:LE) (d:LS) (e:Int) (f:Int) (g:Int) (h:Bool) (j:Int):Option aar:=(cond (decide (a ≥ 1)) (cond (decide (a ≤ 4)) (cond ((b.length:Int) == j) ((f38 k (aar.mk f g h) (i == 0)).bind fun q_=>match q_ with | .mk l m n=>(aie k F a c b d e l m n)) ((f38 k (aar.mk f g h) false).bind fun q_=>match q_ with | .mk o p q=>(aie k F a c b d e o p q))) ((f38 k (aar.mk f g h) false).bind fun q_=>match q_ with | .mk r s t=>(aie k F a c b d e r s t))) ((f38 k (aar.mk f g h) false).bind fun q_=>match q_ with | .mk u v w=>(aie k F a c b d e u v w)))
def aoV (k:Nat) (F:ac8):aar→aaB→Int→Option aar:=fun j l a =>
 match j,l,a with
 | .mk m n o,.mk b c d e f,a=>((f39 k (aar.mk m n o) a).bind fun q_=>match q_ with | .mk g h i=>(cond (b == 2) (ajI k F b c d e f a g h i 2) (cond (b == 4) (ajI k F b c d e f a g h i 0) (ajI k F b c d e f a g h i 1))))
def acK (k0:Nat):Nat→ac8
 | 0=>{ f41:=fun _ _ _=>none,f61:=fun _ _ _=>none,f89:=fun _ _ _=>none }
 | k + 1=>{ f41:=av8 k0 (acK k0 k),f61:=ao4 k0 (acK k0 k),f89:=aoV k0 (acK k0 k) }
def f41 (k:Nat):aar→LS→Int→Option aar:=(acK k k).f41
def f61 (k:Nat):aar→aaf→Int→Option aar:=(acK k k).f61
def f89 (k:Nat):aar→aaB→Int→Option aar:=(acK k k).f89
def aoy (k:Nat) (a:Int) (b:Int) (c:Bool):Option aar:=(some (aar.mk a b c))
def agu (k:Nat) (a:Nat) (b:LS) (c:Int) (d:Int) (e:Bool) (nx1:Nat→Int→Int→Bool→Option aar):Option aar:=((f41 k (aar.mk c d e) b 1).bind fun q_=>match q_ with | .mk f g h=>(nx1 (a + 1) f g h))
def ajM (k:Nat) (a:Nat) (b:Int) (c:Int) (d:Bool) (nx2:Nat→Int→Int→Bool→Option aar):Option aar:=(nx2 (a + 1) b c d)
def ae9 (k:Nat) (d:Nat) (e:LS) (nx1:Nat→Int→Int→Bool→Option aar):LP→Nat→Int→Int→Bool→Option aar
 | [],f,b,c,a=>(agu k d e b c a nx1)
 | (.mk i h) :: g,f,b,c,a=>(cond (!a) ((f40 k i).bind fun j=>(cond j (cond (decide (h ≥ 1)) ((f38 k (aar.mk b c a) (decide (h ≤ 6))).bind fun q_=>match q_ with | .mk l m n=>(ajM k f l m n (ae9 k d e nx1 g))) ((f38 k (aar.mk b c a) false).bind fun q_=>match q_ with | .mk o p q=>(ajM k f o p q (ae9 k d e nx1 g)))) ((f38 k (aar.mk b c a) false).bind fun q_=>match q_ with | .mk r s t=>(ajM k f r s t (ae9 k d e nx1 g))))) (agu k d e b c a nx1))
def afU (k:Nat) (a:Nat) (b:LP) (c:LS) (d:Int) (e:Int) (f:Bool) (nx1:Nat→Int→Int→Bool→Option aar):Option aar:=(ae9 k a c nx1 b 0 d e f)
def acm (k:Nat)  : LF→Nat→Int→Int→Bool→Option aar
 | [],a,i,j,h=>(aoy k i j h)
 | (.mk n b l o m c) :: d,a,i,j,h=>(cond (!h) ((f39 k (aar.mk i j h) 0).bind fun q_=>match q_ with | .mk e f g=>((f40 k n).bind fun p=>(cond p (cond (decide ((b.length:Int) ≤ 4)) (cond (decide (l ≥ 0)) (cond (decide (l ≤ 6)) (cond (!o) ((f38 k (aar.mk e f g) (m == 0)).bind fun q_=>match q_ with | .mk q r s=>(afU k a b c q r s (acm k d))) (cond (l == 0) ((f38 k (aar.mk e f g) (m == 0)).bind fun q_=>match q_ with | .mk t u v=>(afU k a b c t u v (acm k d))) ((f38 k (aar.mk e f g) false).bind fun q_=>match q_ with | .mk w x y=>(afU k a b c w x y (acm k d))))) ((f38 k (aar.mk e f g) false).bind fun q_=>match q_ with | .mk z A B=>(afU k a b c z A B (acm k d)))) ((f38 k (aar.mk e f g) false).bind fun q_=>match q_ with | .mk C D G=>(afU k a b c C D G (acm k d)))) ((f38 k (aar.mk e f g) false).bind fun q_=>match q_ with | .mk I J N=>(afU k a b c I J N (acm k d)))) ((f38 k (aar.mk e f g) false).bind fun q_=>match q_ with | .mk O S U=>(afU k a b c O S U (acm k d)))))) (aoy k i j h))
def aml (k:Nat) (a:LF) (b:Int) (c:Int) (d:Bool):Option aar:=(acm k a 0 b c d)
def asS (k:Nat):aaa→Option aar:=fun b =>
 match b with
 | .mk a=>(cond (decide ((a.length:Int) ≥ 1)) ((f38 k (aar.mk 0 0 false) (decide ((a.length:Int) ≤ 16))).bind fun q_=>match q_ with | .mk c d e=>(aml k a c d e)) ((f38 k (aar.mk 0 0 false) false).bind fun q_=>match q_ with | .mk f g h=>(aml k a f g h)))
def f23 (k:Nat):aaa→Option aar:=asS k
def ask (k:Nat):aaa→Option Bool:=fun a =>
 match a with
 | .mk b=>((f23 k (aaa.mk b)).bind fun q_=>match q_ with | .mk d e c=>(some (!c)))
def f12 (k:Nat):aaa→Option Bool:=ask k
structure aqh where
 f28:LE→Int→Option Int
def anW (k:Nat) (F:aqh) (a:Int):Option Int:=(some a)
def aiV (k:Nat) (F:aqh) (b:Int):LE→Nat→Int→Option Int
 | [],c,a=>(anW k F a)
 | (.mk g h i j d) :: e,c,a=>(cond (decide (a ≤ 2000)) ((F.f28 d (w64 (b + 1))).bind fun f=>((aiV k F b e) (c + 1) (w64 ((w64 (a + 1)) + f)))) (anW k F a))
def aqt (k:Nat) (F:aqh):LE→Int→Option Int:=fun b a=>(cond (decide (a > 60)) (some 4000) (aiV k F a b 0 0))
def anM (k0:Nat):Nat→aqh
 | 0=>{ f28:=fun _ _=>none }
 | k + 1=>{ f28:=aqt k0 (anM k0 k) }
def f28 (k:Nat):LE→Int→Option Int:=(anM k k).f28
structure am0 where
 f18:LS→Int→Option Int
def anX (k:Nat) (F:am0) (a:Int):Option Int:=(some a)
def aoh (k:Nat) (F:am0) (a:Nat) (b:Int) (nx1:Nat→Int→Option Int):Option Int:=(nx1 (a + 1) b)
def aiz (k:Nat) (F:am0) (b:Int) (c:Nat) (nx1:Nat→Int→Option Int):LC→Nat→Int→Option Int
 | [],d,a=>(aoh k F c a nx1)
 | (.mk j l m e f) :: g,d,a=>(cond (decide (a ≤ 2000)) ((f28 k e (w64 (b + 1))).bind fun h=>((F.f18 f (w64 (b + 1))).bind fun i=>((aiz k F b c nx1 g) (d + 1) (w64 ((w64 ((w64 (a + 1)) + h)) + i))))) (aoh k F c a nx1))
def agK (k:Nat) (F:am0) (a:Int):LS→Nat→Int→Option Int
 | [],c,b=>(anX k F b)
 | (.mk o p q r s t d e f g h) :: i,c,b=>(cond (decide (b ≤ 2000)) ((f28 k d (w64 (a + 1))).bind fun j=>((F.f18 e (w64 (a + 1))).bind fun l=>((F.f18 f (w64 (a + 1))).bind fun m=>((F.f18 g (w64 (a + 1))).bind fun n=>(aiz k F a c (agK k F a i) h 0 (w64 ((w64 ((w64 ((w64 ((w64 (b + 1)) + j)) + l)) + m)) + n))))))) (anX k F b))
def apF (k:Nat) (F:am0):LS→Int→Option Int:=fun b a=>(cond (decide (a > 40)) (some 4000) (agK k F a b 0 0))
def amr (k0:Nat):Nat→am0
 | 0=>{ f18:=fun _ _=>none }
 | k + 1=>{ f18:=apF k0 (amr k0 k) }
def f18 (k:Nat):LS→Int→Option Int:=(amr k k).f18
def ast (k:Nat) (a:Int):Option Bool:=(some (decide (a ≤ 2000)))
def anm (k:Nat)  : LF→Nat→Int→Option Bool
 | [],b,a=>(ast k a)
 | (.mk f g h i j c) :: d,b,a=>(cond (decide (a ≤ 2000)) ((f18 k c 0).bind fun e=>((anm k d) (b + 1) (w64 ((w64 (a + 1)) + e)))) (ast k a))
def f7_b (k:Nat):aaa→Option Bool:=fun a =>
 match a with
 | .mk b=>(anm k b 0 0)
def f7 (k:Nat):aaa→Option Bool:=f7_b k
def auW (k:Nat):LS→Option aaa:=fun a=>(some (aaa.mk [(aae.mk ⟨#[109,97,105,110]⟩ [] 0 false 0 []),(aae.mk ⟨#[102]⟩ [] 1 false 0 [(aaf.mk 21 ⟨#[]⟩ 0 ⟨#[]⟩ 0 0 [(aah.mk 2 1 ⟨#[]⟩ 0 [])] a [] [] [])])]))
def f19 (k:Nat):LS→Option aaa:=auW k
def aoj (k:Nat) (a:Bool):Option Bool:=(some a)
def av9 (k:Nat):Int→Option Bool:=fun a=>(cond (decide (a < 0)) (aoj k true) (aoj k (decide (a > 6))))
def f30 (k:Nat):Int→Option Bool:=av9 k
def adR (k:Nat)  : List Int→Nat→Option Int
 | [],a=>(some (-1))
 | b :: c,a=>((f30 k b).bind fun d=>(cond d (some (a:Int)) ((adR k c) (a + 1))))
def agU (k:Nat):(List Int)→Option Int:=fun a=>(adR k a 0)
def aoE (k:Nat):(List Int)→Option Int:=agU k
def ag1 (k:Nat):(List Int)→Option Bool:=fun a=>((aoE k a).bind fun b=>(some (decide (b ≥ 0))))
def aoC (k:Nat):(List Int)→Option Bool:=ag1 k
def avE (k:Nat):aah→Bool→Option Bool:=fun b a =>
 match b,a with
 | .mk c d e f g,a=>((f47 k (aag.mk 0 0 a) (aah.mk c d e f g) 1).bind fun q_=>match q_ with | (.mk i j l,h)=>(some h))
def f31 (k:Nat):aah→Bool→Option Bool:=avE k
structure agh where
 f32:aah→Int→Option Bool
 f1004841:LE→Int→Option Bool
 f1004932:aah→Int→Option Bool
 f1007390:LE→Unit→Int→Option Bool
 f1007438:aah→Unit→Int→Option Bool
 f1009890:LE→Unit→Int→Option Int
def ajq (k:Nat) (F:agh) (a:Bool):Option Bool:=(some a)
def avl (k:Nat) (F:agh):aah→Int→Option Bool:=fun d a =>
 match d,a with
 | .mk e h i b c,a=>(cond (e != 4) ((F.f1004841 c a).bind fun f=>(ajq k F f)) (cond (decide (b ≥ 0)) (cond (decide (b < a)) ((F.f1004841 c a).bind fun g=>(ajq k F g)) (ajq k F false)) (ajq k F false)))
def aha (k:Nat) (F:agh):LE→Int→Option Bool:=fun a s=>((F.f1007390 a () s).bind fun b=>(some (!b)))
def ahb (k:Nat) (F:agh):aah→Int→Option Bool:=fun a b =>
 match a,b with
 | .mk c d e f g,s=>((F.f32 (aah.mk c d e f g) s).bind fun h=>(some h))
def agT (k:Nat) (F:agh):LE→Unit→Int→Option Bool:=fun a _ sA=>((F.f1009890 a () sA).bind fun b=>(some (decide (b ≥ 0))))
def ag4 (k:Nat) (F:agh):aah→Unit→Int→Option Bool:=fun a b c =>
 match a,b,c with
 | .mk d e f g h,_,sA=>((F.f1004932 (aah.mk d e f g h) sA).bind fun i=>(some (!i)))
def adO (k:Nat) (F:agh) (sA:Int):LE→Nat→Option Int
 | [],a=>(some (-1))
 | (.mk b c d e f) :: g,a=>((F.f1007438 (aah.mk b c d e f) () sA).bind fun h=>(cond h (some (a:Int)) ((adO k F sA g) (a + 1))))
def ahe (k:Nat) (F:agh):LE→Unit→Int→Option Int:=fun a _ sA=>(adO k F sA a 0)
def ady (k0:Nat):Nat→agh
 | 0=>{ f32:=fun _ _=>none,f1004841:=fun _ _=>none,f1004932:=fun _ _=>none,f1007390:=fun _ _ _=>none,f1007438:=fun _ _ _=>none,f1009890:=fun _ _ _=>none }
 | k + 1=>{ f32:=avl k0 (ady k0 k),f1004841:=aha k0 (ady k0 k),f1004932:=ahb k0 (ady k0 k),f1007390:=agT k0 (ady k0 k),f1007438:=ag4 k0 (ady k0 k),f1009890:=ahe k0 (ady k0 k) }
def f32 (k:Nat):aah→Int→Option Bool:=(ady k k).f32
def f1004841 (k:Nat):LE→Int→Option Bool:=(ady k k).f1004841
def f1004932 (k:Nat):aah→Int→Option Bool:=(ady k k).f1004932
def f1007390 (k:Nat):LE→Unit→Int→Option Bool:=(ady k k).f1007390
def f1007438 (k:Nat):aah→Unit→Int→Option Bool:=(ady k k).f1007438
def f1009890 (k:Nat):LE→Unit→Int→Option Int:=(ady k k).f1009890
def al4 (k:Nat) (b:Int) (c:Int) (d:BA) (e:Int) (f:LE) (g:(List Int)) (h:Bool):Option (Int × Int):=(cond h (some (0,2)) ((f33 k (aah.mk b c d e f) g).bind fun a=>(cond (a == (-1)) (some (0,23)) (some (a,0)))))
def av5 (k:Nat):aah→(List Int)→Option (Int × Int):=fun g a =>
 match g,a with
 | .mk b c d e f,a=>((aoC k a).bind fun h=>((f31 k (aah.mk b c d e f) true).bind fun i=>(cond (!i) (al4 k b c d e f a true) ((f32 k (aah.mk b c d e f) (a.length:Int)).bind fun j=>(cond (!j) (al4 k b c d e f a true) (al4 k b c d e f a h))))))
def f20 (k:Nat):aah→(List Int)→Option (Int × Int):=av5 k
def anP (k:Nat) (a:Bool):Option Bool:=(some a)
def f8_b (k:Nat):Option Bool:=((f19 k []).bind fun q_=>match q_ with | .mk a=>((f10 k (aaa.mk a)).bind fun q_=>match q_ with | (.mk g,b)=>((f19 k [(aaf.mk 18 ⟨#[]⟩ 0 ⟨#[]⟩ 0 0 [] [] [] [] [])]).bind fun q_=>match q_ with | .mk c=>((f10 k (aaa.mk c)).bind fun q_=>match q_ with | (.mk h,d)=>((f20 k (aah.mk 11 0 ⟨#[]⟩ 0 [(aah.mk 1 0 ⟨#[]⟩ 0 []),(aah.mk 4 0 ⟨#[120]⟩ 1 [])]) [3,1]).bind fun q_=>match q_ with | (e,f)=>(cond (b == 0) (cond (d == 26) (cond (f == 0) (cond (e == 2) (anP k true) (anP k false)) (anP k false)) (anP k false)) (anP k false)))))))
def f8 (k:Nat):Option Bool:=f8_b k
def f9_b (k:Nat):Int→Int→Option Int:=fun b a=>(aaT (decide (¬ (IntKind.u64.wrap a)=0)) (some (w64 ((IntKind.u64.wrap b).tmod (IntKind.u64.wrap a)))))
def f9 (k:Nat):Int→Int→Option Int:=f9_b k
def asJ (k:Nat) (a:LF):Option Bool:=((f12 k (aaa.mk a)).bind fun b=>(cond (!b) ((f8 k ).bind fun c=>(some c)) ((f10 k (aaa.mk a)).bind fun q_=>match q_ with | (.mk f,d)=>(cond (d != 23) (some false) ((f8 k ).bind fun e=>(some e))))))
def asR (k:Nat) (e:LF) (a:Int) (b:LF):Option Bool:=((f12 k (aaa.mk b)).bind fun f=>(cond (!f) ((f8 k ).bind fun g=>(some g)) ((f10 k (aaa.mk b)).bind fun q_=>match q_ with | (.mk o,h)=>(cond (h != 23) (some false) ((f11 k (aaa.mk e)).bind fun q_=>match q_ with | .mk c=>((idxO c a).bind fun q_=>match q_ with | .mk i j l m n d=>(aaT (decide (([(aaf.mk 15 ⟨#[]⟩ 0 ⟨#[]⟩ 0 0 [(aah.mk 2 0 ⟨#[]⟩ 0 [])] [] [] [] [])].length + d.length) * 184 ≤ 140737488355328)) (asJ k (c.set a.toNat (aae.mk i j l m n ([(aaf.mk 15 ⟨#[]⟩ 0 ⟨#[]⟩ 0 0 [(aah.mk 2 0 ⟨#[]⟩ 0 [])] [] [] [] [])] ++ d)))))))))))
def asW (k:Nat) (b:LF) (a:Int) (c:LF):Option Bool:=((f12 k (aaa.mk c)).bind fun f=>(cond (!f) ((f8 k ).bind fun g=>(some g)) ((f10 k (aaa.mk c)).bind fun q_=>match q_ with | (.mk o,h)=>(cond (h != 23) (some false) ((f11 k (aaa.mk b)).bind fun q_=>match q_ with | .mk d=>((idxO d a).bind fun q_=>match q_ with | .mk i j l m n e=>(aaT (decide (([(aaf.mk 12 ⟨#[]⟩ 0 ⟨#[]⟩ 0 0 [(aah.mk 3 0 ⟨#[]⟩ 0 [])] [] [] [] [])].length + e.length) * 184 ≤ 140737488355328)) (asR k b a (d.set a.toNat (aae.mk i j l m n ([(aaf.mk 12 ⟨#[]⟩ 0 ⟨#[]⟩ 0 0 [(aah.mk 3 0 ⟨#[]⟩ 0 [])] [] [] [] [])] ++ e)))))))))))
def ang (k:Nat) (a:LF) (e:Int) (f:Bool):Option Bool:=(cond f ((f8 k ).bind fun g=>(some g)) ((f9 k e (a.length:Int)).bind fun b=>((f10 k (aaa.mk a)).bind fun q_=>match q_ with | (.mk p,h)=>(cond (h != 0) ((f8 k ).bind fun i=>(some i)) ((f11 k (aaa.mk a)).bind fun q_=>match q_ with | .mk c=>((idxO c b).bind fun q_=>match q_ with | .mk j l m n o d=>(aaT (decide (([(aaf.mk 20 ⟨#[]⟩ 0 ⟨#[]⟩ 0 0 [(aah.mk 1 1 ⟨#[]⟩ 0 [])] [] [] [] [])].length + d.length) * 184 ≤ 140737488355328)) (asW k a b (c.set b.toNat (aae.mk j l m n o ([(aaf.mk 20 ⟨#[]⟩ 0 ⟨#[]⟩ 0 0 [(aah.mk 1 1 ⟨#[]⟩ 0 [])] [] [] [] [])] ++ d)))))))))))
def f3_b (k:Nat):aaa→Int→Option Bool:=fun c a =>
 match c,a with
 | .mk b,a=>((f7 k (aaa.mk b)).bind fun d=>(cond (!d) (ang k b a true) (ang k b a ((b.length:Int) == 0))))
def f3 (k:Nat):aaa→Int→Option Bool:=f3_b k
def ak2 (X:aaf→Option (List LS)):Prop:=∀ {K w b c a},X b=some a→GK K→aai K b c→ SR K K w w [] []→Calls Tryz.prog 92 #[.agg c.toArray] w (Ret (fun v_ w_=>∃ K_ Ar0 cr0,v_=sl Ar0 a cr0∧SR K K_ w w_ [] []∧RSl LS (RSlE aaf (fun K=>(aai K)) 11 184 K_) 1 24 K_ Ar0 cr0 a))
def acW (X:LS→Option Bool):Prop:=∀ {K w a b c d},X a=some d→GK K→tS K b c a→ SR K K w w [] []→Calls Tryz.prog 63 #[sl b a c] w (Ret (fun v_ w_=>∃ K_,v_=.bool d∧SR K K_ w w_ [] []))
def acZ (X:aaf→Option Bool):Prop:=∀ {K w a b c},X a=some c→GK K→aai K a b→ SR K K w w [] []→Calls Tryz.prog 90 #[.agg b.toArray] w (Ret (fun v_ w_=>∃ K_,v_=.bool c∧SR K K_ w w_ [] []))
def abf (X:LS→Option Bool):Prop:=∀ {K w a b c d},X a=some d→GK K→tS K b c a→ SR K K w w [] []→Calls Tryz.prog 42 #[sl b a c,.func (.func 90) #[] #[]] w (Ret (fun v_ w_=>∃ K_,v_=.bool d∧SR K K_ w w_ [] []))
def abi (X:LS→Option Int):Prop:=∀ {K w a b c d},X a=some d→GK K→tS K b c a→ SR K K w w [] []→Calls Tryz.prog 62 #[sl b a c,.func (.func 90) #[] #[]] w (Ret (fun v_ w_=>∃ K_,v_=iI d∧SR K K_ w w_ [] []))
def abs (X:(List LS)→Option Bool):Prop:=∀ {K w a b c d},X a=some d→GK K→RSl LS (RSlE aaf (fun K=>(aai K)) 11 184 K) 1 24 K b c a→ SR K K w w [] []→Calls Tryz.prog 91 #[sl b a c,.func (.func 63) #[] #[]] w (Ret (fun v_ w_=>∃ K_,v_=.bool d∧SR K K_ w w_ [] []))
def abd (X:(List LS)→Option Int):Prop:=∀ {K w a b c d},X a=some d→GK K→RSl LS (RSlE aaf (fun K=>(aai K)) 11 184 K) 1 24 K b c a→ SR K K w w [] []→Calls Tryz.prog 107 #[sl b a c,.func (.func 63) #[] #[]] w (Ret (fun v_ w_=>∃ K_,v_=iI d∧SR K K_ w w_ [] []))
def acq (X:LS→Option Bool):Prop:=∀ {K w a b c d},X a=some d→GK K→tS K b c a→ SR K K w w [] []→Calls Tryz.prog 24 #[sl b a c] w (Ret (fun v_ w_=>∃ K_,v_=.bool d∧SR K K_ w w_ [] []))
def aco (X:aaf→Option Bool):Prop:=∀ {K w a b c},X a=some c→GK K→aai K a b→ SR K K w w [] []→Calls Tryz.prog 43 #[.agg b.toArray] w (Ret (fun v_ w_=>∃ K_,v_=.bool c∧SR K K_ w w_ [] []))
def acp (X:aaB→Option Bool):Prop:=∀ {K w a b c},X a=some c→GK K→aaE K a b→ SR K K w w [] []→Calls Tryz.prog 65 #[.agg b.toArray] w (Ret (fun v_ w_=>∃ K_,v_=.bool c∧SR K K_ w w_ [] []))
def aa1 (X:LS→Option Bool):Prop:=∀ {K w a b c d},X a=some d→GK K→tS K b c a→ SR K K w w [] []→Calls Tryz.prog 42 #[sl b a c,.func (.func 43) #[] #[]] w (Ret (fun v_ w_=>∃ K_,v_=.bool d∧SR K K_ w w_ [] []))
def aaZ (X:LS→Option Int):Prop:=∀ {K w a b c d},X a=some d→GK K→tS K b c a→ SR K K w w [] []→Calls Tryz.prog 62 #[sl b a c,.func (.func 43) #[] #[]] w (Ret (fun v_ w_=>∃ K_,v_=iI d∧SR K K_ w w_ [] []))
def aaY (X:LC→Option Bool):Prop:=∀ {K w a b c d},X a=some d→GK K→tC K b c a→ SR K K w w [] []→Calls Tryz.prog 64 #[sl b a c,.func (.func 65) #[] #[]] w (Ret (fun v_ w_=>∃ K_,v_=.bool d∧SR K K_ w w_ [] []))
def aa2 (X:LC→Unit→Option Bool):Prop:=∀ {K w a b c g bs d},X a ()=some d→GK K→tC K b c a→ (fun E:Ents=>SR K K w w E E→Calls Tryz.prog 93 #[sl b a c,.func (.func 94) #[] #[.pointer (some ⟨g,0,none⟩)]] w (Ret (fun v_ w_=>∃ K_,v_=.bool d∧SR K K_ w w_ E E))) [.box bs g #[.func (.func 65) #[] #[]] 111]
def aa3 (X:aaB→Unit→Option Bool):Prop:=∀ {K w a b g bs c},X a ()=some c→GK K→aaE K a b→ (fun E:Ents=>SR K K w w E E→Calls Tryz.prog 94 #[.agg b.toArray,.pointer (some ⟨g,0,none⟩)] w (Ret (fun v_ w_=>∃ K_,v_=.bool c∧SR K K_ w w_ E E))) [.box bs g #[.func (.func 65) #[] #[]] 111]
def aa0 (X:LC→Unit→Option Int):Prop:=∀ {K w a b c g bs d},X a ()=some d→GK K→tC K b c a→ (fun E:Ents=>SR K K w w E E→Calls Tryz.prog 108 #[sl b a c,.func (.func 94) #[] #[.pointer (some ⟨g,0,none⟩)]] w (Ret (fun v_ w_=>∃ K_,v_=iI d∧SR K K_ w w_ E E))) [.box bs g #[.func (.func 65) #[] #[]] 111]
def akU (X:aae→Option (List Int)):Prop:=∀ {K w b c a},X b=some a→GK K→aao K b c→ SR K K w w [] []→Calls Tryz.prog 26 #[.agg c.toArray] w (Ret (fun v_ w_=>∃ K_ Ar0 cr0 yr0,v_=sl Ar0 a cr0∧SR K K_ w w_ [] [eW (zz w) Ar0 a cr0 3 1 yr0]∧Reps (RInt .i64) 1 a yr0∧a.length * 8 ≤ mB))
def ah6 (X:Bool→Int→Option (Except Int Unit)):Prop:=∀ {K w a b res_},X a b=some res_→GK K→ SR K K w w [] []→Calls Tryz.prog 77 #[.bool a,iI b] w (RetP (fun v_ w_=>∃ K_,res_=.ok ()∧v_=.tuple #[]∧SR K K_ w w_ [] []) (fun v_ w_=>∃ c_ K_,res_=.error c_∧v_=.iface 118 (.agg #[iI c_])∧SR K K_ w w_ [] []))
def ai6 (X:Option (List (Int × aaH))):Prop:=∀ {K w a},X =some a→GK K→ SR K K w w [] []→Calls Tryz.prog 148 #[] w (Ret (fun v_ w_=>∃ K_ br0 er0 cr0,v_=.map (some br0)∧SR K K_ w w_ [] [.mp (zz w) br0 er0 cr0]∧MapR kI (VAgg (aaI K_)) a er0.toList))
def akM (X:Int→Int→Int→Option Bool):Prop:=∀ {K w a b c d},X a b c=some d→GK K→ SR K K w w [] []→Calls Tryz.prog 69 #[iI a,iI b,iI c] w (Ret (fun v_ w_=>∃ K_,v_=.bool d∧SR K K_ w w_ [] []))
def ail (X:aaf→Option Bool):Prop:=∀ {K w a b c},X a=some c→GK K→aai K a b→ SR K K w w [] []→Calls Tryz.prog 149 #[.agg b.toArray] w (Ret (fun v_ w_=>∃ K_,v_=.bool c∧SR K K_ w w_ [] []))
def akk (X:aag→Int→Option (aag × Bool)):Prop:=∀ {K w g bs a b c d e f h i},X (aag.mk a b c) d=some ((aag.mk e f h),i)→GK K→ (fun E:Ents=>SR K K w w E E→Calls Tryz.prog 68 #[.pointer (some ⟨g,0,none⟩),iI d] w (Ret (fun v_ w_=>∃ K_,v_=.bool i∧SR K K_ w w_ E [.box bs g #[iI e,iI f,.bool h] 95]))) [.box bs g #[iI a,iI b,.bool c] 95]
def aiL (X:Int→Option Bool):Prop:=∀ {K w a b},X a=some b→GK K→ SR K K w w [] []→Calls Tryz.prog 115 #[.int .u8 a] w (Ret (fun v_ w_=>∃ K_,v_=.bool b∧SR K K_ w w_ [] []))
def ajb (X:Int→Option Bool):Prop:=∀ {K w a b},X a=some b→GK K→ SR K K w w [] []→Calls Tryz.prog 116 #[.int .u8 a] w (Ret (fun v_ w_=>∃ K_,v_=.bool b∧SR K K_ w w_ [] []))
def aj2 (X:BA→Option Bool):Prop:=∀ {K w a b},X a=some b→GK K→a.size ≤ mB→ SR K K w w [] []→Calls Tryz.prog 96 #[.string a] w (Ret (fun v_ w_=>∃ K_,v_=.bool b∧SR K K_ w w_ [] []))
def aiH (X:LB→BA→Option Int):Prop:=∀ {K w a c d b e},X a b=some e→GK K→RSl BA RStr 1 16 K c d a→b.size ≤ mB→ SR K K w w [] []→Calls Tryz.prog 134 #[sl c a d,.string b] w (Ret (fun v_ w_=>∃ K_,v_=iI e∧SR K K_ w w_ [] []))
def aiB (X:LB→BA→Option Bool):Prop:=∀ {K w a c d b e},X a b=some e→GK K→RSl BA RStr 1 16 K c d a→b.size ≤ mB→ SR K K w w [] []→Calls Tryz.prog 117 #[sl c a d,.string b] w (Ret (fun v_ w_=>∃ K_,v_=.bool e∧SR K K_ w w_ [] []))
def amy (X:Option LB):Prop:=∀ {K w a},X =some a→GK K→ SR K K w w [] []→Calls Tryz.prog 118 #[] w (Ret (fun v_ w_=>∃ K_ Ar0 cr0,v_=sl Ar0 a cr0∧SR K K_ w w_ [] []∧RSl BA RStr 1 16 K_ Ar0 cr0 a))
def aku (X:BA→Option Bool):Prop:=∀ {K w a b},X a=some b→GK K→a.size ≤ mB→ SR K K w w [] []→Calls Tryz.prog 97 #[.string a] w (Ret (fun v_ w_=>∃ K_,v_=.bool b∧SR K K_ w w_ [] []))
def ali (X:BA→Option Bool):Prop:=∀ {K w a b},X a=some b→GK K→a.size ≤ mB→ SR K K w w [] []→Calls Tryz.prog 71 #[.string a] w (Ret (fun v_ w_=>∃ K_,v_=.bool b∧SR K K_ w w_ [] []))
def ah5 (X:BA→Option Bool):Prop:=∀ {K w a b},X a=some b→GK K→a.size ≤ mB→ SR K K w w [] []→Calls Tryz.prog 66 #[.string a] w (Ret (fun v_ w_=>∃ K_,v_=.bool b∧SR K K_ w w_ [] []))
def aoa (X:BA→Option Bool):Prop:=∀ {K w a b},X a=some b→GK K→a.size ≤ mB→ SR K K w w [] []→Calls Tryz.prog 70 #[.string a] w (Ret (fun v_ w_=>∃ K_,v_=.bool b∧SR K K_ w w_ [] []))
def aeD (X:aag→aah→Int→Option (aag × Bool)):Prop:=∀ {K w g bs a b c d e f h i j k},X (aag.mk a b c) d f=some ((aag.mk h i j),k)→GK K→aan K d e→ (fun E:Ents=>SR K K w w E E→Calls Tryz.prog 47 #[.pointer (some ⟨g,0,none⟩),.agg e.toArray,iI f] w (Ret (fun v_ w_=>∃ K_,v_=.bool k∧SR K K_ w w_ E [.box bs g #[iI h,iI i,.bool j] 95]))) [.box bs g #[iI a,iI b,.bool c] 95]
def aeB (X:aag→LE→Int→Option (aag × Bool)):Prop:=∀ {K w g bs a b c d e f h i j k l},X (aag.mk a b c) d h=some ((aag.mk i j k),l)→GK K→tE K e f d→ (fun E:Ents=>SR K K w w E E→Calls Tryz.prog 72 #[.pointer (some ⟨g,0,none⟩),sl e d f,iI h] w (Ret (fun v_ w_=>∃ K_,v_=.bool l∧SR K K_ w w_ E [.box bs g #[iI i,iI j,.bool k] 95]))) [.box bs g #[iI a,iI b,.bool c] 95]
def ado (X:aag→LS→Int→Option (aag × Bool)):Prop:=∀ {K w g bs a b c d e f h i j k l},X (aag.mk a b c) d h=some ((aag.mk i j k),l)→GK K→tS K e f d→ (fun E:Ents=>SR K K w w E E→Calls Tryz.prog 119 #[.pointer (some ⟨g,0,none⟩),sl e d f,iI h] w (Ret (fun v_ w_=>∃ K_,v_=.bool l∧SR K K_ w w_ E [.box bs g #[iI i,iI j,.bool k] 95]))) [.box bs g #[iI a,iI b,.bool c] 95]
def adn (X:aag→aaf→Int→Option (aag × Bool)):Prop:=∀ {K w g bs a b c d e f h i j k},X (aag.mk a b c) d f=some ((aag.mk h i j),k)→GK K→aai K d e→ (fun E:Ents=>SR K K w w E E→Calls Tryz.prog 136 #[.pointer (some ⟨g,0,none⟩),.agg e.toArray,iI f] w (Ret (fun v_ w_=>∃ K_,v_=.bool k∧SR K K_ w w_ E [.box bs g #[iI h,iI i,.bool j] 95]))) [.box bs g #[iI a,iI b,.bool c] 95]
def adm (X:aag→aaB→Int→Option (aag × Bool)):Prop:=∀ {K w g bs a b c d e f h i j k},X (aag.mk a b c) d f=some ((aag.mk h i j),k)→GK K→aaE K d e→ (fun E:Ents=>SR K K w w E E→Calls Tryz.prog 150 #[.pointer (some ⟨g,0,none⟩),.agg e.toArray,iI f] w (Ret (fun v_ w_=>∃ K_,v_=.bool k∧SR K K_ w w_ E [.box bs g #[iI h,iI i,.bool j] 95]))) [.box bs g #[iI a,iI b,.bool c] 95]
def akr (X:aag→aaa→Option (aag × Bool)):Prop:=∀ {K w g bs a b c d e f h i j},X (aag.mk a b c) d=some ((aag.mk f h i),j)→GK K→aak K d e→ (fun E:Ents=>SR K K w w E E→Calls Tryz.prog 99 #[.pointer (some ⟨g,0,none⟩),.agg e.toArray] w (Ret (fun v_ w_=>∃ K_,v_=.bool j∧SR K K_ w w_ E [.box bs g #[iI f,iI h,.bool i] 95]))) [.box bs g #[iI a,iI b,.bool c] 95]
def ah0 (X:aaa→Bool→Option Bool):Prop:=∀ {K w a b c d},X a c=some d→GK K→aak K a b→ SR K K w w [] []→Calls Tryz.prog 78 #[.agg b.toArray,.bool c] w (Ret (fun v_ w_=>∃ K_,v_=.bool d∧SR K K_ w w_ [] []))
def alS (X:LP→Option LP):Prop:=∀ {K w a c d b},X a=some b→GK K→tP K c d a→ SR K K w w [] []→Calls Tryz.prog 100 #[sl c a d] w (Ret (fun v_ w_=>∃ K_ Ar0 cr0,v_=sl Ar0 b cr0∧SR K K_ w w_ [] []∧tP K_ Ar0 cr0 b))
def aiD (X:aah→Option Int):Prop:=∀ {K w a b c},X a=some c→GK K→aan K a b→ SR K K w w [] []→Calls Tryz.prog 120 #[.agg b.toArray] w (Ret (fun v_ w_=>∃ K_,v_=iI c∧SR K K_ w w_ [] []))
def ab8 (X:LE→Option LE):Prop:=∀ {K w a c d b},X a=some b→GK K→tE K c d a→ SR K K w w [] []→Calls Tryz.prog 122 #[sl c a d,.func (.func 120) #[] #[]] w (Ret (fun v_ w_=>∃ K_ Ar0 cr0,v_=sl Ar0 b cr0∧SR K K_ w w_ [] []∧tE K_ Ar0 cr0 b))
def ab5 (X:aah→Option aah):Prop:=∀ {K w a b c},X a=some c→GK K→aan K a b→ SR K K w w [] []→Calls Tryz.prog 137 #[.agg b.toArray,.func (.func 120) #[] #[]] w (Ret (fun v_ w_=>∃ K_ csr0,v_=.agg csr0.toArray∧SR K K_ w w_ [] []∧aan K_ c csr0))
def air (X:aah→Option Int):Prop:=∀ {K w a b c},X a=some c→GK K→aan K a b→ SR K K w w [] []→Calls Tryz.prog 121 #[.agg b.toArray] w (Ret (fun v_ w_=>∃ K_,v_=iI c∧SR K K_ w w_ [] []))
def ab3 (X:LE→Option LE):Prop:=∀ {K w a c d b},X a=some b→GK K→tE K c d a→ SR K K w w [] []→Calls Tryz.prog 122 #[sl c a d,.func (.func 121) #[] #[]] w (Ret (fun v_ w_=>∃ K_ Ar0 cr0,v_=sl Ar0 b cr0∧SR K K_ w w_ [] []∧tE K_ Ar0 cr0 b))
def ab7 (X:aah→Option aah):Prop:=∀ {K w a b c},X a=some c→GK K→aan K a b→ SR K K w w [] []→Calls Tryz.prog 137 #[.agg b.toArray,.func (.func 121) #[] #[]] w (Ret (fun v_ w_=>∃ K_ csr0,v_=.agg csr0.toArray∧SR K K_ w w_ [] []∧aan K_ c csr0))
def aeo (X:LS→Bool→Option LS):Prop:=∀ {K w a c d e b},X a e=some b→GK K→tS K c d a→ SR K K w w [] []→Calls Tryz.prog 101 #[sl c a d,.bool e] w (Ret (fun v_ w_=>∃ K_ Ar0 cr0,v_=sl Ar0 b cr0∧SR K K_ w w_ [] []∧tS K_ Ar0 cr0 b))
def akJ (X:aaa→Bool→Option aaa):Prop:=∀ {K w a b c d},X a c=some d→GK K→aak K a b→ SR K K w w [] []→Calls Tryz.prog 79 #[.agg b.toArray,.bool c] w (Ret (fun v_ w_=>∃ K_ csr0,v_=.agg csr0.toArray∧SR K K_ w w_ [] []∧aak K_ d csr0))
def akx (X:aaa→Option (Except Int aaa)):Prop:=∀ {K w a b res_},X a=some res_→GK K→aak K a b→ SR K K w w [] []→Calls Tryz.prog 54 #[.agg b.toArray] w (RetP (fun v_ w_=>∃ c K_ csr0,res_=.ok c∧v_=.agg csr0.toArray∧SR K K_ w w_ [] []∧aak K_ c csr0) (fun v_ w_=>∃ c_ K_,res_=.error c_∧v_=.iface 118 (.agg #[iI c_])∧SR K K_ w w_ [] []))
def aeG (X:aaa→aaa→Option (Except Int (aaa × aaa))):Prop:=∀ {K w g bs a b c gA bsA sA_0 AsA_0 csA_0 res_},X (aaa.mk a) (aaa.mk sA_0)=some res_→GK K→tF K b c a→tF K AsA_0 csA_0 sA_0→ (fun E:Ents=>SR K K w w E E→Calls Tryz.prog 53 #[.pointer (some ⟨g,0,none⟩),.pointer (some ⟨gA,0,none⟩)] w (RetP (fun v_ w_=>∃ d zA_0 K_ Az_0 cz_0 AzA_0 czA_0,res_=.ok ((aaa.mk d),(aaa.mk zA_0))∧v_=.tuple #[]∧SR K K_ w w_ E [.box bs g #[sl Az_0 d cz_0] 24,.box bsA gA #[sl AzA_0 zA_0 czA_0] 24]∧tF K_ Az_0 cz_0 d∧tF K_ AzA_0 czA_0 zA_0) (fun v_ w_=>∃ c_ K_,res_=.error c_∧v_=.iface 118 (.agg #[iI c_])∧SR K K_ w w_ E E))) [.box bs g #[sl b a c] 24,.box bsA gA #[sl AsA_0 sA_0 csA_0] 24]
def agn (X:aaa→aaa→Option (aaa × aaa × Int)):Prop:=∀ {K w g bs a b c gA bsA sA_0 AsA_0 csA_0 d zA_0 e},X (aaa.mk a) (aaa.mk sA_0)=some ((aaa.mk d),(aaa.mk zA_0),e)→GK K→tF K b c a→tF K AsA_0 csA_0 sA_0→ (fun E:Ents=>SR K K w w E E→Calls Tryz.prog 52 #[.func (.func 53) #[] #[.pointer (some ⟨g,0,none⟩),.pointer (some ⟨gA,0,none⟩)]] w (Ret (fun v_ w_=>∃ K_ Az_0 cz_0 AzA_0 czA_0,v_=iI e∧SR K K_ w w_ E [.box bs g #[sl Az_0 d cz_0] 24,.box bsA gA #[sl AzA_0 zA_0 czA_0] 24]∧tF K_ Az_0 cz_0 d∧tF K_ AzA_0 czA_0 zA_0))) [.box bs g #[sl b a c] 24,.box bsA gA #[sl AsA_0 sA_0 csA_0] 24]
def akf (X:aaa→Option (aaa × Int)):Prop:=∀ {K w a b c d},X a=some (c,d)→GK K→aak K a b→ SR K K w w [] []→Calls Tryz.prog 34 #[.agg b.toArray] w (Ret (fun v_ w_=>∃ K_ csr0,v_=.tuple #[.agg csr0.toArray,iI d]∧SR K K_ w w_ [] []∧aak K_ c csr0))
def aeN (X:aae→aae→Option Bool):Prop:=∀ {K w l m g bs a b d e f h i c j k n},X l (aae.mk a b f h i c)=some n→GK K→aao K l m→a.size ≤ mB→tP K d e b→tS K j k c→ (fun E:Ents=>SR K K w w E E→Calls Tryz.prog 82 #[.agg m.toArray,.pointer (some ⟨g,0,none⟩)] w (Ret (fun v_ w_=>∃ K_,v_=.bool n∧SR K K_ w w_ E E))) [.box bs g (aF a d b e f h i j c k) 42]
def aeA (X:LF→aae→Option Int):Prop:=∀ {K w l m n g bs a b d e f h i c j k o},X l (aae.mk a b f h i c)=some o→GK K→tF K m n l→a.size ≤ mB→tP K d e b→tS K j k c→ (fun E:Ents=>SR K K w w E E→Calls Tryz.prog 103 #[sl m l n,.func (.func 82) #[] #[.pointer (some ⟨g,0,none⟩)]] w (Ret (fun v_ w_=>∃ K_,v_=iI o∧SR K K_ w w_ E E))) [.box bs g (aF a d b e f h i j c k) 42]
def adA (X:LF→aae→Option Bool):Prop:=∀ {K w l m n g bs a b d e f h i c j k o},X l (aae.mk a b f h i c)=some o→GK K→tF K m n l→a.size ≤ mB→tP K d e b→tS K j k c→ (fun E:Ents=>SR K K w w E E→Calls Tryz.prog 81 #[sl m l n,.func (.func 82) #[] #[.pointer (some ⟨g,0,none⟩)]] w (Ret (fun v_ w_=>∃ K_,v_=.bool o∧SR K K_ w w_ E E))) [.box bs g (aF a d b e f h i j c k) 42]
def ajd (X:aad→BA→Option (Int × Bool)):Prop:=∀ {K w g bs br h l m i j n o p q r k s t a c d u b e f v x y z A},X (aad.mk (aaa.mk h) (aae.mk i j p q r k) a b x) y=some (z,A)→GK K→tF K l m h→i.size ≤ mB→tP K n o j→tS K s t k→Reps RStr 1 a u→a.length * 16 ≤ mB→StkR kS VInt b v→b.length * 8 ≤ mB→br ≤ (zz w)→y.size ≤ mB→ (fun E:Ents=>SR K K w w E E→Calls Tryz.prog 123 #[.pointer (some ⟨g,0,none⟩),.string y] w (Ret (fun v_ w_=>∃ K_,v_=.tuple #[iI z,.bool A]∧SR K K_ w w_ E E))) [.box bs g (aR l h m i n j o p q r s k t c a d e b f x) 154,eW br c a d 9 1 u,eK br e b f 151 v]
def aik (X:aad→BA→Option (Except Int (aad × Int))):Prop:=∀ {K w g bs br h n o i j p q r s t k u v a c d x b e f y z A res_},X (aad.mk (aaa.mk h) (aae.mk i j r s t k) a b z) A=some res_→GK K→tF K n o h→i.size ≤ mB→tP K p q j→tS K u v k→Reps RStr 1 a x→a.length * 16 ≤ mB→StkR kS VInt b y→b.length * 8 ≤ mB→br ≤ (zz w)→A.size ≤ mB→ (fun E:Ents=>SR K K w w E E→Calls Tryz.prog 104 #[.pointer (some ⟨g,0,none⟩),.string A] w (RetP (fun v_ w_=>∃ B C D I J N G l m O S K_ Az_0_0 cz_0_0 Az_1_1 cz_1_1 Az_1_5 cz_1_5 Az_2 cz_2 yz_2 Az_3 cz_3 yz_3,res_=.ok ((aad.mk (aaa.mk B) (aae.mk C D I J N G) l m O),S)∧v_=iI S∧SR K K_ w w_ E [.box bs g (aR Az_0_0 B cz_0_0 C Az_1_1 D cz_1_1 I J N Az_1_5 G cz_1_5 Az_2 l cz_2 Az_3 m cz_3 O) 154,eW br Az_2 l cz_2 9 1 yz_2,eK br Az_3 m cz_3 151 yz_3]∧tF K_ Az_0_0 cz_0_0 B∧C.size ≤ mB∧tP K_ Az_1_1 cz_1_1 D∧tS K_ Az_1_5 cz_1_5 G∧Reps RStr 1 l yz_2∧l.length * 16 ≤ mB∧StkR kS VInt m yz_3∧m.length * 8 ≤ mB) (fun v_ w_=>∃ c_ K_,res_=.error c_∧v_=.iface 118 (.agg #[iI c_])∧SR K K_ w w_ E []))) [.box bs g (aR n h o i p j q r s t u k v c a d e b f z) 154,eW br c a d 9 1 x,eK br e b f 151 y]
def aeL (X:aah→aad→Option (Except Int Int)):Prop:=∀ {K w y z gr bsr g bs br h l m i j n o p q r k s t a c d u b e f v x res_},X y (aad.mk (aaa.mk h) (aae.mk i j p q r k) a b x)=some res_→GK K→aan K y z→tF K l m h→i.size ≤ mB→tP K n o j→tS K s t k→Reps RStr 1 a u→a.length * 16 ≤ mB→StkR kS VInt b v→b.length * 8 ≤ mB→br ≤ (zz w)→ (fun E:Ents=>SR K K w w E E→Calls Tryz.prog 138 #[.agg z.toArray,.pointer (some ⟨gr,0,none⟩)] w (RetP (fun v_ w_=>∃ A K_,res_=.ok A∧v_=iI A∧SR K K_ w w_ E E) (fun v_ w_=>∃ c_ K_,res_=.error c_∧v_=.iface 118 (.agg #[iI c_])∧SR K K_ w w_ E []))) [.box bsr gr #[.pointer (some ⟨g,0,none⟩)] 150,.box bs g (aR l h m i n j o p q r s k t c a d e b f x) 154,eW br c a d 9 1 u,eK br e b f 151 v]
def ab2 (X:LE→aad→Option (Except Int LE)):Prop:=∀ {K w y A B gr bsr g bs br h l m i j n o p q r k s t a c d u b e f v x res_},X y (aad.mk (aaa.mk h) (aae.mk i j p q r k) a b x)=some res_→GK K→tE K A B y→tF K l m h→i.size ≤ mB→tP K n o j→tS K s t k→Reps RStr 1 a u→a.length * 16 ≤ mB→StkR kS VInt b v→b.length * 8 ≤ mB→br ≤ (zz w)→ (fun E:Ents=>SR K K w w E E→Calls Tryz.prog 122 #[sl A y B,.func (.func 138) #[] #[.pointer (some ⟨gr,0,none⟩)]] w (RetP (fun v_ w_=>∃ z K_ Ar0 cr0,res_=.ok z∧v_=sl Ar0 z cr0∧SR K K_ w w_ E E∧tE K_ Ar0 cr0 z) (fun v_ w_=>∃ c_ K_,res_=.error c_∧v_=.iface 118 (.agg #[iI c_])∧SR K K_ w w_ E []))) [.box bsr gr #[.pointer (some ⟨g,0,none⟩)] 150,.box bs g (aR l h m i n j o p q r s k t c a d e b f x) 154,eW br c a d 9 1 u,eK br e b f 151 v]
def ab1 (X:aah→aad→Option (Except Int aah)):Prop:=∀ {K w y z gr bsr g bs br h l m i j n o p q r k s t a c d u b e f v x res_},X y (aad.mk (aaa.mk h) (aae.mk i j p q r k) a b x)=some res_→GK K→aan K y z→tF K l m h→i.size ≤ mB→tP K n o j→tS K s t k→Reps RStr 1 a u→a.length * 16 ≤ mB→StkR kS VInt b v→b.length * 8 ≤ mB→br ≤ (zz w)→ (fun E:Ents=>SR K K w w E E→Calls Tryz.prog 137 #[.agg z.toArray,.func (.func 138) #[] #[.pointer (some ⟨gr,0,none⟩)]] w (RetP (fun v_ w_=>∃ A K_ csr0,res_=.ok A∧v_=.agg csr0.toArray∧SR K K_ w w_ E E∧aan K_ A csr0) (fun v_ w_=>∃ c_ K_,res_=.error c_∧v_=.iface 118 (.agg #[iI c_])∧SR K K_ w w_ E []))) [.box bsr gr #[.pointer (some ⟨g,0,none⟩)] 150,.box bs g (aR l h m i n j o p q r s k t c a d e b f x) 154,eW br c a d 9 1 u,eK br e b f 151 v]
def aiR (X:aad→LE→Option (Except Int LE)):Prop:=∀ {K w g bs br h l m i j n o p q r k s t a c d u b e f v x y A B res_},X (aad.mk (aaa.mk h) (aae.mk i j p q r k) a b x) y=some res_→GK K→tF K l m h→i.size ≤ mB→tP K n o j→tS K s t k→Reps RStr 1 a u→a.length * 16 ≤ mB→StkR kS VInt b v→b.length * 8 ≤ mB→br ≤ (zz w)→tE K A B y→ (fun E:Ents=>SR K K w w E E→Calls Tryz.prog 124 #[.pointer (some ⟨g,0,none⟩),sl A y B] w (RetP (fun v_ w_=>∃ z K_ Ar0 cr0,res_=.ok z∧v_=sl Ar0 z cr0∧SR K K_ w w_ E E∧tE K_ Ar0 cr0 z) (fun v_ w_=>∃ c_ K_,res_=.error c_∧v_=.iface 118 (.agg #[iI c_])∧SR K K_ w w_ E []))) [.box bs g (aR l h m i n j o p q r s k t c a d e b f x) 154,eW br c a d 9 1 u,eK br e b f 151 v]
def aeP (X:aae→aaf→Option Bool):Prop:=∀ {K w x y gr bsr g bs i a j b k l c m n d o p e q r f s t h u v z},X x (aaf.mk i a j b k l c d e f h)=some z→GK K→aao K x y→a.size ≤ mB→b.size ≤ mB→tE K m n c→tS K o p d→tS K q r e→tS K s t f→tC K u v h→ (fun E:Ents=>SR K K w w E E→Calls Tryz.prog 139 #[.agg y.toArray,.pointer (some ⟨gr,0,none⟩)] w (Ret (fun v_ w_=>∃ K_,v_=.bool z∧SR K K_ w w_ E E))) [.box bsr gr #[.pointer (some ⟨g,0,none⟩)] 180,.box bs g (aS i a j b k l m c n o d p q e r s f t u h v) 37]
def aex (X:LF→aaf→Option Int):Prop:=∀ {K w x y z gr bsr g bs i a j b k l c m n d o p e q r f s t h u v A},X x (aaf.mk i a j b k l c d e f h)=some A→GK K→tF K y z x→a.size ≤ mB→b.size ≤ mB→tE K m n c→tS K o p d→tS K q r e→tS K s t f→tC K u v h→ (fun E:Ents=>SR K K w w E E→Calls Tryz.prog 103 #[sl y x z,.func (.func 139) #[] #[.pointer (some ⟨gr,0,none⟩)]] w (Ret (fun v_ w_=>∃ K_,v_=iI A∧SR K K_ w w_ E E))) [.box bsr gr #[.pointer (some ⟨g,0,none⟩)] 180,.box bs g (aS i a j b k l m c n o d p q e r s f t u h v) 37]
def aiK (X:aad→aaf→Option (Except Int (aad × aaf))):Prop:=∀ {K w g bs br h n o i j p q r s t k u v a c d x b e f y z gA bsA sA_0 sA_1 sA_2 sA_3 sA_4 sA_5 sA_6 AsA_6 csA_6 sA_7 AsA_7 csA_7 sA_8 AsA_8 csA_8 sA_9 AsA_9 csA_9 sA_10 AsA_10 csA_10 res_},X (aad.mk (aaa.mk h) (aae.mk i j r s t k) a b z) (aaf.mk sA_0 sA_1 sA_2 sA_3 sA_4 sA_5 sA_6 sA_7 sA_8 sA_9 sA_10)=some res_→GK K→tF K n o h→i.size ≤ mB→tP K p q j→tS K u v k→Reps RStr 1 a x→a.length * 16 ≤ mB→StkR kS VInt b y→b.length * 8 ≤ mB→br ≤ (zz w)→sA_1.size ≤ mB→sA_3.size ≤ mB→tE K AsA_6 csA_6 sA_6→tS K AsA_7 csA_7 sA_7→tS K AsA_8 csA_8 sA_8→tS K AsA_9 csA_9 sA_9→tC K AsA_10 csA_10 sA_10→ (fun E:Ents=>SR K K w w E E→Calls Tryz.prog 126 #[.pointer (some ⟨g,0,none⟩),.pointer (some ⟨gA,0,none⟩)] w (RetP (fun v_ w_=>∃ A B C G I J D l m N zA_0 zA_1 zA_2 zA_3 zA_4 zA_5 zA_6 zA_7 zA_8 zA_9 zA_10 K_ Az_0_0 cz_0_0 Az_1_1 cz_1_1 Az_1_5 cz_1_5 Az_2 cz_2 yz_2 Az_3 cz_3 yz_3 AzA_6 czA_6 AzA_7 czA_7 AzA_8 czA_8 AzA_9 czA_9 AzA_10 czA_10,res_=.ok ((aad.mk (aaa.mk A) (aae.mk B C G I J D) l m N),(aaf.mk zA_0 zA_1 zA_2 zA_3 zA_4 zA_5 zA_6 zA_7 zA_8 zA_9 zA_10))∧v_=.tuple #[]∧SR K K_ w w_ E [.box bs g (aR Az_0_0 A cz_0_0 B Az_1_1 C cz_1_1 G I J Az_1_5 D cz_1_5 Az_2 l cz_2 Az_3 m cz_3 N) 154,eW br Az_2 l cz_2 9 1 yz_2,eK br Az_3 m cz_3 151 yz_3,.box bsA gA (aS zA_0 zA_1 zA_2 zA_3 zA_4 zA_5 AzA_6 zA_6 czA_6 AzA_7 zA_7 czA_7 AzA_8 zA_8 czA_8 AzA_9 zA_9 czA_9 AzA_10 zA_10 czA_10) 37]∧tF K_ Az_0_0 cz_0_0 A∧B.size ≤ mB∧tP K_ Az_1_1 cz_1_1 C∧tS K_ Az_1_5 cz_1_5 D∧Reps RStr 1 l yz_2∧l.length * 16 ≤ mB∧StkR kS VInt m yz_3∧m.length * 8 ≤ mB∧zA_1.size ≤ mB∧zA_3.size ≤ mB∧tE K_ AzA_6 czA_6 zA_6∧tS K_ AzA_7 czA_7 zA_7∧tS K_ AzA_8 czA_8 zA_8∧tS K_ AzA_9 czA_9 zA_9∧tC K_ AzA_10 czA_10 zA_10) (fun v_ w_=>∃ c_ K_,res_=.error c_∧v_=.iface 118 (.agg #[iI c_])∧SR K K_ w w_ E []))) [.box bs g (aR n h o i p j q r s t u k v c a d e b f z) 154,eW br c a d 9 1 x,eK br e b f 151 y,.box bsA gA (aS sA_0 sA_1 sA_2 sA_3 sA_4 sA_5 AsA_6 sA_6 csA_6 AsA_7 sA_7 csA_7 AsA_8 sA_8 csA_8 AsA_9 sA_9 csA_9 AsA_10 sA_10 csA_10) 37]
def acx (X:aad→aaf→Option (Except Int (aad × aaf))):Prop:=∀ {K w g bs br h n o i j p q r s t k u v a c d x b e f y z G I res_},X (aad.mk (aaa.mk h) (aae.mk i j r s t k) a b z) G=some res_→GK K→tF K n o h→i.size ≤ mB→tP K p q j→tS K u v k→Reps RStr 1 a x→a.length * 16 ≤ mB→StkR kS VInt b y→b.length * 8 ≤ mB→br ≤ (zz w)→aai K G I→ (fun E:Ents=>SR K K w w E E→Calls Tryz.prog 105 #[.pointer (some ⟨g,0,none⟩),.agg I.toArray] w (RetP (fun v_ w_=>∃ A B C J N O D l m S U K_ Az_0_0 cz_0_0 Az_1_1 cz_1_1 Az_1_5 cz_1_5 Az_2 cz_2 yz_2 Az_3 cz_3 yz_3 csr0,res_=.ok ((aad.mk (aaa.mk A) (aae.mk B C J N O D) l m S),U)∧v_=.agg csr0.toArray∧SR K K_ w w_ E [.box bs g (aR Az_0_0 A cz_0_0 B Az_1_1 C cz_1_1 J N O Az_1_5 D cz_1_5 Az_2 l cz_2 Az_3 m cz_3 S) 154,eW br Az_2 l cz_2 9 1 yz_2,eK br Az_3 m cz_3 151 yz_3]∧tF K_ Az_0_0 cz_0_0 A∧B.size ≤ mB∧tP K_ Az_1_1 cz_1_1 C∧tS K_ Az_1_5 cz_1_5 D∧Reps RStr 1 l yz_2∧l.length * 16 ≤ mB∧StkR kS VInt m yz_3∧m.length * 8 ≤ mB∧aai K_ U csr0) (fun v_ w_=>∃ c_ K_,res_=.error c_∧v_=.iface 118 (.agg #[iI c_])∧SR K K_ w w_ E []))) [.box bs g (aR n h o i p j q r s t u k v c a d e b f z) 154,eW br c a d 9 1 x,eK br e b f 151 y]
def abl (X:aad→BA→LS→aaB→Option (Except Int (aad × aaB × LS))):Prop:=∀ {K w g bs br h n o i j p q r s t k u v a c d x b e f y z A B N O gA bsA sA_0 sA_1 sA_2 sA_3 AsA_3 csA_3 sA_4 AsA_4 csA_4 res_},X (aad.mk (aaa.mk h) (aae.mk i j r s t k) a b z) A B (aaB.mk sA_0 sA_1 sA_2 sA_3 sA_4)=some res_→GK K→tF K n o h→i.size ≤ mB→tP K p q j→tS K u v k→Reps RStr 1 a x→a.length * 16 ≤ mB→StkR kS VInt b y→b.length * 8 ≤ mB→br ≤ (zz w)→A.size ≤ mB→tS K N O B→sA_1.size ≤ mB→tE K AsA_3 csA_3 sA_3→tS K AsA_4 csA_4 sA_4→ (fun E:Ents=>SR K K w w E E→Calls Tryz.prog 125 #[.pointer (some ⟨g,0,none⟩),.string A,sl N B O,.pointer (some ⟨gA,2,none⟩)] w (RetP (fun v_ w_=>∃ C D G S U V I l m W zA_0 zA_1 zA_2 zA_3 zA_4 J K_ Az_0_0 cz_0_0 Az_1_1 cz_1_1 Az_1_5 cz_1_5 Az_2 cz_2 yz_2 Az_3 cz_3 yz_3 AzA_3 czA_3 AzA_4 czA_4 Ar0 cr0,res_=.ok ((aad.mk (aaa.mk C) (aae.mk D G S U V I) l m W),(aaB.mk zA_0 zA_1 zA_2 zA_3 zA_4),J)∧v_=sl Ar0 J cr0∧SR K K_ w w_ E [.box bs g (aR Az_0_0 C cz_0_0 D Az_1_1 G cz_1_1 S U V Az_1_5 I cz_1_5 Az_2 l cz_2 Az_3 m cz_3 W) 154,eW br Az_2 l cz_2 9 1 yz_2,eK br Az_3 m cz_3 151 yz_3,.box bsA gA (aC' zA_0 zA_1 zA_2 AzA_3 zA_3 czA_3 AzA_4 zA_4 czA_4) 74]∧tF K_ Az_0_0 cz_0_0 C∧D.size ≤ mB∧tP K_ Az_1_1 cz_1_1 G∧tS K_ Az_1_5 cz_1_5 I∧Reps RStr 1 l yz_2∧l.length * 16 ≤ mB∧StkR kS VInt m yz_3∧m.length * 8 ≤ mB∧zA_1.size ≤ mB∧tE K_ AzA_3 czA_3 zA_3∧tS K_ AzA_4 czA_4 zA_4∧tS K_ Ar0 cr0 J) (fun v_ w_=>∃ c_ K_,res_=.error c_∧v_=.iface 118 (.agg #[iI c_])∧SR K K_ w w_ E []))) [.box bs g (aR n h o i p j q r s t u k v c a d e b f z) 154,eW br c a d 9 1 x,eK br e b f 151 y,.box bsA gA (aC' sA_0 sA_1 sA_2 AsA_3 sA_3 csA_3 AsA_4 sA_4 csA_4) 74]
def abp (X:aad→BA→LS→aaf→Option (Except Int (aad × aaf × LS))):Prop:=∀ {K w g bs br h n o i j p q r s t k u v a c d x b e f y z A B N O gA bsA sA_0 sA_1 sA_2 sA_3 sA_4 sA_5 sA_6 AsA_6 csA_6 sA_7 AsA_7 csA_7 sA_8 AsA_8 csA_8 sA_9 AsA_9 csA_9 sA_10 AsA_10 csA_10 res_},X (aad.mk (aaa.mk h) (aae.mk i j r s t k) a b z) A B (aaf.mk sA_0 sA_1 sA_2 sA_3 sA_4 sA_5 sA_6 sA_7 sA_8 sA_9 sA_10)=some res_→GK K→tF K n o h→i.size ≤ mB→tP K p q j→tS K u v k→Reps RStr 1 a x→a.length * 16 ≤ mB→StkR kS VInt b y→b.length * 8 ≤ mB→br ≤ (zz w)→A.size ≤ mB→tS K N O B→sA_1.size ≤ mB→sA_3.size ≤ mB→tE K AsA_6 csA_6 sA_6→tS K AsA_7 csA_7 sA_7→tS K AsA_8 csA_8 sA_8→tS K AsA_9 csA_9 sA_9→tC K AsA_10 csA_10 sA_10→ (fun E:Ents=>SR K K w w E E→Calls Tryz.prog 125 #[.pointer (some ⟨g,0,none⟩),.string A,sl N B O,.pointer (some ⟨gA,2,none⟩)] w (RetP (fun v_ w_=>∃ C D G S U V I l m W zA_0 zA_1 zA_2 zA_3 zA_4 zA_5 zA_6 zA_7 zA_8 zA_9 zA_10 J K_ Az_0_0 cz_0_0 Az_1_1 cz_1_1 Az_1_5 cz_1_5 Az_2 cz_2 yz_2 Az_3 cz_3 yz_3 AzA_6 czA_6 AzA_7 czA_7 AzA_8 czA_8 AzA_9 czA_9 AzA_10 czA_10 Ar0 cr0,res_=.ok ((aad.mk (aaa.mk C) (aae.mk D G S U V I) l m W),(aaf.mk zA_0 zA_1 zA_2 zA_3 zA_4 zA_5 zA_6 zA_7 zA_8 zA_9 zA_10),J)∧v_=sl Ar0 J cr0∧SR K K_ w w_ E [.box bs g (aR Az_0_0 C cz_0_0 D Az_1_1 G cz_1_1 S U V Az_1_5 I cz_1_5 Az_2 l cz_2 Az_3 m cz_3 W) 154,eW br Az_2 l cz_2 9 1 yz_2,eK br Az_3 m cz_3 151 yz_3,.box bsA gA (aS zA_0 zA_1 zA_2 zA_3 zA_4 zA_5 AzA_6 zA_6 czA_6 AzA_7 zA_7 czA_7 AzA_8 zA_8 czA_8 AzA_9 zA_9 czA_9 AzA_10 zA_10 czA_10) 37]∧tF K_ Az_0_0 cz_0_0 C∧D.size ≤ mB∧tP K_ Az_1_1 cz_1_1 G∧tS K_ Az_1_5 cz_1_5 I∧Reps RStr 1 l yz_2∧l.length * 16 ≤ mB∧StkR kS VInt m yz_3∧m.length * 8 ≤ mB∧zA_1.size ≤ mB∧zA_3.size ≤ mB∧tE K_ AzA_6 czA_6 zA_6∧tS K_ AzA_7 czA_7 zA_7∧tS K_ AzA_8 czA_8 zA_8∧tS K_ AzA_9 czA_9 zA_9∧tC K_ AzA_10 czA_10 zA_10∧tS K_ Ar0 cr0 J) (fun v_ w_=>∃ c_ K_,res_=.error c_∧v_=.iface 118 (.agg #[iI c_])∧SR K K_ w w_ E []))) [.box bs g (aR n h o i p j q r s t u k v c a d e b f z) 154,eW br c a d 9 1 x,eK br e b f 151 y,.box bsA gA (aS sA_0 sA_1 sA_2 sA_3 sA_4 sA_5 AsA_6 sA_6 csA_6 AsA_7 sA_7 csA_7 AsA_8 sA_8 csA_8 AsA_9 sA_9 csA_9 AsA_10 sA_10 csA_10) 37]
def abg (X:aad→BA→LS→Option (Except Int (aad × LS))):Prop:=∀ {K w g bs br h n o i j p q r s t k u v a c d x b e f y z A B N O res_},X (aad.mk (aaa.mk h) (aae.mk i j r s t k) a b z) A B=some res_→GK K→tF K n o h→i.size ≤ mB→tP K p q j→tS K u v k→Reps RStr 1 a x→a.length * 16 ≤ mB→StkR kS VInt b y→b.length * 8 ≤ mB→br ≤ (zz w)→A.size ≤ mB→tS K N O B→ (fun E:Ents=>SR K K w w E E→Calls Tryz.prog 125 #[.pointer (some ⟨g,0,none⟩),.string A,sl N B O,.pointer none] w (RetP (fun v_ w_=>∃ C D G S U V I l m W J K_ Az_0_0 cz_0_0 Az_1_1 cz_1_1 Az_1_5 cz_1_5 Az_2 cz_2 yz_2 Az_3 cz_3 yz_3 Ar0 cr0,res_=.ok ((aad.mk (aaa.mk C) (aae.mk D G S U V I) l m W),J)∧v_=sl Ar0 J cr0∧SR K K_ w w_ E [.box bs g (aR Az_0_0 C cz_0_0 D Az_1_1 G cz_1_1 S U V Az_1_5 I cz_1_5 Az_2 l cz_2 Az_3 m cz_3 W) 154,eW br Az_2 l cz_2 9 1 yz_2,eK br Az_3 m cz_3 151 yz_3]∧tF K_ Az_0_0 cz_0_0 C∧D.size ≤ mB∧tP K_ Az_1_1 cz_1_1 G∧tS K_ Az_1_5 cz_1_5 I∧Reps RStr 1 l yz_2∧l.length * 16 ≤ mB∧StkR kS VInt m yz_3∧m.length * 8 ≤ mB∧tS K_ Ar0 cr0 J) (fun v_ w_=>∃ c_ K_,res_=.error c_∧v_=.iface 118 (.agg #[iI c_])∧SR K K_ w w_ E []))) [.box bs g (aR n h o i p j q r s t u k v c a d e b f z) 154,eW br c a d 9 1 x,eK br e b f 151 y]
def abe (X:aad→BA→LS→aaf→Option (Except Int (aad × aaf × LS))):Prop:=∀ {K w g bs br h n o i j p q r s t k u v a c d x b e f y z A B N O gA bsA sA_0 sA_1 sA_2 sA_3 sA_4 sA_5 sA_6 AsA_6 csA_6 sA_7 AsA_7 csA_7 sA_8 AsA_8 csA_8 sA_9 AsA_9 csA_9 sA_10 AsA_10 csA_10 res_},X (aad.mk (aaa.mk h) (aae.mk i j r s t k) a b z) A B (aaf.mk sA_0 sA_1 sA_2 sA_3 sA_4 sA_5 sA_6 sA_7 sA_8 sA_9 sA_10)=some res_→GK K→tF K n o h→i.size ≤ mB→tP K p q j→tS K u v k→Reps RStr 1 a x→a.length * 16 ≤ mB→StkR kS VInt b y→b.length * 8 ≤ mB→br ≤ (zz w)→A.size ≤ mB→tS K N O B→sA_1.size ≤ mB→sA_3.size ≤ mB→tE K AsA_6 csA_6 sA_6→tS K AsA_7 csA_7 sA_7→tS K AsA_8 csA_8 sA_8→tS K AsA_9 csA_9 sA_9→tC K AsA_10 csA_10 sA_10→ (fun E:Ents=>SR K K w w E E→Calls Tryz.prog 127 #[.pointer (some ⟨g,0,none⟩),.string A,sl N B O,.pointer (some ⟨gA,2,none⟩)] w (RetP (fun v_ w_=>∃ C D G S U V I l m W zA_0 zA_1 zA_2 zA_3 zA_4 zA_5 zA_6 zA_7 zA_8 zA_9 zA_10 J K_ Az_0_0 cz_0_0 Az_1_1 cz_1_1 Az_1_5 cz_1_5 Az_2 cz_2 yz_2 Az_3 cz_3 yz_3 AzA_6 czA_6 AzA_7 czA_7 AzA_8 czA_8 AzA_9 czA_9 AzA_10 czA_10 Ar0 cr0,res_=.ok ((aad.mk (aaa.mk C) (aae.mk D G S U V I) l m W),(aaf.mk zA_0 zA_1 zA_2 zA_3 zA_4 zA_5 zA_6 zA_7 zA_8 zA_9 zA_10),J)∧v_=sl Ar0 J cr0∧SR K K_ w w_ E [.box bs g (aR Az_0_0 C cz_0_0 D Az_1_1 G cz_1_1 S U V Az_1_5 I cz_1_5 Az_2 l cz_2 Az_3 m cz_3 W) 154,eW br Az_2 l cz_2 9 1 yz_2,eK br Az_3 m cz_3 151 yz_3,.box bsA gA (aS zA_0 zA_1 zA_2 zA_3 zA_4 zA_5 AzA_6 zA_6 czA_6 AzA_7 zA_7 czA_7 AzA_8 zA_8 czA_8 AzA_9 zA_9 czA_9 AzA_10 zA_10 czA_10) 37]∧tF K_ Az_0_0 cz_0_0 C∧D.size ≤ mB∧tP K_ Az_1_1 cz_1_1 G∧tS K_ Az_1_5 cz_1_5 I∧Reps RStr 1 l yz_2∧l.length * 16 ≤ mB∧StkR kS VInt m yz_3∧m.length * 8 ≤ mB∧zA_1.size ≤ mB∧zA_3.size ≤ mB∧tE K_ AzA_6 czA_6 zA_6∧tS K_ AzA_7 czA_7 zA_7∧tS K_ AzA_8 czA_8 zA_8∧tS K_ AzA_9 czA_9 zA_9∧tC K_ AzA_10 czA_10 zA_10∧tS K_ Ar0 cr0 J) (fun v_ w_=>∃ c_ K_,res_=.error c_∧v_=.iface 118 (.agg #[iI c_])∧SR K K_ w w_ E []))) [.box bs g (aR n h o i p j q r s t u k v c a d e b f z) 154,eW br c a d 9 1 x,eK br e b f 151 y,.box bsA gA (aS sA_0 sA_1 sA_2 sA_3 sA_4 sA_5 AsA_6 sA_6 csA_6 AsA_7 sA_7 csA_7 AsA_8 sA_8 csA_8 AsA_9 sA_9 csA_9 AsA_10 sA_10 csA_10) 37]
def abh (X:aad→BA→LS→Option (Except Int (aad × LS))):Prop:=∀ {K w g bs br h n o i j p q r s t k u v a c d x b e f y z A B N O res_},X (aad.mk (aaa.mk h) (aae.mk i j r s t k) a b z) A B=some res_→GK K→tF K n o h→i.size ≤ mB→tP K p q j→tS K u v k→Reps RStr 1 a x→a.length * 16 ≤ mB→StkR kS VInt b y→b.length * 8 ≤ mB→br ≤ (zz w)→A.size ≤ mB→tS K N O B→ (fun E:Ents=>SR K K w w E E→Calls Tryz.prog 127 #[.pointer (some ⟨g,0,none⟩),.string A,sl N B O,.pointer none] w (RetP (fun v_ w_=>∃ C D G S U V I l m W J K_ Az_0_0 cz_0_0 Az_1_1 cz_1_1 Az_1_5 cz_1_5 Az_2 cz_2 yz_2 Az_3 cz_3 yz_3 Ar0 cr0,res_=.ok ((aad.mk (aaa.mk C) (aae.mk D G S U V I) l m W),J)∧v_=sl Ar0 J cr0∧SR K K_ w w_ E [.box bs g (aR Az_0_0 C cz_0_0 D Az_1_1 G cz_1_1 S U V Az_1_5 I cz_1_5 Az_2 l cz_2 Az_3 m cz_3 W) 154,eW br Az_2 l cz_2 9 1 yz_2,eK br Az_3 m cz_3 151 yz_3]∧tF K_ Az_0_0 cz_0_0 C∧D.size ≤ mB∧tP K_ Az_1_1 cz_1_1 G∧tS K_ Az_1_5 cz_1_5 I∧Reps RStr 1 l yz_2∧l.length * 16 ≤ mB∧StkR kS VInt m yz_3∧m.length * 8 ≤ mB∧tS K_ Ar0 cr0 J) (fun v_ w_=>∃ c_ K_,res_=.error c_∧v_=.iface 118 (.agg #[iI c_])∧SR K K_ w w_ E []))) [.box bs g (aR n h o i p j q r s t u k v c a d e b f z) 154,eW br c a d 9 1 x,eK br e b f 151 y]
def ah1 (X:aaa→aae→Option (Except Int (aae × LB))):Prop:=∀ {K w b c d e res_},X b d=some res_→GK K→aak K b c→aao K d e→ SR K K w w [] []→Calls Tryz.prog 83 #[.agg c.toArray,.agg e.toArray] w (RetP (fun v_ w_=>∃ f a K_ csr0 Ar1 cr1,res_=.ok (f,a)∧v_=.tuple #[.agg csr0.toArray,sl Ar1 a cr1]∧SR K K_ w w_ [] []∧aao K_ f csr0∧RSl BA RStr 1 16 K_ Ar1 cr1 a) (fun v_ w_=>∃ c_ K_,res_=.error c_∧v_=.iface 118 (.agg #[iI c_])∧SR K K_ w w_ [] []))
def akd (X:aaa→Option (Except Int (aaa × (List LB)))):Prop:=∀ (K:KH) (w:World) (b:aaa) (c:List Value) (res_:(Except Int (aaa × (List LB)))),X b=some res_→GK K→aak K b c→ SR K K w w [] []→Calls Tryz.prog 56 #[.agg c.toArray] w (RetP (fun v_ w_=>∃ d a K_ csr0 Ar1 cr1,res_=.ok (d,a)∧v_=.tuple #[.agg csr0.toArray,sl Ar1 a cr1]∧SR K K_ w w_ [] []∧aak K_ d csr0∧RSl LB (RSlE BA (fun K=>RStr) 1 16 K_) 1 24 K_ Ar1 cr1 a) (fun v_ w_=>∃ c_ K_,res_=.error c_∧v_=.iface 118 (.agg #[iI c_])∧SR K K_ w w_ [] []))
def aez (X:aaa→aaa→Option (Except Int (aaa × aaa))):Prop:=∀ {K w g bs a b c gA bsA sA_0 AsA_0 csA_0 res_},X (aaa.mk a) (aaa.mk sA_0)=some res_→GK K→tF K b c a→tF K AsA_0 csA_0 sA_0→ (fun E:Ents=>SR K K w w E E→Calls Tryz.prog 55 #[.pointer (some ⟨g,0,none⟩),.pointer (some ⟨gA,0,none⟩)] w (RetP (fun v_ w_=>∃ d zA_0 K_ Az_0 cz_0 AzA_0 czA_0,res_=.ok ((aaa.mk d),(aaa.mk zA_0))∧v_=.tuple #[]∧SR K K_ w w_ E [.box bs g #[sl Az_0 d cz_0] 24,.box bsA gA #[sl AzA_0 zA_0 czA_0] 24]∧tF K_ Az_0 cz_0 d∧tF K_ AzA_0 czA_0 zA_0) (fun v_ w_=>∃ c_ K_,res_=.error c_∧v_=.iface 118 (.agg #[iI c_])∧SR K K_ w w_ E E))) [.box bs g #[sl b a c] 24,.box bsA gA #[sl AsA_0 sA_0 csA_0] 24]
def agl (X:aaa→aaa→Option (aaa × aaa × Int)):Prop:=∀ {K w g bs a b c gA bsA sA_0 AsA_0 csA_0 d zA_0 e},X (aaa.mk a) (aaa.mk sA_0)=some ((aaa.mk d),(aaa.mk zA_0),e)→GK K→tF K b c a→tF K AsA_0 csA_0 sA_0→ (fun E:Ents=>SR K K w w E E→Calls Tryz.prog 52 #[.func (.func 55) #[] #[.pointer (some ⟨g,0,none⟩),.pointer (some ⟨gA,0,none⟩)]] w (Ret (fun v_ w_=>∃ K_ Az_0 cz_0 AzA_0 czA_0,v_=iI e∧SR K K_ w w_ E [.box bs g #[sl Az_0 d cz_0] 24,.box bsA gA #[sl AzA_0 zA_0 czA_0] 24]∧tF K_ Az_0 cz_0 d∧tF K_ AzA_0 czA_0 zA_0))) [.box bs g #[sl b a c] 24,.box bsA gA #[sl AsA_0 sA_0 csA_0] 24]
def akl (X:aaa→Option (aaa × Int)):Prop:=∀ {K w a b c d},X a=some (c,d)→GK K→aak K a b→ SR K K w w [] []→Calls Tryz.prog 35 #[.agg b.toArray] w (Ret (fun v_ w_=>∃ K_ csr0,v_=.tuple #[.agg csr0.toArray,iI d]∧SR K K_ w w_ [] []∧aak K_ c csr0))
def akO (X:Option (List (Int × aaG))):Prop:=∀ {K w a},X =some a→GK K→ SR K K w w [] []→Calls Tryz.prog 50 #[] w (Ret (fun v_ w_=>∃ K_ br0 er0 cr0,v_=.map (some br0)∧SR K K_ w w_ [] [.mp (zz w) br0 er0 cr0]∧MapR kI (VAgg (aau K_)) a er0.toList))
def akY (X:(List Int)→Int→Option Int):Prop:=∀ {K w a b c d e},X a d=some e→GK K→RSl Int (RInt .i64) 1 8 K b c a→ SR K K w w [] []→Calls Tryz.prog 75 #[sl b a c,iI d] w (Ret (fun v_ w_=>∃ K_,v_=iI e∧SR K K_ w w_ [] []))
def alF (X:(List Int)→Int→Option Bool):Prop:=∀ {K w a b c d e},X a d=some e→GK K→RSl Int (RInt .i64) 1 8 K b c a→ SR K K w w [] []→Calls Tryz.prog 51 #[sl b a c,iI d] w (Ret (fun v_ w_=>∃ K_,v_=.bool e∧SR K K_ w w_ [] []))
def afu (X:aah→(List Int)→Option Int):Prop:=∀ {K w b c a d e f},X b a=some f→GK K→aan K b c→RSl Int (RInt .i64) 1 8 K d e a→ SR K K w w [] []→Calls Tryz.prog 33 #[.agg c.toArray,sl d a e] w (Ret (fun v_ w_=>∃ K_,v_=iI f∧SR K K_ w w_ [] []))
def alv (X:aas→LE→(List Int)→Option Bool):Prop:=∀ {K w g bs br d i j e f k l m n o h p q a b c r s u v t x y z},X (aas.mk (aaa.mk d) (aae.mk e f m n o h) a) s t=some z→GK K→tF K i j d→e.size ≤ mB→tP K k l f→tS K p q h→Reps (RInt .i64) 1 a r→a.length * 8 ≤ mB→br ≤ (zz w)→tE K u v s→RSl Int (RInt .i64) 1 8 K x y t→ (fun E:Ents=>SR K K w w E E→Calls Tryz.prog 84 #[.pointer (some ⟨g,0,none⟩),sl u s v,sl x t y] w (Ret (fun v_ w_=>∃ K_,v_=.bool z∧SR K K_ w w_ E E))) [.box bs g #[sl i d j,.string e,sl k f l,iI m,.bool n,iI o,sl p h q,sl b a c] 82,eW br b a c 3 1 r]
def akQ (X:Option (List (Int × (List Int)))):Prop:=∀ {K w a},X =some a→GK K→ SR K K w w [] []→Calls Tryz.prog 85 #[] w (Ret (fun v_ w_=>∃ K_ br0 er0 cr0,v_=.map (some br0)∧SR K K_ w w_ [] [.mp (zz w) br0 er0 cr0]∧MapR kI (VSl Int (RInt .i64) 1 8 K_) a er0.toList))
def aeK (X:aas→LS→Option (aas × Bool)):Prop:=∀ {K w g bs br e j k f h l m n o p i q r a b c s t z A u v x B C D y d G},X (aas.mk (aaa.mk e) (aae.mk f h n o p i) a) t=some ((aas.mk (aaa.mk u) (aae.mk v x B C D y) d),G)→GK K→tF K j k e→f.size ≤ mB→tP K l m h→tS K q r i→Reps (RInt .i64) 1 a s→a.length * 8 ≤ mB→br ≤ (zz w)→tS K z A t→ (fun E:Ents=>SR K K w w E E→Calls Tryz.prog 36 #[.pointer (some ⟨g,0,none⟩),sl z t A] w (Ret (fun v_ w_=>∃ K_ Az_0_0 cz_0_0 Az_1_1 cz_1_1 Az_1_5 cz_1_5 Az_2 cz_2 yz_2,v_=.bool G∧SR K K_ w w_ E [.box bs g #[sl Az_0_0 u cz_0_0,.string v,sl Az_1_1 x cz_1_1,iI B,.bool C,iI D,sl Az_1_5 y cz_1_5,sl Az_2 d cz_2] 82,eW br Az_2 d cz_2 3 1 yz_2]∧tF K_ Az_0_0 cz_0_0 u∧v.size ≤ mB∧tP K_ Az_1_1 cz_1_1 x∧tS K_ Az_1_5 cz_1_5 y∧Reps (RInt .i64) 1 d yz_2∧d.length * 8 ≤ mB))) [.box bs g #[sl j e k,.string f,sl l h m,iI n,.bool o,iI p,sl q i r,sl b a c] 82,eW br b a c 3 1 s]
def aeR (X:aas→aaf→Option (aas × Bool)):Prop:=∀ {K w g bs br e j k f h l m n o p i q r a b c s y z t u v A B C x d D},X (aas.mk (aaa.mk e) (aae.mk f h n o p i) a) y=some ((aas.mk (aaa.mk t) (aae.mk u v A B C x) d),D)→GK K→tF K j k e→f.size ≤ mB→tP K l m h→tS K q r i→Reps (RInt .i64) 1 a s→a.length * 8 ≤ mB→br ≤ (zz w)→aai K y z→ (fun E:Ents=>SR K K w w E E→Calls Tryz.prog 57 #[.pointer (some ⟨g,0,none⟩),.agg z.toArray] w (Ret (fun v_ w_=>∃ K_ Az_0_0 cz_0_0 Az_1_1 cz_1_1 Az_1_5 cz_1_5 Az_2 cz_2 yz_2,v_=.bool D∧SR K K_ w w_ E [.box bs g #[sl Az_0_0 t cz_0_0,.string u,sl Az_1_1 v cz_1_1,iI A,.bool B,iI C,sl Az_1_5 x cz_1_5,sl Az_2 d cz_2] 82,eW br Az_2 d cz_2 3 1 yz_2]∧tF K_ Az_0_0 cz_0_0 t∧u.size ≤ mB∧tP K_ Az_1_1 cz_1_1 v∧tS K_ Az_1_5 cz_1_5 x∧Reps (RInt .i64) 1 d yz_2∧d.length * 8 ≤ mB))) [.box bs g #[sl j e k,.string f,sl l h m,iI n,.bool o,iI p,sl q i r,sl b a c] 82,eW br b a c 3 1 s]
def aj7 (X:aaa→Option (aaa × (List (List Int)) × Int)):Prop:=∀ {K w b c d a e},X b=some (d,a,e)→GK K→aak K b c→ SR K K w w [] []→Calls Tryz.prog 21 #[.agg c.toArray] w (Ret (fun v_ w_=>∃ K_ csr0 Ar1 cr1,v_=.tuple #[.agg csr0.toArray,sl Ar1 a cr1,iI e]∧SR K K_ w w_ [] []∧aak K_ d csr0∧RSl (List Int) (RSlE Int (fun K=>(RInt .i64)) 1 8 K_) 1 24 K_ Ar1 cr1 a))
def akp (X:aaa→Option (aaa × Int)):Prop:=∀ {K w a b c d},X a=some (c,d)→GK K→aak K a b→ SR K K w w [] []→Calls Tryz.prog 10 #[.agg b.toArray] w (Ret (fun v_ w_=>∃ K_ csr0,v_=.tuple #[.agg csr0.toArray,iI d]∧SR K K_ w w_ [] []∧aak K_ c csr0))
def afF (X:LE→Option LE):Prop:=∀ {K w a c d b},X a=some b→GK K→tE K c d a→ SR K K w w [] []→Calls Tryz.prog 44 #[sl c a d] w (Ret (fun v_ w_=>∃ K_ Ar0 cr0,v_=sl Ar0 b cr0∧SR K K_ w w_ [] []∧tE K_ Ar0 cr0 b))
def afD (X:LS→Option LS):Prop:=∀ {K w a c d b},X a=some b→GK K→tS K c d a→ SR K K w w [] []→Calls Tryz.prog 25 #[sl c a d] w (Ret (fun v_ w_=>∃ K_ Ar0 cr0,v_=sl Ar0 b cr0∧SR K K_ w w_ [] []∧tS K_ Ar0 cr0 b))
def akm (X:aaa→Option aaa):Prop:=∀ {K w b c a},X b=some (aaa.mk a)→GK K→aak K b c→ SR K K w w [] []→Calls Tryz.prog 14 #[.agg c.toArray] w (Ret (fun v_ w_=>∃ K_ Ar0_0 cr0_0 yr0_0,v_=.agg #[sl Ar0_0 a cr0_0]∧SR K K_ w w_ [] [eW (zz w) Ar0_0 a cr0_0 42 6 yr0_0]∧Reps (aao K_) 6 a yr0_0∧a.length * 88 ≤ mB))
def afq (X:LE→Option LE):Prop:=∀ {K w a c d b},X a=some b→GK K→tE K c d a→ SR K K w w [] []→Calls Tryz.prog 37 #[sl c a d] w (Ret (fun v_ w_=>∃ K_ Ar0 cr0,v_=sl Ar0 b cr0∧SR K K_ w w_ [] []∧tE K_ Ar0 cr0 b))
def afC (X:LS→Option LS):Prop:=∀ {K w a c d b},X a=some b→GK K→tS K c d a→ SR K K w w [] []→Calls Tryz.prog 22 #[sl c a d] w (Ret (fun v_ w_=>∃ K_ Ar0 cr0,v_=sl Ar0 b cr0∧SR K K_ w w_ [] []∧tS K_ Ar0 cr0 b))
def aj6 (X:aaa→Option aaa):Prop:=∀ {K w b c a},X b=some (aaa.mk a)→GK K→aak K b c→ SR K K w w [] []→Calls Tryz.prog 11 #[.agg c.toArray] w (Ret (fun v_ w_=>∃ K_ Ar0_0 cr0_0 yr0_0,v_=.agg #[sl Ar0_0 a cr0_0]∧SR K K_ w w_ [] [eW (zz w) Ar0_0 a cr0_0 42 6 yr0_0]∧Reps (aao K_) 6 a yr0_0∧a.length * 88 ≤ mB))
def akj (X:aar→Bool→Option aar):Prop:=∀ {K w g bs a b c d e f h},X (aar.mk a b c) d=some (aar.mk e f h)→GK K→ (fun E:Ents=>SR K K w w E E→Calls Tryz.prog 38 #[.pointer (some ⟨g,0,none⟩),.bool d] w (Ret (fun v_ w_=>∃ K_,v_=.tuple #[]∧SR K K_ w w_ E [.box bs g #[iI e,iI f,.bool h] 67]))) [.box bs g #[iI a,iI b,.bool c] 67]
def akH (X:aar→Int→Option aar):Prop:=∀ {K w g bs a b c d e f h},X (aar.mk a b c) d=some (aar.mk e f h)→GK K→ (fun E:Ents=>SR K K w w E E→Calls Tryz.prog 39 #[.pointer (some ⟨g,0,none⟩),iI d] w (Ret (fun v_ w_=>∃ K_,v_=.tuple #[]∧SR K K_ w w_ E [.box bs g #[iI e,iI f,.bool h] 67]))) [.box bs g #[iI a,iI b,.bool c] 67]
def akt (X:Int→Option Bool):Prop:=∀ {K w a b},X a=some b→GK K→ SR K K w w [] []→Calls Tryz.prog 58 #[.int .u8 a] w (Ret (fun v_ w_=>∃ K_,v_=.bool b∧SR K K_ w w_ [] []))
def alx (X:Int→Option Bool):Prop:=∀ {K w a b},X a=some b→GK K→ SR K K w w [] []→Calls Tryz.prog 59 #[.int .u8 a] w (Ret (fun v_ w_=>∃ K_,v_=.bool b∧SR K K_ w w_ [] []))
def alB (X:Option LB):Prop:=∀ {K w a},X =some a→GK K→ SR K K w w [] []→Calls Tryz.prog 86 #[] w (Ret (fun v_ w_=>∃ K_ Ar0 cr0,v_=sl Ar0 a cr0∧SR K K_ w w_ [] []∧RSl BA RStr 1 16 K_ Ar0 cr0 a))
def aj9 (X:BA→Option Bool):Prop:=∀ {K w a b},X a=some b→GK K→a.size ≤ mB→ SR K K w w [] []→Calls Tryz.prog 60 #[.string a] w (Ret (fun v_ w_=>∃ K_,v_=.bool b∧SR K K_ w w_ [] []))
def ak4 (X:BA→Option Bool):Prop:=∀ {K w a b},X a=some b→GK K→a.size ≤ mB→ SR K K w w [] []→Calls Tryz.prog 40 #[.string a] w (Ret (fun v_ w_=>∃ K_,v_=.bool b∧SR K K_ w w_ [] []))
def alI (X:Int→Option (abD × Bool)):Prop:=∀ {K w a b c},X a=some (b,c)→GK K→ SR K K w w [] []→Calls Tryz.prog 87 #[iI a] w (Ret (fun v_ w_=>∃ K_ csr0,v_=.tuple #[.agg csr0.toArray,.bool c]∧SR K K_ w w_ [] []∧ac2 K_ b csr0))
def aiO (X:BA→Option Bool):Prop:=∀ {K w a b},X a=some b→GK K→a.size ≤ mB→ SR K K w w [] []→Calls Tryz.prog 106 #[.string a] w (Ret (fun v_ w_=>∃ K_,v_=.bool b∧SR K K_ w w_ [] []))
def afJ (X:aar→aah→Int→Bool→Option aar):Prop:=∀ {K w g bs a b c d e f h i j k},X (aar.mk a b c) d f h=some (aar.mk i j k)→GK K→aan K d e→ (fun E:Ents=>SR K K w w E E→Calls Tryz.prog 88 #[.pointer (some ⟨g,0,none⟩),.agg e.toArray,iI f,.bool h] w (Ret (fun v_ w_=>∃ K_,v_=.tuple #[]∧SR K K_ w w_ E [.box bs g #[iI i,iI j,.bool k] 67]))) [.box bs g #[iI a,iI b,.bool c] 67]
def adS (X:aar→LS→Int→Option aar):Prop:=∀ {K w g bs a b c d e f h i j k},X (aar.mk a b c) d h=some (aar.mk i j k)→GK K→tS K e f d→ (fun E:Ents=>SR K K w w E E→Calls Tryz.prog 41 #[.pointer (some ⟨g,0,none⟩),sl e d f,iI h] w (Ret (fun v_ w_=>∃ K_,v_=.tuple #[]∧SR K K_ w w_ E [.box bs g #[iI i,iI j,.bool k] 67]))) [.box bs g #[iI a,iI b,.bool c] 67]
def adU (X:aar→aaf→Int→Option aar):Prop:=∀ {K w g bs a b c d e f h i j},X (aar.mk a b c) d f=some (aar.mk h i j)→GK K→aai K d e→ (fun E:Ents=>SR K K w w E E→Calls Tryz.prog 61 #[.pointer (some ⟨g,0,none⟩),.agg e.toArray,iI f] w (Ret (fun v_ w_=>∃ K_,v_=.tuple #[]∧SR K K_ w w_ E [.box bs g #[iI h,iI i,.bool j] 67]))) [.box bs g #[iI a,iI b,.bool c] 67]
def ad0 (X:aar→aaB→Int→Option aar):Prop:=∀ {K w g bs a b c d e f h i j},X (aar.mk a b c) d f=some (aar.mk h i j)→GK K→aaE K d e→ (fun E:Ents=>SR K K w w E E→Calls Tryz.prog 89 #[.pointer (some ⟨g,0,none⟩),.agg e.toArray,iI f] w (Ret (fun v_ w_=>∃ K_,v_=.tuple #[]∧SR K K_ w w_ E [.box bs g #[iI h,iI i,.bool j] 67]))) [.box bs g #[iI a,iI b,.bool c] 67]
def akv (X:aaa→Option aar):Prop:=∀ {K w a b c},X a=some c→GK K→aak K a b→ SR K K w w [] []→Calls Tryz.prog 23 #[.agg b.toArray] w (Ret (fun v_ w_=>∃ K_ csr0,v_=.agg csr0.toArray∧SR K K_ w w_ [] []∧ad4 K_ c csr0))
def akb (X:aaa→Option Bool):Prop:=∀ {K w a b c},X a=some c→GK K→aak K a b→ SR K K w w [] []→Calls Tryz.prog 12 #[.agg b.toArray] w (Ret (fun v_ w_=>∃ K_,v_=.bool c∧SR K K_ w w_ [] []))
def afA (X:LE→Int→Option Int):Prop:=∀ {K w a b c d e},X a d=some e→GK K→tE K b c a→ SR K K w w [] []→Calls Tryz.prog 28 #[sl b a c,iI d] w (Ret (fun v_ w_=>∃ K_,v_=iI e∧SR K K_ w w_ [] []))
def afw (X:LS→Int→Option Int):Prop:=∀ {K w a b c d e},X a d=some e→GK K→tS K b c a→ SR K K w w [] []→Calls Tryz.prog 18 #[sl b a c,iI d] w (Ret (fun v_ w_=>∃ K_,v_=iI e∧SR K K_ w w_ [] []))
def anu (X:aaa→Option Bool):Prop:=∀ {K w a b c},X a=some c→GK K→aak K a b→ SR K K w w [] []→Calls Tryz.prog 7 #[.agg b.toArray] w (Ret (fun v_ w_=>∃ K_,v_=.bool c∧SR K K_ w w_ [] []))
def alr (X:LS→Option aaa):Prop:=∀ {K w a b c d},X a=some d→GK K→tS K b c a→ SR K K w w [] []→Calls Tryz.prog 19 #[sl b a c] w (Ret (fun v_ w_=>∃ K_ csr0,v_=.agg csr0.toArray∧SR K K_ w w_ [] []∧aak K_ d csr0))
def akG (X:Int→Option Bool):Prop:=∀ {K w a b},X a=some b→GK K→ SR K K w w [] []→Calls Tryz.prog 30 #[iI a] w (Ret (fun v_ w_=>∃ K_,v_=.bool b∧SR K K_ w w_ [] []))
def aeJ (X:(List Int)→Option Int):Prop:=∀ {K w a b c d},X a=some d→GK K→RSl Int (RInt .i64) 1 8 K b c a→ SR K K w w [] []→Calls Tryz.prog 46 #[sl b a c,.func (.func 30) #[] #[]] w (Ret (fun v_ w_=>∃ K_,v_=iI d∧SR K K_ w w_ [] []))
def aeE (X:(List Int)→Option Bool):Prop:=∀ {K w a b c d},X a=some d→GK K→RSl Int (RInt .i64) 1 8 K b c a→ SR K K w w [] []→Calls Tryz.prog 29 #[sl b a c,.func (.func 30) #[] #[]] w (Ret (fun v_ w_=>∃ K_,v_=.bool d∧SR K K_ w w_ [] []))
def akT (X:aah→Bool→Option Bool):Prop:=∀ {K w a b c d},X a c=some d→GK K→aan K a b→ SR K K w w [] []→Calls Tryz.prog 31 #[.agg b.toArray,.bool c] w (Ret (fun v_ w_=>∃ K_,v_=.bool d∧SR K K_ w w_ [] []))
def ac3 (X:aah→Int→Option Bool):Prop:=∀ {K w a b c d},X a c=some d→GK K→aan K a b→ SR K K w w [] []→Calls Tryz.prog 32 #[.agg b.toArray,iI c] w (Ret (fun v_ w_=>∃ K_,v_=.bool d∧SR K K_ w w_ [] []))
def abm (X:LE→Int→Option Bool):Prop:=∀ {K w a b c g bs s d},X a s=some d→GK K→tE K b c a→ (fun E:Ents=>SR K K w w E E→Calls Tryz.prog 48 #[sl b a c,.func (.func 49) #[] #[.pointer (some ⟨g,0,none⟩)]] w (Ret (fun v_ w_=>∃ K_,v_=.bool d∧SR K K_ w w_ E E))) [.box bs g #[iI s] 3]
def abj (X:aah→Int→Option Bool):Prop:=∀ {K w a b g bs s c},X a s=some c→GK K→aan K a b→ (fun E:Ents=>SR K K w w E E→Calls Tryz.prog 49 #[.agg b.toArray,.pointer (some ⟨g,0,none⟩)] w (Ret (fun v_ w_=>∃ K_,v_=.bool c∧SR K K_ w w_ E E))) [.box bs g #[iI s] 3]
def abn (X:LE→Unit→Int→Option Bool):Prop:=∀ {K w a b c g bs gA bsA sA d},X a () sA=some d→GK K→tE K b c a→ (fun E:Ents=>SR K K w w E E→Calls Tryz.prog 73 #[sl b a c,.func (.func 74) #[] #[.pointer (some ⟨g,0,none⟩)]] w (Ret (fun v_ w_=>∃ K_,v_=.bool d∧SR K K_ w w_ E E))) [.box bs g #[.func (.func 49) #[] #[.pointer (some ⟨gA,0,none⟩)]] 97,.box bsA gA #[iI sA] 3]
def abq (X:aah→Unit→Int→Option Bool):Prop:=∀ {K w a b g bs gA bsA sA c},X a () sA=some c→GK K→aan K a b→ (fun E:Ents=>SR K K w w E E→Calls Tryz.prog 74 #[.agg b.toArray,.pointer (some ⟨g,0,none⟩)] w (Ret (fun v_ w_=>∃ K_,v_=.bool c∧SR K K_ w w_ E E))) [.box bs g #[.func (.func 49) #[] #[.pointer (some ⟨gA,0,none⟩)]] 97,.box bsA gA #[iI sA] 3]
def abr (X:LE→Unit→Int→Option Int):Prop:=∀ {K w a b c g bs gA bsA sA d},X a () sA=some d→GK K→tE K b c a→ (fun E:Ents=>SR K K w w E E→Calls Tryz.prog 98 #[sl b a c,.func (.func 74) #[] #[.pointer (some ⟨g,0,none⟩)]] w (Ret (fun v_ w_=>∃ K_,v_=iI d∧SR K K_ w w_ E E))) [.box bs g #[.func (.func 49) #[] #[.pointer (some ⟨gA,0,none⟩)]] 97,.box bsA gA #[iI sA] 3]
def ajZ (X:aah→(List Int)→Option (Int × Int)):Prop:=∀ {K w b c a d e f g},X b a=some (f,g)→GK K→aan K b c→RSl Int (RInt .i64) 1 8 K d e a→ SR K K w w [] []→Calls Tryz.prog 20 #[.agg c.toArray,sl d a e] w (Ret (fun v_ w_=>∃ K_,v_=.tuple #[iI f,iI g]∧SR K K_ w w_ [] []))
def ani (X:Option Bool):Prop:=∀ {K w a},X =some a→GK K→ SR K K w w [] []→Calls Tryz.prog 8 #[] w (Ret (fun v_ w_=>∃ K_,v_=.bool a∧SR K K_ w w_ [] []))
def am3 (X:Int→Int→Option Int):Prop:=∀ {K w a b c},X a b=some c→GK K→ SR K K w w [] []→Calls Tryz.prog 9 #[iI a,iI b] w (Ret (fun v_ w_=>∃ K_,v_=iI c∧SR K K_ w w_ [] []))
def anL (X:aaa→Int→Option Bool):Prop:=∀ {K w a b c d},X a c=some d→GK K→aak K a b→ SR K K w w [] []→Calls Tryz.prog 3 #[.agg b.toArray,iI c] w (Ret (fun v_ w_=>∃ K_,v_=.bool d∧SR K K_ w w_ [] []))
end Go.Proofs.YtoegpkmhifmamaaGreatDoor
set_option maxRecDepth 100000
set_option maxHeartbeats 20000000
namespace Go.Proofs.YtoegpkmhifmamaaGreatDoor
open Go
theorem ark (k:Nat):ak2 (asn k):=by
 unfold ak2;intro K wi an a4 a5 h hG ao ap;obtain ⟨r_,hr_,h⟩:=rz h;obtain ⟨aq,ar,au,av,aw,ax,ay,f,g,l,q⟩:=an;obtain ⟨az,aA,A,B,C,D,G,I,Y,Z,rfl,a6,a7,a8,aB,aG,aH,af⟩:=aai.open ao;refine enter Tryz.func92 rfl (n:=27) rfl ?_;unfold asn at h;refine sr (bxoC (cs:=(aS aq ar au av aw ax az ay aA A f B C g D G l I Y q Z)) ap rfl rfl (fun ag N=>(m2 nS (wt (sr (fd 7 abo rfl (l1 0 (sl A f B) N aa4 (fd 8 abR rfl (l1 0 (sl C g D) N aa4 (fd 9 ab6 rfl (l1 0 (sl G l I) N aa4 (bsl (e:=34) (cells:=#[sl A f B,sl C g D,sl G l I]) (vs:=[(0,sl A f B),(1,sl C g D),(2,sl G l I)]) N rfl (fun w=>by kernel_rfl) (fun a9 aI=>(have ah:=aI.boxrowN (i:=0) (size:=1) (m:=3) rfl rfl (by decide);(m2 (.slice (some ⟨(zz ag),0,none⟩) [f,g,l].length 3) (wt (wp_seq (sr (fd 10 aaN rfl (l1 1 (sl Y q Z) ah acP (lS q.length abH (m1 (iI 0) (wt (wp_block (aaz (fun g_ a w=>∃ ai t,∃ (s:Nat),∃ c u x ab,g_=t.length∧a=fr 27 (updL ai [(3,sl u c x),(14,sl Y q Z),(15,iI (q.length:Int)),(16,iI (s:Int))])∧SR K K wi w [] [eW (zz wi) u c x 34 1 ab]∧q.drop s=t∧Reps (RSlE aaf (fun K=>(aai K)) 11 184 K) 1 c ab∧c.length * 24 ≤ mB∧ahG k t s c=some r_) q.length ?_ ?_)))))))))))))))))))))))))
 ·exact ⟨_,q,0,[f,g,l],(some ⟨(zz ag),0,none⟩),3,[sl A f B,sl C g D,sl G l I],rfl,fR,(ah.sel [0]),List.drop_zero,⟨[sl A f B],_,rfl,rfl,⟨_,_,rfl,aB⟩,⟨[sl C g D],_,rfl,rfl,⟨_,_,rfl,aG⟩,⟨[sl G l I],_,rfl,rfl,⟨_,_,rfl,aH⟩,(aa6 (R:=(RSlE aaf (fun K=>(aai K)) 11 184 K)) (size:=1))⟩⟩⟩,(Nat.le_of_ble_eq_true rfl),h⟩
 ·rintro _ _ aJ ⟨ai,t,s,c,u,x,ab,rfl,rfl,ac,J,aj,aK,h⟩;rcases t with _ | ⟨⟨O,S,U,V,d⟩,t⟩
  ·unfold ahG at h;refine sr (bcm (r:=false) rfl rfl (congrArg some (aaq J)) (wt (wp_seq (cndF rfl (wp_exit (aaA (aaA (blkX (aac (sr (m1 (sl u c x) (m2 (sl u c x) (wt (wp_ret ?_))))))))))))));obtain ⟨aL,aM,ba,aN⟩:=ab0 (i:=0) (bytes:=24) (R:=fun K=>(RSlE aaf (fun K=>(aai K)) 11 184 K)) ac rfl (Nat.le_refl _) aj aK (fun hs=>(fun _ _ h=>RSlE.mono (R:=fun K=>(aai K)) (fun hs _ _ h=>aai.mono hs h) hs h));cases (oi h).trans hr_;exact aaw rfl (resT rfl) ⟨aL,u,x,rfl,aM,aN⟩
  ·unfold ahG at h;refine sr (bcm (r:=true) rfl rfl (congrArg some (aap J)) (wt (wp_seq (cndT rfl (wp_skip (aac (wp_seq (wp_block (sr ?_)))))))));obtain ⟨aP,aQ,bb,aT,bd,aU,aV⟩:=(af).row.at_ (aal J);obtain ⟨W,X,y,z,rfl,be,bf,aW⟩:=aaE.open aV;refine idxN (b:=aP) (o:=aQ) (i:=s) abH abP rfl aT rfl (aab J) (lD (vC O S U W V X y d z) aeX abP rfl (fun j v hj=>ac.cell (kr.cell (aU j v hj))) (aC zC.toArray ac ag7 (fun bg aX=>(sI 0 (.agg (aC' O S U W V X y d z)) ((aC' O S U W V X y d z)) aX abP rfl rfl (fun bh ak=>(wt (wp_region_lit (m1 (sl u c x) (fd 4 acH rfl (l1 0 (sl y d z) ak aa4 (bsl (e:=34) (cells:=#[sl y d z]) (vs:=[(0,sl y d z)]) ak rfl (aam anU abZ ays rfl (by decide) (by decide) rfl) (fun bi aY=>?_))))))))))));obtain ⟨al,h⟩:=aaC h;refine apR (R:=(RSlE aaf (fun K=>(aai K)) 11 184 K)) (p:=d) (i:=2) (j:=0) aY rfl rfl anU azN rfl (by decide) rfl rfl aj ⟨_,_,rfl,aW⟩ rfl rfl (Nat.le_refl _) al (by decide) (fun ad ae am aZ a1 a2=>?_);have a3:=p12 a1;exact m2 (.slice ad (c ++ [d]).length ae) (wpList_nil (blkN (aac (wp_region_lit (bar (r:=((s + 1:Nat):Int)) rfl rfl (aaO (aaS ((af).len) (by decide) (aab J))) (m1 (iI ((s + 1:Nat):Int)) (wt (⟨_,Nat.lt_succ_self _,_,t,s + 1,(c ++ [d]),ad,ae,am,rfl,fR,(a3.sel [1]),aaj J,a2,(aaL al),h⟩))))))))
theorem aub (k:Nat):ak2 (f92 k):=ark k
theorem asL (k:Nat) (F:afl) (IH63:acW F.f63) (IH90:acZ F.f90) (IH1004261:abf F.f1004261) (IH1006261:abi F.f1006261) (IH1009184:abs F.f1009184) (IH1010784:abd F.f1010784):acW (au0 k F):=by
 unfold acW;intro K wi a b c d h hG f e;obtain ⟨r_,hr_,h⟩:=rz h;refine enter Tryz.func63 rfl (n:=5) rfl ?_;unfold au0 at h;refine sr (m2 vN (wt (sr (m1 (sl b a c) ?_))));obtain ⟨d,g,h⟩:=ob h;refine cv ([sl b a c,.func (.func 90) #[] #[]]) awu (IH1004261 g (hG.mono kr) f (pt e)) ?_;rintro _ m ⟨i,rfl,j⟩;have l:=ca j e;refine m2 (.bool d) (wt (wp_ret ?_));cases (oi h).trans hr_;exact aaw rfl (resT rfl) ⟨i,rfl,l⟩
theorem arH (k:Nat) (F:afl) (IH63:acW F.f63) (IH90:acZ F.f90) (IH1004261:abf F.f1004261) (IH1006261:abi F.f1006261) (IH1009184:abs F.f1009184) (IH1010784:abd F.f1010784):acZ (arf k F):=by
 unfold acZ;intro K wi am aM aN h hG an ao;obtain ⟨r_,hr_,h⟩:=rz h;obtain ⟨b,j,l,m,o,d,p,q,r,s,t⟩:=am;obtain ⟨u,v,x,y,z,A,B,C,D,G,rfl,Y,Z,ab,ac,ad,ae,af⟩:=aai.open an;refine enter Tryz.func90 rfl (n:=29) rfl ?_;unfold arf at h;refine sr (bxoC (cs:=(aS b j l m o d u p v x q y z r A B s C D t G)) ao rfl rfl (fun aP I=>(m2 vN (wt (wp_seq (aax (fun a w=>∃ ag N,a=fr 29 (updL ag [(1,pp (zz wi) 0),(10,.bool N)])∧SR K K wi w [] [.box (zz wi) (zz wi) (aS b j l m o d u p v x q y z r A B s C D t G) 37]∧amj k F b j l m o d p q r s t N=some r_) ?_ ?_))))))
 ·refine wp_region_lit (fd 0 abk rfl (l1 0 (iI b) I Tya3 (c0 (b == 21) (m1 (.bool (b == 21)) (cd h (fun f h=>?_) (fun f h=>?_))))))
  ·exact o1 6 f (o1 6 f (o1 6 f (m3 true vT (cg f) (wt (⟨_,true,fR,I,h⟩)))))
  ·exact n1 6 f (fd 0 abk rfl (n1 6 f (l1 0 (iI b) I Tya3 (n1 6 f (c0 (b == 28) (m3 false (.bool (b == 28)) (cg f) (wt (⟨_,(b == 28),fR,I,h⟩))))))))
 ·rintro _ aQ ⟨ag,N,rfl,e,h⟩;unfold amj at h;refine cd h (fun O h=>?_) (fun O h=>?_)
  ·refine cT O (sr (m2 vN (wt (wp_ret (aav ?_)))));cases (oi h).trans hr_;exact aaw rfl (resT rfl) ⟨K,rfl,(e.sel [])⟩
  ·refine cF O (wp_skip (aac (aax (fun a w=>∃ ah J S,a=fr 29 (updL ah [(2,.bool S)])∧KH.sub K J∧SR K J wi w [] []∧aii k F S=some r_) ?_ ?_)))
   ·refine wp_region_lit (fd 0 abk rfl (l1 0 (iI b) e Tya3 (c0 (b == 18) (m1 (.bool (b == 18)) (cd h (fun c h=>?_) (fun c h=>?_))))))
    ·exact o1 14 c (o1 14 c (o1 14 c (o1 14 c (ou 18 (ou 18 (ou 18 (o1 14 c (m3 true vT (cg c) (m1 vT (o0 24 (o0 24 (o0 24 (m3 true vT rfl (m2 vT (wt (⟨_,K,true,fR,kr,(e.sel []),h⟩))))))))))))))))
    ·refine n1 14 c (fd 0 abk rfl (n1 14 c (l1 0 (iI b) e Tya3 (n1 14 c (c0 (b == 6) (n1 14 c (m1 (.bool (b == 6)) (cd h (fun g h=>?_) (fun g h=>?_)))))))))
     ·refine n1 18 g (fd 5 abv rfl (n1 18 g (l1 0 (iI d) e Tya3 (n1 18 g (c0 (d == 1) (n1 14 c (m3 true (.bool (d == 1)) (cg g) (m3 false (.bool (d == 1)) (cg c) (m1 (.bool (d == 1)) (cd h (fun i h=>?_) (fun i h=>?_)))))))))))
      ·exact o1 24 i (o1 24 i (o1 24 i (m3 true vT (cg i) (m2 vT (wt (⟨_,K,true,fR,kr,(e.sel []),h⟩))))))
      ·refine n1 24 i (lN 0 (vS b j l m o d u p v x q y z r A B s C D t G) e abX aaM (n1 24 i ?_));obtain ⟨ap,aq,h⟩:=ob h;refine cv ([.agg (aS b j l m o d u p v x q y z r A B s C D t G)]) ax1 ((aub k) aq (hG.mono kr) (aai.intro Y Z ab ac ad ae af) (pt e)) ?_;rintro _ aT ⟨aU,ar,au,rfl,U,av⟩;have ai:=ca U e;refine n1 24 i ?_;obtain ⟨V,aw,h⟩:=ob h;refine cv ([sl ar ap au,.func (.func 63) #[] #[]]) aw0 (IH1009184 aw (hG.mono U.sub) av (pt ai)) ?_;rintro _ aV ⟨ax,rfl,aj⟩;have ay:=ca aj ai;exact m3 false (.bool V) (cg i) (m2 (.bool V) (wt (⟨_,ax,V,fR,(U.sub.trans aj.sub),(ay.sel []),h⟩)))
     ·refine o1 18 g (o1 18 g (o1 18 g (n1 14 c (m3 false vN (cg g) (m3 false vN (cg c) (m1 vN (n0 24 (lN 0 (vS b j l m o d u p v x q y z r A B s C D t G) e abX aaM (n0 24 ?_)))))))));obtain ⟨az,aA,h⟩:=ob h;refine cv ([.agg (aS b j l m o d u p v x q y z r A B s C D t G)]) ax1 ((aub k) aA (hG.mono kr) (aai.intro Y Z ab ac ad ae af) (pt e)) ?_;rintro _ aW ⟨aX,aB,aG,rfl,W,aH⟩;have ak:=ca W e;refine n0 24 ?_;obtain ⟨X,aI,h⟩:=ob h;refine cv ([sl aB az aG,.func (.func 63) #[] #[]]) aw0 (IH1009184 aI (hG.mono W.sub) aH (pt ak)) ?_;rintro _ aY ⟨aJ,rfl,al⟩;have aK:=ca al ak;exact m3 false (.bool X) rfl (m2 (.bool X) (wt (⟨_,aJ,X,fR,(W.sub.trans al.sub),(aK.sel []),h⟩)))
   ·rintro _ aZ ⟨ah,J,S,rfl,a1,aL,h⟩;unfold aii at h;refine wp_ret ?_;cases (oi h).trans hr_;exact aaw rfl (resT rfl) ⟨J,rfl,aL⟩
theorem aj5 (k:Nat) (F:afl) (IH63:acW F.f63) (IH90:acZ F.f90) (IH1004261:abf F.f1004261) (IH1006261:abi F.f1006261) (IH1009184:abs F.f1009184) (IH1010784:abd F.f1010784):abf (ahk k F):=by
 unfold abf;intro K wi b c d a h hG f e;obtain ⟨r_,hr_,h⟩:=rz h;refine enter Tryz.func42 rfl (n:=9) rfl ?_;unfold ahk at h;refine sr (m2 vN (wt (sr (m1 (sl c b d) (m1 (.func (.func 90) #[] #[]) ?_)))));obtain ⟨a,g,h⟩:=ob h;refine cv ([sl c b d,.func (.func 90) #[] #[]]) awr (IH1006261 g (hG.mono kr) f (pt e)) ?_;rintro _ m ⟨i,rfl,j⟩;have l:=ca j e;refine c0 (decide (a ≥ 0)) (m2 (.bool (decide (a ≥ 0))) (wt (wp_ret ?_)));cases (oi h).trans hr_;exact aaw rfl (resT rfl) ⟨i,rfl,l⟩
theorem ak9 (k:Nat) (F:afl) (IH63:acW F.f63) (IH90:acZ F.f90) (IH1004261:abf F.f1004261) (IH1006261:abi F.f1006261) (IH1009184:abs F.f1009184) (IH1010784:abd F.f1010784):abi (ahd k F):=by
 unfold abi;intro K wi d p q an h hG t ah;obtain ⟨r_,hr_,h⟩:=rz h;refine enter Tryz.func62 rfl (n:=19) rfl ?_;unfold ahd at h;refine sr (m2 (iI 0) (wt (wp_seq (sr (m1 (sl p d q) (lS d.length aa5 (m1 (iI 0) (wt (wp_block (aaz (fun g_ a w=>∃ u g e,∃ (c:Nat),g_=e.length∧a=fr 19 (updL u [(0,sl p d q),(1,.func (.func 90) #[] #[]),(7,iI (d.length:Int)),(8,iI (c:Int))])∧KH.sub K g∧SR K g wi w [] []∧d.drop c=e∧act k F e c=some r_) d.length ?_ ?_))))))))))
 ·exact ⟨_,K,d,0,rfl,fR,kr,ah,List.drop_zero,h⟩
 ·rintro _ _ ao ⟨u,g,e,c,rfl,rfl,l,m,f,h⟩;rcases e with _ | ⟨⟨x,y,z,A,B,C,D,G,I,J,N⟩,e⟩
  ·unfold act at h;refine sr (bcm (r:=false) rfl rfl (congrArg some (aaq f)) (wt (wp_seq (cndF rfl (wp_exit (aaA (aaA (blkX (aac (sr (m2 (iI (-1)) (wt (wp_ret ?_)))))))))))));cases (oi h).trans hr_;exact aaw rfl (resT rfl) ⟨g,rfl,m⟩
  ·unfold act at h;refine sr (bcm (r:=true) rfl rfl (congrArg some (aap f)) (wt (wp_seq (cndT rfl (wp_skip (aac (wp_seq (wp_block (sr (m1 (iI (c:Int)) (m2 (iI (c:Int)) (wt (sr (m1 (.func (.func 90) #[] #[]) (m1 (sl p d q) (m1 (iI (c:Int)) ?_))))))))))))))));obtain ⟨ai,aj,ap,ak,aq,al,O⟩:=((ms t l)).row.at_ (aal f);obtain ⟨S,U,V,W,X,Y,Z,ab,ac,ad,rfl,ar,au,av,aw,ax,ay,az⟩:=aai.open O;refine idxN (b:=ai) (o:=aj) (i:=c) aa5 aaM rfl ak rfl (aab f) (lD (vS x y z A B C S D U V G W X I Y Z J ab ac N ad) abX aaM rfl (fun j v hj=>m.cell (kr.cell (al j v hj))) ?_);obtain ⟨aA,am,h⟩:=ob h;refine cv ([.agg (aS x y z A B C S D U V G W X I Y Z J ab ac N ad)]) azh (IH90 am (hG.mono l) O (pt m)) ?_;rintro _ aB ⟨ae,rfl,af⟩;have ag:=ca af m;refine wt (cd h (fun s h=>?_) (fun s h=>?_))
   ·refine cT s (sr (m1 (iI (c:Int)) (m2 (iI (c:Int)) (wt (wp_ret (blkR (aav (aav (blkR (aav ?_))))))))));cases (oi h).trans hr_;exact aaw rfl (resT rfl) ⟨ae,rfl,ag⟩
   ·exact cF s (wp_skip (blkN (aac (wp_region_lit (bar (r:=((c + 1:Nat):Int)) rfl rfl (aaO (aaS (((ms t l)).len) (by decide) (aab f))) (m1 (iI ((c + 1:Nat):Int)) (wt (⟨_,Nat.lt_succ_self _,_,ae,e,c + 1,rfl,fR,(l.trans af.sub),ag,aaj f,h⟩))))))))
theorem ak5 (k:Nat) (F:afl) (IH63:acW F.f63) (IH90:acZ F.f90) (IH1004261:abf F.f1004261) (IH1006261:abi F.f1006261) (IH1009184:abs F.f1009184) (IH1010784:abd F.f1010784):abs (ag3 k F):=by
 unfold abs;intro K wi b c d a h hG f e;obtain ⟨r_,hr_,h⟩:=rz h;refine enter Tryz.func91 rfl (n:=9) rfl ?_;unfold ag3 at h;refine sr (m2 vN (wt (sr (m1 (sl c b d) (m1 (.func (.func 63) #[] #[]) ?_)))));obtain ⟨a,g,h⟩:=ob h;refine cv ([sl c b d,.func (.func 63) #[] #[]]) awp (IH1010784 g (hG.mono kr) f (pt e)) ?_;rintro _ m ⟨i,rfl,j⟩;have l:=ca j e;refine c0 (decide (a ≥ 0)) (m2 (.bool (decide (a ≥ 0))) (wt (wp_ret ?_)));cases (oi h).trans hr_;exact aaw rfl (resT rfl) ⟨i,rfl,l⟩
theorem alG (k:Nat) (F:afl) (IH63:acW F.f63) (IH90:acZ F.f90) (IH1004261:abf F.f1004261) (IH1006261:abi F.f1006261) (IH1009184:abs F.f1009184) (IH1010784:abd F.f1010784):abd (ahm k F):=by
 unfold abd;intro K wi d m p U h hG s C;obtain ⟨r_,hr_,h⟩:=rz h;refine enter Tryz.func107 rfl (n:=19) rfl ?_;unfold ahm at h;refine sr (m2 (iI 0) (wt (wp_seq (sr (m1 (sl m d p) (lS d.length anU (m1 (iI 0) (wt (wp_block (aaz (fun g_ a w=>∃ t j e,∃ (c:Nat),g_=e.length∧a=fr 19 (updL t [(0,sl m d p),(1,.func (.func 63) #[] #[]),(7,iI (d.length:Int)),(8,iI (c:Int))])∧KH.sub K j∧SR K j wi w [] []∧d.drop c=e∧acS k F e c=some r_) d.length ?_ ?_))))))))))
 ·exact ⟨_,K,d,0,rfl,fR,kr,C,List.drop_zero,h⟩
 ·rintro _ _ V ⟨t,j,e,c,rfl,rfl,f,l,g,h⟩;rcases e with _ | ⟨u,e⟩
  ·unfold acS at h;refine sr (bcm (r:=false) rfl rfl (congrArg some (aaq g)) (wt (wp_seq (cndF rfl (wp_exit (aaA (aaA (blkX (aac (sr (m2 (iI (-1)) (wt (wp_ret ?_)))))))))))));cases (oi h).trans hr_;exact aaw rfl (resT rfl) ⟨j,rfl,l⟩
  ·unfold acS at h;refine sr (bcm (r:=true) rfl rfl (congrArg some (aap g)) (wt (wp_seq (cndT rfl (wp_skip (aac (wp_seq (wp_block (sr (m1 (iI (c:Int)) (m2 (iI (c:Int)) (wt (sr (m1 (.func (.func 63) #[] #[]) (m1 (sl m d p) (m1 (iI (c:Int)) ?_))))))))))))))));obtain ⟨D,G,W,I,X,J,N⟩:=((s.mono f (fun _ _ h=>RSlE.mono (R:=fun K=>(aai K)) (fun hs _ _ h=>aai.mono hs h) f h))).row.at_ (aal g);obtain ⟨x,y,rfl,O⟩:=N;refine idxN (b:=D) (o:=G) (i:=c) anU abZ rfl I rfl (aab g) (ld1 (v:=sl x u y) aa4 rfl (l.cell (kr.cell (J 0 _ rfl))) ?_);obtain ⟨Y,S,h⟩:=ob h;refine cv ([sl x u y]) ayk (IH63 S (hG.mono f) O (pt l)) ?_;rintro _ Z ⟨z,rfl,A⟩;have B:=ca A l;refine wt (cd h (fun q h=>?_) (fun q h=>?_))
   ·refine cT q (sr (m1 (iI (c:Int)) (m2 (iI (c:Int)) (wt (wp_ret (blkR (aav (aav (blkR (aav ?_))))))))));cases (oi h).trans hr_;exact aaw rfl (resT rfl) ⟨z,rfl,B⟩
   ·exact cF q (wp_skip (blkN (aac (wp_region_lit (bar (r:=((c + 1:Nat):Int)) rfl rfl (aaO (aaS (((s.mono f (fun _ _ h=>RSlE.mono (R:=fun K=>(aai K)) (fun hs _ _ h=>aai.mono hs h) f h))).len) (by decide) (aab g))) (m1 (iI ((c + 1:Nat):Int)) (wt (⟨_,Nat.lt_succ_self _,_,z,e,c + 1,rfl,fR,(f.trans A.sub),B,aaj g,h⟩))))))))
theorem afB (k0:Nat) : ∀ k,acW (acD k0 k).f63∧acZ (acD k0 k).f90∧abf (acD k0 k).f1004261∧abi (acD k0 k).f1006261∧abs (acD k0 k).f1009184∧abd (acD k0 k).f1010784:=by
 intro k;induction k with
 | zero=>exact ⟨(by unfold acW; intro _ _ _ _ _ _ h_; cases h_),(by unfold acZ; intro _ _ _ _ _ h_; cases h_),(by unfold abf; intro _ _ _ _ _ _ h_; cases h_),(by unfold abi; intro _ _ _ _ _ _ h_; cases h_),(by unfold abs; intro _ _ _ _ _ _ h_; cases h_),(by unfold abd; intro _ _ _ _ _ _ h_; cases h_)⟩
 | succ k ih=>exact ⟨asL k0 (acD k0 k) ih.1 ih.2.1 ih.2.2.1 ih.2.2.2.1 ih.2.2.2.2.1 ih.2.2.2.2.2,arH k0 (acD k0 k) ih.1 ih.2.1 ih.2.2.1 ih.2.2.2.1 ih.2.2.2.2.1 ih.2.2.2.2.2,aj5 k0 (acD k0 k) ih.1 ih.2.1 ih.2.2.1 ih.2.2.2.1 ih.2.2.2.2.1 ih.2.2.2.2.2,ak9 k0 (acD k0 k) ih.1 ih.2.1 ih.2.2.1 ih.2.2.2.1 ih.2.2.2.2.1 ih.2.2.2.2.2,ak5 k0 (acD k0 k) ih.1 ih.2.1 ih.2.2.1 ih.2.2.2.1 ih.2.2.2.2.1 ih.2.2.2.2.2,alG k0 (acD k0 k) ih.1 ih.2.1 ih.2.2.1 ih.2.2.2.1 ih.2.2.2.2.1 ih.2.2.2.2.2⟩
theorem axW (k:Nat):acW (f63 k):=(afB k k).1
theorem azT (k:Nat):acZ (f90 k):=(afB k k).2.1
theorem avf (k:Nat):abf (f1004261 k):=(afB k k).2.2.1
theorem avy (k:Nat):abi (f1006261 k):=(afB k k).2.2.2.1
theorem avF (k:Nat):abs (f1009184 k):=(afB k k).2.2.2.2.1
theorem auB (k:Nat):abd (f1010784 k):=(afB k k).2.2.2.2.2
theorem arB (k:Nat) (F:adk) (IH24:acq F.f24) (IH43:aco F.f43) (IH65:acp F.f65) (IH1004205:aa1 F.f1004205) (IH1006205:aaZ F.f1006205) (IH1006449:aaY F.f1006449) (IH1009382:aa2 F.f1009382) (IH1009447:aa3 F.f1009447) (IH1010882:aa0 F.f1010882):acq (au6 k F):=by
 unfold acq;intro K wi a b c d h hG f e;obtain ⟨r_,hr_,h⟩:=rz h;refine enter Tryz.func24 rfl (n:=5) rfl ?_;unfold au6 at h;refine sr (m2 vN (wt (sr (m1 (sl b a c) ?_))));obtain ⟨d,g,h⟩:=ob h;refine cv ([sl b a c,.func (.func 43) #[] #[]]) awu (IH1004205 g (hG.mono kr) f (pt e)) ?_;rintro _ m ⟨i,rfl,j⟩;have l:=ca j e;refine m2 (.bool d) (wt (wp_ret ?_));cases (oi h).trans hr_;exact aaw rfl (resT rfl) ⟨i,rfl,l⟩
theorem asr (k:Nat) (F:adk) (IH24:acq F.f24) (IH43:aco F.f43) (IH65:acp F.f65) (IH1004205:aa1 F.f1004205) (IH1006205:aaZ F.f1006205) (IH1006449:aaY F.f1006449) (IH1009382:aa2 F.f1009382) (IH1009447:aa3 F.f1009447) (IH1010882:aa0 F.f1010882):aco (ap8 k F):=by
 unfold aco;intro K wi a5 bJ bK h hG a6 a7;obtain ⟨r_,hr_,h⟩:=rz h;obtain ⟨c,al,am,an,ao,l,G,j,t,A,B⟩:=a5;obtain ⟨N,O,m,p,C,D,S,U,V,W,rfl,bL,bM,a8,ac,aN,a9,ba⟩:=aai.open a6;refine enter Tryz.func43 rfl (n:=80) rfl ?_;unfold ap8 at h;refine sr (bxoC (cs:=(aS c al am an ao l N G O m j p C t D S A U V B W)) a7 rfl rfl (fun bN X=>(m2 vN (wt (wp_seq (sr (fd 0 abk rfl (l1 0 (iI c) X Tya3 (wt (wp_block (aax (fun a w=>∃ aP ap,a=fr 80 (updL aP [(1,pp (zz wi) 0),(4,iI c),(5,.bool ap)])∧SR K K wi w [] [.box (zz wi) (zz wi) (aS c al am an ao l N G O m j p C t D S A U V B W) 37]∧aix k F c l G j t A B ap=some r_) ?_ ?_)))))))))))
 ·refine sr (c0 (c == 17) (m2 (.bool (c == 17)) (wt (cd h (fun aq h=>?_) (fun aq h=>?_)))))
  ·exact cT aq (wp_skip (aac (⟨_,(c == 17),fR,X,h⟩)))
  ·refine cF aq (sr (c0 (c == 15) (m2 (.bool (c == 15)) (wt (cd h (fun ar h=>?_) (fun ar h=>?_))))))
   ·exact cT ar (wp_skip (aac (⟨_,(c == 15),fR,X,h⟩)))
   ·refine cF ar (sr (c0 (c == 18) (m2 (.bool (c == 18)) (wt (cd h (fun au h=>?_) (fun au h=>?_))))))
    ·exact cT au (wp_skip (aac (⟨_,(c == 18),fR,X,h⟩)))
    ·exact cF au (wp_region_lit (c0 (c == 19) (m2 (.bool (c == 19)) (wt (⟨_,(c == 19),fR,X,h⟩)))))
 ·rintro _ bO ⟨aP,ap,rfl,d,h⟩;unfold aix at h;refine cd h (fun av h=>?_) (fun av h=>?_)
  ·refine cT av (sr (m2 vT (wt (wp_ret (blkR (aav ?_))))));cases (oi h).trans hr_;exact aaw rfl (resT rfl) ⟨K,rfl,(d.sel [])⟩
  ·refine cF av (sr (c0 (c == 20) (m2 (.bool (c == 20)) (wt (cd h (fun aw h=>?_) (fun aw h=>?_))))))
   ·refine cT aw (aax (fun a w=>∃ aQ ad ax,a=fr 80 (updL aQ [(2,.bool ax)])∧KH.sub K ad∧SR K ad wi w [] []∧ajQ k F ax=some r_) ?_ ?_)
    ·refine wp_region_lit (fd 5 abv rfl (l1 0 (iI l) d Tya3 (c0 (l == 1) (m1 (.bool (l == 1)) (cd h (fun u h=>?_) (fun u h=>?_))))))
     ·refine n1 15 u (fd 7 abo rfl (n1 15 u (l1 0 (sl m j p) d aa4 (n1 15 u ?_))));obtain ⟨aT,bb,h⟩:=ob h;refine cv ([sl m j p]) amT (IH24 bb (hG.mono kr) ac (pt d)) ?_;rintro _ bP ⟨bd,rfl,Y⟩;have ae:=ca Y d;refine m3 true (.bool aT) (cg u) (m1 (.bool aT) (cd h (fun x h=>?_) (fun x h=>?_)))
      ·refine n1 20 x (fd 8 abR rfl (n1 20 x (l1 0 (sl C t D) ae aa4 (n1 20 x ?_))));obtain ⟨ay,be,h⟩:=ob h;refine cv ([sl C t D]) amT (IH24 be (hG.mono Y.sub) (ms aN Y.sub) (pt ae)) ?_;rintro _ bQ ⟨bf,rfl,aU⟩;have bg:=ca aU ae;exact m3 true (.bool ay) (cg x) (m2 (.bool ay) (wt (⟨_,bf,ay,fR,(Y.sub.trans aU.sub),(bg.sel []),h⟩)))
      ·exact o1 20 x (o1 20 x (o1 20 x (m3 false vN (cg x) (m2 vN (wt (⟨_,bd,false,fR,Y.sub,(ae.sel []),h⟩))))))
     ·exact o1 15 u (o1 15 u (o1 15 u (m3 false vN (cg u) (m1 vN (o0 20 (o0 20 (o0 20 (m3 false vN rfl (m2 vN (wt (⟨_,K,false,fR,kr,(d.sel []),h⟩)))))))))))
    ·rintro _ bR ⟨aQ,ad,ax,rfl,bS,bh,h⟩;unfold ajQ at h;refine wp_ret (blkR (aav ?_));cases (oi h).trans hr_;exact aaw rfl (resT rfl) ⟨ad,rfl,bh⟩
   ·refine cF aw (sr (c0 (c == 21) (m2 (.bool (c == 21)) (wt (cd h (fun az h=>?_) (fun az h=>?_))))))
    ·refine cT az (aax (fun a w=>∃ aV af aA,a=fr 80 (updL aV [(2,.bool aA)])∧KH.sub K af∧SR K af wi w [] []∧ajG k F aA=some r_) ?_ ?_)
     ·refine wp_region_lit (fd 6 abt rfl (l1 0 (sl N G O) d abw ?_));obtain ⟨⟨aB,ag,bT,bU,bV⟩,Z,h⟩:=ob h;obtain ⟨aW,ah,bW,aX,bX,aY,bi⟩:=(a8).row.at_ (aat Z).1;obtain ⟨bY,bZ,rfl,b0,b1⟩:=aan.open bi;refine idxG (b:=aW) (o:=ah) (i:=0) aba aaX rfl aX rfl (aat Z).2.1 (aat Z).2.2 (fd (ah + (0:Int).toNat * 5 + 0) acG rfl (ld1 (v:=iI aB) Tya3 rfl (d.cell (kr.cell (aY 0 _ rfl))) (c0 (aB == 2) (m1 (.bool (aB == 2)) (cd h (fun g h=>?_) (fun g h=>?_))))))
      ·refine n1 33 g (fd 6 abt rfl (n1 33 g (l1 0 (sl N G O) d abw (n1 33 g (idxG (b:=aW) (o:=ah) (i:=0) aba aaX rfl aX rfl (aat Z).2.1 (aat Z).2.2 (n1 33 g (fd (ah + (0:Int).toNat * 5 + 1) acO rfl (n1 33 g (ld1 (v:=iI ag) Tya3 rfl (d.cell (kr.cell (aY 1 _ rfl))) (n1 33 g (c0 (ag == 1) (m3 true (.bool (ag == 1)) (cg g) (m1 (.bool (ag == 1)) (cd h (fun q h=>?_) (fun q h=>?_)))))))))))))))
       ·refine n1 41 q (fd 7 abo rfl (n1 41 q (l1 0 (sl m j p) d aa4 (n1 41 q ?_))));obtain ⟨ai,bj,h⟩:=ob h;refine cv ([sl m j p]) ayk ((axW k) bj (hG.mono kr) ac (pt d)) ?_;rintro _ b2 ⟨bk,rfl,aZ⟩;have bm:=ca aZ d;exact n1 41 q (uN ai (m3 true (.bool (!ai)) (cg q) (m2 (.bool (!ai)) (wt (⟨_,bk,(!ai),fR,aZ.sub,(bm.sel []),h⟩)))))
       ·exact o1 41 q (o1 41 q (o1 41 q (o1 41 q (m3 false vN (cg q) (m2 vN (wt (⟨_,K,false,fR,kr,(d.sel []),h⟩)))))))
      ·exact o1 33 g (o1 33 g (o1 33 g (o1 33 g (o1 33 g (o1 33 g (m3 false vN (cg g) (m1 vN (o0 41 (o0 41 (o0 41 (o0 41 (m3 false vN rfl (m2 vN (wt (⟨_,K,false,fR,kr,(d.sel []),h⟩)))))))))))))))
     ·rintro _ b3 ⟨aV,af,aA,rfl,b4,bn,h⟩;unfold ajG at h;refine wp_ret (blkR (aav ?_));cases (oi h).trans hr_;exact aaw rfl (resT rfl) ⟨af,rfl,bn⟩
    ·refine cF az (aax (fun a w=>∃ a1 aG,a=fr 80 (updL a1 [(1,pp (zz wi) 0),(4,iI c),(47,.bool aG)])∧SR K K wi w [] [.box (zz wi) (zz wi) (aS c al am an ao l N G O m j p C t D S A U V B W) 37]∧ajD k F c l j t A B aG=some r_) ?_ ?_)
     ·refine sr (c0 (c == 23) (m2 (.bool (c == 23)) (wt (cd h (fun aH h=>?_) (fun aH h=>?_)))))
      ·exact cT aH (wp_skip (aac (⟨_,(c == 23),fR,d,h⟩)))
      ·refine cF aH (sr (c0 (c == 25) (m2 (.bool (c == 25)) (wt (cd h (fun aI h=>?_) (fun aI h=>?_))))))
       ·exact cT aI (wp_skip (aac (⟨_,(c == 25),fR,d,h⟩)))
       ·exact cF aI (wp_region_lit (c0 (c == 26) (m2 (.bool (c == 26)) (wt (⟨_,(c == 26),fR,d,h⟩)))))
     ·rintro _ b5 ⟨a1,aG,rfl,s,h⟩;unfold ajD at h;refine cd h (fun aJ h=>?_) (fun aJ h=>?_)
      ·refine cT aJ (sr (fd 7 abo rfl (l1 0 (sl m j p) s aa4 ?_)));obtain ⟨bo,bp,h⟩:=ob h;refine cv ([sl m j p]) amT (IH24 bp (hG.mono kr) ac (pt s)) ?_;rintro _ b6 ⟨bq,rfl,br⟩;have bs:=ca br s;refine m2 (.bool bo) (wt (wp_ret (blkR (aav ?_))));cases (oi h).trans hr_;exact aaw rfl (resT rfl) ⟨bq,rfl,(bs.sel [])⟩
      ·refine cF aJ (sr (c0 (c == 24) (m2 (.bool (c == 24)) (wt (cd h (fun aK h=>?_) (fun aK h=>?_))))))
       ·refine cT aK (aax (fun a w=>∃ a2 aj aL,a=fr 80 (updL a2 [(2,.bool aL)])∧KH.sub K aj∧SR K aj wi w [] []∧aja k F aL=some r_) ?_ ?_)
        ·refine wp_region_lit (fd 9 ab6 rfl (l1 0 (sl S A U) s aa4 ?_));obtain ⟨bu,bv,h⟩:=ob h;refine cv ([sl S A U]) amT (IH24 bv (hG.mono kr) a9 (pt s)) ?_;rintro _ b7 ⟨bw,rfl,y⟩;have ak:=ca y s;refine m1 (.bool bu) (cd h (fun e h=>?_) (fun e h=>?_))
         ·exact o1 59 e (o1 59 e (o1 59 e (o1 59 e (ou 63 (ou 63 (ou 63 (ou 63 (ou 63 (ou 68 (ou 68 (ou 68 (ou 63 (o1 59 e (m3 true vT (cg e) (m2 vT (wt (⟨_,bw,true,fR,y.sub,(ak.sel []),h⟩)))))))))))))))))
         ·refine n1 59 e (fd 7 abo rfl (n1 59 e (l1 0 (sl m j p) ak aa4 (n1 59 e ?_))));obtain ⟨bx,bz,h⟩:=ob h;refine cv ([sl m j p]) amT (IH24 bz (hG.mono y.sub) (ms ac y.sub) (pt ak)) ?_;rintro _ b8 ⟨a3,rfl,I⟩;have J:=ca I ak;refine n1 59 e (m1 (.bool bx) (cd h (fun f h=>?_) (fun f h=>?_)))
          ·refine n1 63 f (fd 5 abv rfl (n1 63 f (l1 0 (iI l) J Tya3 (n1 63 f (bbt (r:=(IntKind.i64.wrap (BitVec.ofInt IntKind.i64.bits l &&& BitVec.ofInt IntKind.i64.bits 1).toNat)) rfl rfl rfl (n1 63 f (c0 ((IntKind.i64.wrap (BitVec.ofInt IntKind.i64.bits l &&& BitVec.ofInt IntKind.i64.bits 1).toNat) == 0) (n1 63 f (m1 (.bool ((IntKind.i64.wrap (BitVec.ofInt IntKind.i64.bits l &&& BitVec.ofInt IntKind.i64.bits 1).toNat) == 0)) (cd h (fun z h=>?_) (fun z h=>?_)))))))))))
           ·exact o1 68 z (o1 68 z (o1 68 z (n1 63 f (m3 true vT (cg z) (n1 59 e (m3 true vT (cg f) (m3 false vT (cg e) (m2 vT (wt (⟨_,a3,true,fR,(y.sub.trans I.sub),(J.sel []),h⟩))))))))))
           ·refine n1 68 z (fd 8 abR rfl (n1 68 z (l1 0 (sl C t D) J aa4 (n1 68 z ?_))));obtain ⟨ab,bA,h⟩:=ob h;refine cv ([sl C t D]) amT (IH24 bA (hG.mono (y.sub.trans I.sub)) (ms aN (y.sub.trans I.sub)) (pt J)) ?_;rintro _ b9 ⟨bB,rfl,a4⟩;have bC:=ca a4 J;exact n1 63 f (m3 false (.bool ab) (cg z) (n1 59 e (m3 true (.bool ab) (cg f) (m3 false (.bool ab) (cg e) (m2 (.bool ab) (wt (⟨_,bB,ab,fR,((y.sub.trans I.sub).trans a4.sub),(bC.sel []),h⟩)))))))
          ·exact o1 63 f (o1 63 f (o1 63 f (o1 63 f (o1 63 f (ou 68 (ou 68 (ou 68 (o1 63 f (n1 59 e (m3 false vN (cg f) (m3 false vN (cg e) (m2 vN (wt (⟨_,a3,false,fR,(y.sub.trans I.sub),(J.sel []),h⟩))))))))))))))
        ·rintro _ cb ⟨a2,aj,aL,rfl,cc,bD,h⟩;unfold aja at h;refine wp_ret (blkR (aav ?_));cases (oi h).trans hr_;exact aaw rfl (resT rfl) ⟨aj,rfl,bD⟩
       ·refine cF aK (sr (c0 (c == 27) (m2 (.bool (c == 27)) (wt (cd h (fun aM h=>?_) (fun aM h=>?_))))))
        ·refine cT aM (sr (fd 10 aaN rfl (l1 0 (sl V B W) s acP ?_)));obtain ⟨bE,bF,h⟩:=ob h;refine cv ([sl V B W,.func (.func 65) #[] #[]]) azw (IH1006449 bF (hG.mono kr) ba (pt s)) ?_;rintro _ ce ⟨bG,rfl,bH⟩;have bI:=ca bH s;refine m2 (.bool bE) (wt (wp_ret (blkR (aav ?_))));cases (oi h).trans hr_;exact aaw rfl (resT rfl) ⟨bG,rfl,(bI.sel [])⟩
        ·refine cF aM (wp_skip (blkN (aac (sr (m2 vN (wt (wp_ret ?_)))))));cases (oi h).trans hr_;exact aaw rfl (resT rfl) ⟨K,rfl,(s.sel [])⟩
theorem asT (k:Nat) (F:adk) (IH24:acq F.f24) (IH43:aco F.f43) (IH65:acp F.f65) (IH1004205:aa1 F.f1004205) (IH1006205:aaZ F.f1006205) (IH1006449:aaY F.f1006449) (IH1009382:aa2 F.f1009382) (IH1009447:aa3 F.f1009447) (IH1010882:aa0 F.f1010882):acp (avZ k F):=by
 unfold acp;intro K wi e w x h hG f g;obtain ⟨r_,hr_,h⟩:=rz h;obtain ⟨i,j,l,m,a⟩:=e;obtain ⟨o,p,b,c,rfl,y,z,q⟩:=aaE.open f;refine enter Tryz.func65 rfl (n:=6) rfl ?_;unfold avZ at h;refine sr (bxoC (cs:=(aC' i j l o m p b a c)) g rfl rfl (fun A d=>(m2 vN (wt (sr (fd 4 acH rfl (l1 0 (sl b a c) d aa4 ?_)))))));obtain ⟨r,s,h⟩:=ob h;refine cv ([sl b a c]) amT (IH24 s (hG.mono kr) q (pt d)) ?_;rintro _ B ⟨t,rfl,u⟩;have v:=ca u d;refine m2 (.bool r) (wt (wp_ret ?_));cases (oi h).trans hr_;exact aaw rfl (resT rfl) ⟨t,rfl,(v.sel [])⟩
theorem akc (k:Nat) (F:adk) (IH24:acq F.f24) (IH43:aco F.f43) (IH65:acp F.f65) (IH1004205:aa1 F.f1004205) (IH1006205:aaZ F.f1006205) (IH1006449:aaY F.f1006449) (IH1009382:aa2 F.f1009382) (IH1009447:aa3 F.f1009447) (IH1010882:aa0 F.f1010882):aa1 (ag6 k F):=by
 unfold aa1;intro K wi b c d a h hG f e;obtain ⟨r_,hr_,h⟩:=rz h;refine enter Tryz.func42 rfl (n:=9) rfl ?_;unfold ag6 at h;refine sr (m2 vN (wt (sr (m1 (sl c b d) (m1 (.func (.func 43) #[] #[]) ?_)))));obtain ⟨a,g,h⟩:=ob h;refine cv ([sl c b d,.func (.func 43) #[] #[]]) awr (IH1006205 g (hG.mono kr) f (pt e)) ?_;rintro _ m ⟨i,rfl,j⟩;have l:=ca j e;refine c0 (decide (a ≥ 0)) (m2 (.bool (decide (a ≥ 0))) (wt (wp_ret ?_)));cases (oi h).trans hr_;exact aaw rfl (resT rfl) ⟨i,rfl,l⟩
theorem akC (k:Nat) (F:adk) (IH24:acq F.f24) (IH43:aco F.f43) (IH65:acp F.f65) (IH1004205:aa1 F.f1004205) (IH1006205:aaZ F.f1006205) (IH1006449:aaY F.f1006449) (IH1009382:aa2 F.f1009382) (IH1009447:aa3 F.f1009447) (IH1010882:aa0 F.f1010882):aaZ (ag2 k F):=by
 unfold aaZ;intro K wi d p q an h hG t ah;obtain ⟨r_,hr_,h⟩:=rz h;refine enter Tryz.func62 rfl (n:=19) rfl ?_;unfold ag2 at h;refine sr (m2 (iI 0) (wt (wp_seq (sr (m1 (sl p d q) (lS d.length aa5 (m1 (iI 0) (wt (wp_block (aaz (fun g_ a w=>∃ u g e,∃ (c:Nat),g_=e.length∧a=fr 19 (updL u [(0,sl p d q),(1,.func (.func 43) #[] #[]),(7,iI (d.length:Int)),(8,iI (c:Int))])∧KH.sub K g∧SR K g wi w [] []∧d.drop c=e∧acy k F e c=some r_) d.length ?_ ?_))))))))))
 ·exact ⟨_,K,d,0,rfl,fR,kr,ah,List.drop_zero,h⟩
 ·rintro _ _ ao ⟨u,g,e,c,rfl,rfl,l,m,f,h⟩;rcases e with _ | ⟨⟨x,y,z,A,B,C,D,G,I,J,N⟩,e⟩
  ·unfold acy at h;refine sr (bcm (r:=false) rfl rfl (congrArg some (aaq f)) (wt (wp_seq (cndF rfl (wp_exit (aaA (aaA (blkX (aac (sr (m2 (iI (-1)) (wt (wp_ret ?_)))))))))))));cases (oi h).trans hr_;exact aaw rfl (resT rfl) ⟨g,rfl,m⟩
  ·unfold acy at h;refine sr (bcm (r:=true) rfl rfl (congrArg some (aap f)) (wt (wp_seq (cndT rfl (wp_skip (aac (wp_seq (wp_block (sr (m1 (iI (c:Int)) (m2 (iI (c:Int)) (wt (sr (m1 (.func (.func 43) #[] #[]) (m1 (sl p d q) (m1 (iI (c:Int)) ?_))))))))))))))));obtain ⟨ai,aj,ap,ak,aq,al,O⟩:=((ms t l)).row.at_ (aal f);obtain ⟨S,U,V,W,X,Y,Z,ab,ac,ad,rfl,ar,au,av,aw,ax,ay,az⟩:=aai.open O;refine idxN (b:=ai) (o:=aj) (i:=c) aa5 aaM rfl ak rfl (aab f) (lD (vS x y z A B C S D U V G W X I Y Z J ab ac N ad) abX aaM rfl (fun j v hj=>m.cell (kr.cell (al j v hj))) ?_);obtain ⟨aA,am,h⟩:=ob h;refine cv ([.agg (aS x y z A B C S D U V G W X I Y Z J ab ac N ad)]) ayD (IH43 am (hG.mono l) O (pt m)) ?_;rintro _ aB ⟨ae,rfl,af⟩;have ag:=ca af m;refine wt (cd h (fun s h=>?_) (fun s h=>?_))
   ·refine cT s (sr (m1 (iI (c:Int)) (m2 (iI (c:Int)) (wt (wp_ret (blkR (aav (aav (blkR (aav ?_))))))))));cases (oi h).trans hr_;exact aaw rfl (resT rfl) ⟨ae,rfl,ag⟩
   ·exact cF s (wp_skip (blkN (aac (wp_region_lit (bar (r:=((c + 1:Nat):Int)) rfl rfl (aaO (aaS (((ms t l)).len) (by decide) (aab f))) (m1 (iI ((c + 1:Nat):Int)) (wt (⟨_,Nat.lt_succ_self _,_,ae,e,c + 1,rfl,fR,(l.trans af.sub),ag,aaj f,h⟩))))))))
theorem ajY (k:Nat) (F:adk) (IH24:acq F.f24) (IH43:aco F.f43) (IH65:acp F.f65) (IH1004205:aa1 F.f1004205) (IH1006205:aaZ F.f1006205) (IH1006449:aaY F.f1006449) (IH1009382:aa2 F.f1009382) (IH1009447:aa3 F.f1009447) (IH1010882:aa0 F.f1010882):aaY (ahi k F):=by
 unfold aaY;intro K wi b c d m h hG f a;obtain ⟨r_,hr_,h⟩:=rz h;refine enter Tryz.func64 rfl (n:=9) rfl ?_;unfold ahi at h;refine sr (bxoC (cs:=#[.func (.func 65) #[] #[]]) a rfl rfl (fun o a=>(m2 vN (wt (sr (m1 (sl c b d) (mkf (us:=[]) (vs:=[pp (zz wi) 0]) rfl rfl ?_)))))));obtain ⟨e,g,h⟩:=ob h;refine cv ([sl c b d,.func (.func 94) #[] #[pp (zz wi) 0]]) azm (IH1009382 g (hG.mono kr) f (pt a)) ?_;rintro _ p ⟨i,rfl,j⟩;have l:=ca j a;refine uN e (m2 (.bool (!e)) (wt (wp_ret ?_)));cases (oi h).trans hr_;exact aaw rfl (resT rfl) ⟨i,rfl,(l.sel [])⟩
theorem akX (k:Nat) (F:adk) (IH24:acq F.f24) (IH43:aco F.f43) (IH65:acp F.f65) (IH1004205:aa1 F.f1004205) (IH1006205:aaZ F.f1006205) (IH1006449:aaY F.f1006449) (IH1009382:aa2 F.f1009382) (IH1009447:aa3 F.f1009447) (IH1010882:aa0 F.f1010882):aa2 (ahl k F):=by
 unfold aa2;intro K wi b c d g bs a h hG f e;obtain ⟨r_,hr_,h⟩:=rz h;refine enter Tryz.func93 rfl (n:=9) rfl ?_;unfold ahl at h;refine sr (m2 vN (wt (sr (m1 (sl c b d) (m1 (.func (.func 94) #[] #[pp g 0]) ?_)))));obtain ⟨a,i,h⟩:=ob h;refine cv ([sl c b d,.func (.func 94) #[] #[pp g 0]]) aw1 (IH1010882 i (hG.mono kr) f (pt e)) ?_;rintro _ o ⟨j,rfl,l⟩;have m:=ca l e;refine c0 (decide (a ≥ 0)) (m2 (.bool (decide (a ≥ 0))) (wt (wp_ret ?_)));cases (oi h).trans hr_;exact aaw rfl (resT rfl) ⟨j,rfl,m⟩
theorem ak3 (k:Nat) (F:adk) (IH24:acq F.f24) (IH43:aco F.f43) (IH65:acp F.f65) (IH1004205:aa1 F.f1004205) (IH1006205:aaZ F.f1006205) (IH1006449:aaY F.f1006449) (IH1009382:aa2 F.f1009382) (IH1009447:aa3 F.f1009447) (IH1010882:aa0 F.f1010882):aa3 (agW k F):=by
 unfold aa3;intro K wi p z g bs A h hG q r;obtain ⟨r_,hr_,h⟩:=rz h;obtain ⟨b,c,d,e,f⟩:=p;obtain ⟨i,j,l,m,rfl,s,t,u⟩:=aaE.open q;refine enter Tryz.func94 rfl (n:=8) rfl ?_;unfold agW at h;refine sr (bxoC (cs:=(aC' b c d i e j l f m)) r rfl rfl (fun B a=>(m2 vN (wt (sr (l1 1 (.func (.func 65) #[] #[]) a axG (lN 0 (vC b c d i e j l f m) a aeX abP ?_)))))));obtain ⟨o,v,h⟩:=ob h;refine cv ([.agg (aC' b c d i e j l f m)]) ayu (IH65 v (hG.mono kr) (aaE.intro s t u) (pt a)) ?_;rintro _ C ⟨w,rfl,x⟩;have y:=ca x a;refine uN o (m2 (.bool (!o)) (wt (wp_ret ?_)));cases (oi h).trans hr_;exact aaw rfl (resT rfl) ⟨w,rfl,(y.sel [1])⟩
theorem aks (k:Nat) (F:adk) (IH24:acq F.f24) (IH43:aco F.f43) (IH65:acp F.f65) (IH1004205:aa1 F.f1004205) (IH1006205:aaZ F.f1006205) (IH1006449:aaY F.f1006449) (IH1009382:aa2 F.f1009382) (IH1009447:aa3 F.f1009447) (IH1010882:aa0 F.f1010882):aa0 (ahp k F):=by
 unfold aa0;intro K wi d q s g bs ac h hG u V;obtain ⟨r_,hr_,h⟩:=rz h;refine enter Tryz.func108 rfl (n:=19) rfl ?_;unfold ahp at h;refine sr (m2 (iI 0) (wt (wp_seq (sr (m1 (sl q d s) (lS d.length abH (m1 (iI 0) (wt (wp_block (aaz (fun g_ a w=>∃ x l e,∃ (c:Nat),g_=e.length∧a=fr 19 (updL x [(0,sl q d s),(1,.func (.func 94) #[] #[pp g 0]),(7,iI (d.length:Int)),(8,iI (c:Int))])∧KH.sub K l∧SR K l wi w [.box bs g #[.func (.func 65) #[] #[]] 111] [.box bs g #[.func (.func 65) #[] #[]] 111]∧d.drop c=e∧acu k F e c=some r_) d.length ?_ ?_))))))))))
 ·exact ⟨_,K,d,0,rfl,fR,kr,V,List.drop_zero,h⟩
 ·rintro _ _ ad ⟨x,l,e,c,rfl,rfl,m,p,f,h⟩;rcases e with _ | ⟨⟨y,z,A,B,C⟩,e⟩
  ·unfold acu at h;refine sr (bcm (r:=false) rfl rfl (congrArg some (aaq f)) (wt (wp_seq (cndF rfl (wp_exit (aaA (aaA (blkX (aac (sr (m2 (iI (-1)) (wt (wp_ret ?_)))))))))))));cases (oi h).trans hr_;exact aaw rfl (resT rfl) ⟨l,rfl,p⟩
  ·unfold acu at h;refine sr (bcm (r:=true) rfl rfl (congrArg some (aap f)) (wt (wp_seq (cndT rfl (wp_skip (aac (wp_seq (wp_block (sr (m1 (iI (c:Int)) (m2 (iI (c:Int)) (wt (sr (m1 (.func (.func 94) #[] #[pp g 0]) (m1 (sl q d s) (m1 (iI (c:Int)) ?_))))))))))))))));obtain ⟨W,X,ae,Y,af,Z,D⟩:=((mc u m)).row.at_ (aal f);obtain ⟨G,I,J,N,rfl,ag,ah,ai⟩:=aaE.open D;refine idxN (b:=W) (o:=X) (i:=c) abH abP rfl Y rfl (aab f) (lD (vC y z A G B I J C N) aeX abP rfl (fun j v hj=>p.cell (kr.cell (Z j v hj))) ?_);obtain ⟨aj,ab,h⟩:=ob h;refine clV (caps:=#[pp g 0]) (vs:=[.agg (aC' y z A G B I J C N),pp g 0]) rfl azF rfl (IH1009447 ab (hG.mono m) D (pt p)) ?_;rintro _ ak ⟨O,rfl,S⟩;have U:=ca S p;refine wt (cd h (fun t h=>?_) (fun t h=>?_))
   ·refine cT t (sr (m1 (iI (c:Int)) (m2 (iI (c:Int)) (wt (wp_ret (blkR (aav (aav (blkR (aav ?_))))))))));cases (oi h).trans hr_;exact aaw rfl (resT rfl) ⟨O,rfl,U⟩
   ·exact cF t (wp_skip (blkN (aac (wp_region_lit (bar (r:=((c + 1:Nat):Int)) rfl rfl (aaO (aaS (((mc u m)).len) (by decide) (aab f))) (m1 (iI ((c + 1:Nat):Int)) (wt (⟨_,Nat.lt_succ_self _,_,O,e,c + 1,rfl,fR,(m.trans S.sub),U,aaj f,h⟩))))))))
theorem adz (k0:Nat) : ∀ k,acq (abL k0 k).f24∧aco (abL k0 k).f43∧acp (abL k0 k).f65∧aa1 (abL k0 k).f1004205∧aaZ (abL k0 k).f1006205∧aaY (abL k0 k).f1006449∧aa2 (abL k0 k).f1009382∧aa3 (abL k0 k).f1009447∧aa0 (abL k0 k).f1010882:=by
 intro k;induction k with
 | zero=>exact ⟨(by unfold acq; intro _ _ _ _ _ _ h_; cases h_),(by unfold aco; intro _ _ _ _ _ h_; cases h_),(by unfold acp; intro _ _ _ _ _ h_; cases h_),(by unfold aa1; intro _ _ _ _ _ _ h_; cases h_),(by unfold aaZ; intro _ _ _ _ _ _ h_; cases h_),(by unfold aaY; intro _ _ _ _ _ _ h_; cases h_),(by unfold aa2; intro _ _ _ _ _ _ _ _ h_; cases h_),(by unfold aa3; intro _ _ _ _ _ _ _ h_; cases h_),(by unfold aa0; intro _ _ _ _ _ _ _ _ h_; cases h_)⟩
 | succ k ih=>exact ⟨arB k0 (abL k0 k) ih.1 ih.2.1 ih.2.2.1 ih.2.2.2.1 ih.2.2.2.2.1 ih.2.2.2.2.2.1 ih.2.2.2.2.2.2.1 ih.2.2.2.2.2.2.2.1 ih.2.2.2.2.2.2.2.2,asr k0 (abL k0 k) ih.1 ih.2.1 ih.2.2.1 ih.2.2.2.1 ih.2.2.2.2.1 ih.2.2.2.2.2.1 ih.2.2.2.2.2.2.1 ih.2.2.2.2.2.2.2.1 ih.2.2.2.2.2.2.2.2,asT k0 (abL k0 k) ih.1 ih.2.1 ih.2.2.1 ih.2.2.2.1 ih.2.2.2.2.1 ih.2.2.2.2.2.1 ih.2.2.2.2.2.2.1 ih.2.2.2.2.2.2.2.1 ih.2.2.2.2.2.2.2.2,akc k0 (abL k0 k) ih.1 ih.2.1 ih.2.2.1 ih.2.2.2.1 ih.2.2.2.2.1 ih.2.2.2.2.2.1 ih.2.2.2.2.2.2.1 ih.2.2.2.2.2.2.2.1 ih.2.2.2.2.2.2.2.2,akC k0 (abL k0 k) ih.1 ih.2.1 ih.2.2.1 ih.2.2.2.1 ih.2.2.2.2.1 ih.2.2.2.2.2.1 ih.2.2.2.2.2.2.1 ih.2.2.2.2.2.2.2.1 ih.2.2.2.2.2.2.2.2,ajY k0 (abL k0 k) ih.1 ih.2.1 ih.2.2.1 ih.2.2.2.1 ih.2.2.2.2.1 ih.2.2.2.2.2.1 ih.2.2.2.2.2.2.1 ih.2.2.2.2.2.2.2.1 ih.2.2.2.2.2.2.2.2,akX k0 (abL k0 k) ih.1 ih.2.1 ih.2.2.1 ih.2.2.2.1 ih.2.2.2.2.1 ih.2.2.2.2.2.1 ih.2.2.2.2.2.2.1 ih.2.2.2.2.2.2.2.1 ih.2.2.2.2.2.2.2.2,ak3 k0 (abL k0 k) ih.1 ih.2.1 ih.2.2.1 ih.2.2.2.1 ih.2.2.2.2.1 ih.2.2.2.2.2.1 ih.2.2.2.2.2.2.1 ih.2.2.2.2.2.2.2.1 ih.2.2.2.2.2.2.2.2,aks k0 (abL k0 k) ih.1 ih.2.1 ih.2.2.1 ih.2.2.2.1 ih.2.2.2.2.1 ih.2.2.2.2.2.1 ih.2.2.2.2.2.2.1 ih.2.2.2.2.2.2.2.1 ih.2.2.2.2.2.2.2.2⟩
theorem axg (k:Nat):acq (f24 k):=(adz k k).1
theorem azU (k:Nat):aco (f43 k):=(adz k k).2.1
theorem azR (k:Nat):acp (f65 k):=(adz k k).2.2.1
theorem avk (k:Nat):aa1 (f1004205 k):=(adz k k).2.2.2.1
theorem avN (k:Nat):aaZ (f1006205 k):=(adz k k).2.2.2.2.1
theorem aur (k:Nat):aaY (f1006449 k):=(adz k k).2.2.2.2.2.1
theorem au9 (k:Nat):aa2 (f1009382 k):=(adz k k).2.2.2.2.2.2.1
theorem au8 (k:Nat):aa3 (f1009447 k):=(adz k k).2.2.2.2.2.2.2.1
theorem auK (k:Nat):aa0 (f1010882 k):=(adz k k).2.2.2.2.2.2.2.2
theorem ase (k:Nat):akU (atz k):=by
 unfold akU;intro K wi S au av h hG U V;obtain ⟨r_,hr_,h⟩:=rz h;obtain ⟨W,f,X,Y,Z,ab⟩:=S;obtain ⟨x,y,ac,ad,rfl,aw,C,ax⟩:=aao.open U;refine enter Tryz.func26 rfl (n:=20) rfl ?_;unfold atz at h;refine sr (bxoC (cs:=(aF W x f y X Y Z ac ab ad)) V rfl rfl (fun ay D=>(m2 nS (wt (sr (m2 nS (wt (wp_seq (sr (fd 1 ack rfl (l1 0 (sl x f y) D af9 (lS f.length aeY (m1 (iI 0) (wt (wp_block ?_)))))))))))))));have ae:=D.row_ (zz wi) 3 1;refine aaz (fun g_ a w=>∃ G l,∃ (g:Nat),∃ c m q t,g_=l.length∧a=fr 20 (updL G [(3,sl m c q),(7,sl x f y),(8,iI (f.length:Int)),(9,iI (g:Int))])∧SR K K wi w [] [eW (zz wi) m c q 3 1 t]∧f.drop g=l∧Reps (RInt .i64) 1 c t∧c.length * 8 ≤ mB∧ahr k l g c=some r_) f.length ?_ ?_
 ·exact ⟨_,f,0,([]:List Int),none,0,[],rfl,fR,(ae.sel [0]),List.drop_zero,(aa6 (R:=(RInt .i64)) (size:=1)),(by simp),h⟩
 ·rintro _ _ af ⟨G,l,g,c,m,q,t,rfl,rfl,z,s,I,ag,h⟩;rcases l with _ | ⟨⟨u,d⟩,l⟩
  ·unfold ahr at h;refine sr (bcm (r:=false) rfl rfl (congrArg some (aaq s)) (wt (wp_seq (cndF rfl (wp_exit (aaA (aaA (blkX (aac (sr (m1 (sl m c q) (m2 (sl m c q) (wt (wp_ret ?_))))))))))))));cases (oi h).trans hr_;exact aaw rfl (resT rfl) ⟨K,m,q,t,rfl,z,I,ag⟩
  ·unfold ahr at h;refine sr (bcm (r:=true) rfl rfl (congrArg some (aap s)) (wt (wp_seq (cndT rfl (wp_skip (aac (wp_seq (wp_block (sr ?_)))))))));obtain ⟨ah,ai,az,aj,aA,ak,al⟩:=(C).row.at_ (aal s);obtain ⟨rfl,aB⟩:=aaQ.open al;refine idxN (b:=ah) (o:=ai) (i:=g) aeY ahS rfl aj rfl (aab s) (lD ([.string u,iI d]) avi ahS rfl (fun j v hj=>z.cell (kr.cell (ak j v hj))) (aC #[sE,iI 0] z au7 (fun aG am=>(sI 0 (.agg #[.string u,iI d]) #[.string u,iI d] am ahS rfl rfl (fun aH J=>(wt (wp_region_lit (m1 (sl m c q) (fd 1 akE rfl (l1 0 (iI d) J Tya3 (bsl (e:=3) (cells:=#[iI d]) (vs:=[(0,iI d)]) J rfl (aam abT Tys3 Tyz3 rfl (by decide) (by decide) rfl) (fun aI an=>?_))))))))))));obtain ⟨N,h⟩:=aaC h;refine apR (R:=(RInt .i64)) (p:=d) (i:=2) (j:=0) an rfl rfl abT Tyi3 rfl (by decide) rfl rfl I rfl rfl rfl (Nat.le_refl _) N (by decide) (fun A B O ao ap aq=>?_);have ar:=p12 ap;exact m2 (.slice A (c ++ [d]).length B) (wpList_nil (blkN (aac (wp_region_lit (bar (r:=((g + 1:Nat):Int)) rfl rfl (aaO (aaS ((C).len) (by decide) (aab s))) (m1 (iI ((g + 1:Nat):Int)) (wt (⟨_,Nat.lt_succ_self _,_,l,g + 1,(c ++ [d]),A,B,O,rfl,fR,(ar.sel [1]),aaj s,aq,(aaL N),h⟩))))))))
theorem ajV (k:Nat):akU (f26 k):=ase k
theorem asu (k:Nat):ah6 (avr k):=by
 unfold ah6;intro K wi c a r_ h hG d;refine enter Tryz.func77 rfl (n:=9) rfl ?_;unfold avr at h;refine sr (m1 (.bool c) (uN c (wt (cd h (fun b h=>?_) (fun b h=>?_)))))
 ·exact cT b (wp_region_lit (m1 (iI a) (bld (cells:=#[iI a]) (vs:=[(0,iI a)]) rfl (fun w=>by kernel_rfl) (mki (v:=.agg #[iI a]) ayj rfl (pnc rfl (panE (.inr ⟨_,rfl,a,K,(oi h).symm,rfl,d.sel []⟩)))))))
 ·exact cF b (wp_skip (retP (end0 rfl ⟨K,(oi h).symm,rfl,d⟩)))
theorem adN (k:Nat):ah6 (f77 k):=asu k
theorem aqp (k:Nat):ai6 (apC k):=by
 unfold ai6;intro K wi bm h hG a;obtain ⟨r_,hr_,h⟩:=rz h;refine enter Tryz.func148 rfl (n:=32) rfl ?_;unfold apC at h;refine sr (m2 (.map none) (wt (sr (mkm a (fun bn a=>(bld (cells:=#[iI 1,vN,iI 1,iI 1,vN]) (vs:=[(0,iI 1),(1,vN),(2,iI 1),(3,iI 1),(4,vN)]) rfl (fun w=>by kernel_rfl) (mup_ (kv:=kI) (q:=qI) (R:=(VAgg (aaI K))) (xs:=([]:List (Int × aaH))) (k:=1) (u:=(aaH.mk 1 false 1 1 false)) (uv:=.agg #[iI 1,vN,iI 1,iI 1,vN]) (i:=0) (.inl rfl) a rfl abx (aay Tyk3) keI (aln (kv:=kI) (R:=(VAgg (aaI K)))) rfl rfl rfl ⟨[iI 1,vN,iI 1,iI 1,vN],rfl,.mk⟩ (fun bo bp bq b c=>(bld (cells:=#[iI 1,vN,iI 1,iI 1,vN]) (vs:=[(0,iI 1),(1,vN),(2,iI 1),(3,iI 1),(4,vN)]) rfl (fun w=>by kernel_rfl) (mup_ (kv:=kI) (q:=qI) (R:=(VAgg (aaI K))) (k:=2) (u:=(aaH.mk 1 false 1 1 false)) (uv:=.agg #[iI 1,vN,iI 1,iI 1,vN]) (i:=0) (.inl rfl) b rfl abx (aay Tyk3) keI c rfl rfl rfl ⟨[iI 1,vN,iI 1,iI 1,vN],rfl,.mk⟩ (fun br bs bu d e=>(bld (cells:=#[iI 2,vT,iI 0,iI 601,vN]) (vs:=[(0,iI 2),(1,vT),(2,iI 0),(3,iI 601),(4,vN)]) rfl (fun w=>by kernel_rfl) (mup_ (kv:=kI) (q:=qI) (R:=(VAgg (aaI K))) (k:=3) (u:=(aaH.mk 2 true 0 601 false)) (uv:=.agg #[iI 2,vT,iI 0,iI 601,vN]) (i:=0) (.inl rfl) d rfl abx (aay Tyk3) keI e rfl rfl rfl ⟨[iI 2,vT,iI 0,iI 601,vN],rfl,.mk⟩ (fun f g j l m=>?_))))))))))))));have o:SR K K wi j [] [.mp (zz wi) (zz wi) f g]:=l;refine bld (cells:=#[iI 2,vT,iI 0,iI 601,vN]) (vs:=[(0,iI 2),(1,vT),(2,iI 0),(3,iI 601),(4,vN)]) rfl (fun w=>by kernel_rfl) (mup_ (kv:=kI) (q:=qI) (R:=(VAgg (aaI K))) (k:=4) (u:=(aaH.mk 2 true 0 601 false)) (uv:=.agg #[iI 2,vT,iI 0,iI 601,vN]) (i:=0) (.inl rfl) o rfl abx (aay Tyk3) keI m rfl rfl rfl ⟨[iI 2,vT,iI 0,iI 601,vN],rfl,.mk⟩ (fun bv bw bx p r=>(bld (cells:=#[iI 2,vN,iI 1,iI 1,vN]) (vs:=[(0,iI 2),(1,vN),(2,iI 1),(3,iI 1),(4,vN)]) rfl (fun w=>by kernel_rfl) (mup_ (kv:=kI) (q:=qI) (R:=(VAgg (aaI K))) (k:=5) (u:=(aaH.mk 2 false 1 1 false)) (uv:=.agg #[iI 2,vN,iI 1,iI 1,vN]) (i:=0) (.inl rfl) p rfl abx (aay Tyk3) keI r rfl rfl rfl ⟨[iI 2,vN,iI 1,iI 1,vN],rfl,.mk⟩ (fun bz bA bB s t=>(bld (cells:=#[iI 2,vN,iI 1,iI 1,vN]) (vs:=[(0,iI 2),(1,vN),(2,iI 1),(3,iI 1),(4,vN)]) rfl (fun w=>by kernel_rfl) (mup_ (kv:=kI) (q:=qI) (R:=(VAgg (aaI K))) (k:=6) (u:=(aaH.mk 2 false 1 1 false)) (uv:=.agg #[iI 2,vN,iI 1,iI 1,vN]) (i:=0) (.inl rfl) s rfl abx (aay Tyk3) keI t rfl rfl rfl ⟨[iI 2,vN,iI 1,iI 1,vN],rfl,.mk⟩ (fun v x y z A=>?_))))))));have B:SR K K wi y [] [.mp (zz wi) (zz wi) v x]:=z;refine bld (cells:=#[iI 1,vN,iI 1,iI 1,vN]) (vs:=[(0,iI 1),(1,vN),(2,iI 1),(3,iI 1),(4,vN)]) rfl (fun w=>by kernel_rfl) (mup_ (kv:=kI) (q:=qI) (R:=(VAgg (aaI K))) (k:=7) (u:=(aaH.mk 1 false 1 1 false)) (uv:=.agg #[iI 1,vN,iI 1,iI 1,vN]) (i:=0) (.inl rfl) B rfl abx (aay Tyk3) keI A rfl rfl rfl ⟨[iI 1,vN,iI 1,iI 1,vN],rfl,.mk⟩ (fun bC bD bE C D=>(bld (cells:=#[iI 1,vN,iI 1,iI 1,vN]) (vs:=[(0,iI 1),(1,vN),(2,iI 1),(3,iI 1),(4,vN)]) rfl (fun w=>by kernel_rfl) (mup_ (kv:=kI) (q:=qI) (R:=(VAgg (aaI K))) (k:=8) (u:=(aaH.mk 1 false 1 1 false)) (uv:=.agg #[iI 1,vN,iI 1,iI 1,vN]) (i:=0) (.inl rfl) C rfl abx (aay Tyk3) keI D rfl rfl rfl ⟨[iI 1,vN,iI 1,iI 1,vN],rfl,.mk⟩ (fun bF bG bH G I=>(bld (cells:=#[iI 1,vN,iI 0,iI 0,vN]) (vs:=[(0,iI 1),(1,vN),(2,iI 0),(3,iI 0),(4,vN)]) rfl (fun w=>by kernel_rfl) (mup_ (kv:=kI) (q:=qI) (R:=(VAgg (aaI K))) (k:=9) (u:=(aaH.mk 1 false 0 0 false)) (uv:=.agg #[iI 1,vN,iI 0,iI 0,vN]) (i:=0) (.inl rfl) G rfl abx (aay Tyk3) keI I rfl rfl rfl ⟨[iI 1,vN,iI 0,iI 0,vN],rfl,.mk⟩ (fun J N O S U=>?_))))))));have V:SR K K wi O [] [.mp (zz wi) (zz wi) J N]:=S;refine bld (cells:=#[iI 0,vN,iI 2,iI 2,vN]) (vs:=[(0,iI 0),(1,vN),(2,iI 2),(3,iI 2),(4,vN)]) rfl (fun w=>by kernel_rfl) (mup_ (kv:=kI) (q:=qI) (R:=(VAgg (aaI K))) (k:=10) (u:=(aaH.mk 0 false 2 2 false)) (uv:=.agg #[iI 0,vN,iI 2,iI 2,vN]) (i:=0) (.inl rfl) V rfl abx (aay Tyk3) keI U rfl rfl rfl ⟨[iI 0,vN,iI 2,iI 2,vN],rfl,.mk⟩ (fun bI bJ bK W X=>(bld (cells:=#[iI 0,vN,iI 1,iI 1,vN]) (vs:=[(0,iI 0),(1,vN),(2,iI 1),(3,iI 1),(4,vN)]) rfl (fun w=>by kernel_rfl) (mup_ (kv:=kI) (q:=qI) (R:=(VAgg (aaI K))) (k:=11) (u:=(aaH.mk 0 false 1 1 false)) (uv:=.agg #[iI 0,vN,iI 1,iI 1,vN]) (i:=0) (.inl rfl) W rfl abx (aay Tyk3) keI X rfl rfl rfl ⟨[iI 0,vN,iI 1,iI 1,vN],rfl,.mk⟩ (fun bL bM bN Y Z=>(bld (cells:=#[iI 0,vN,iI 1,iI 1,vN]) (vs:=[(0,iI 0),(1,vN),(2,iI 1),(3,iI 1),(4,vN)]) rfl (fun w=>by kernel_rfl) (mup_ (kv:=kI) (q:=qI) (R:=(VAgg (aaI K))) (k:=12) (u:=(aaH.mk 0 false 1 1 false)) (uv:=.agg #[iI 0,vN,iI 1,iI 1,vN]) (i:=0) (.inl rfl) Y rfl abx (aay Tyk3) keI Z rfl rfl rfl ⟨[iI 0,vN,iI 1,iI 1,vN],rfl,.mk⟩ (fun ab ac ad ae af=>?_))))))));have ag:SR K K wi ad [] [.mp (zz wi) (zz wi) ab ac]:=ae;refine bld (cells:=#[iI 0,vN,iI 0,iI 0,vN]) (vs:=[]) rfl (fun w=>by kernel_rfl) (mup_ (kv:=kI) (q:=qI) (R:=(VAgg (aaI K))) (k:=13) (u:=(aaH.mk 0 false 0 0 false)) (uv:=.agg #[iI 0,vN,iI 0,iI 0,vN]) (i:=0) (.inl rfl) ag rfl abx (aay Tyk3) keI af rfl rfl rfl ⟨[iI 0,vN,iI 0,iI 0,vN],rfl,.mk⟩ (fun bO bP bQ ah ai=>(bld (cells:=#[iI 0,vN,iI 1,iI 1,vN]) (vs:=[(0,iI 0),(1,vN),(2,iI 1),(3,iI 1),(4,vN)]) rfl (fun w=>by kernel_rfl) (mup_ (kv:=kI) (q:=qI) (R:=(VAgg (aaI K))) (k:=14) (u:=(aaH.mk 0 false 1 1 false)) (uv:=.agg #[iI 0,vN,iI 1,iI 1,vN]) (i:=0) (.inl rfl) ah rfl abx (aay Tyk3) keI ai rfl rfl rfl ⟨[iI 0,vN,iI 1,iI 1,vN],rfl,.mk⟩ (fun bR bS bT aj ak=>(bld (cells:=#[iI 0,vN,iI 1,iI 1,vN]) (vs:=[(0,iI 0),(1,vN),(2,iI 1),(3,iI 1),(4,vN)]) rfl (fun w=>by kernel_rfl) (mup_ (kv:=kI) (q:=qI) (R:=(VAgg (aaI K))) (k:=15) (u:=(aaH.mk 0 false 1 1 false)) (uv:=.agg #[iI 0,vN,iI 1,iI 1,vN]) (i:=0) (.inl rfl) aj rfl abx (aay Tyk3) keI ak rfl rfl rfl ⟨[iI 0,vN,iI 1,iI 1,vN],rfl,.mk⟩ (fun al am an ao ap=>?_))))))));have aq:SR K K wi an [] [.mp (zz wi) (zz wi) al am]:=ao;refine bld (cells:=#[iI 0,vN,iI 1,iI 1,vN]) (vs:=[(0,iI 0),(1,vN),(2,iI 1),(3,iI 1),(4,vN)]) rfl (fun w=>by kernel_rfl) (mup_ (kv:=kI) (q:=qI) (R:=(VAgg (aaI K))) (k:=16) (u:=(aaH.mk 0 false 1 1 false)) (uv:=.agg #[iI 0,vN,iI 1,iI 1,vN]) (i:=0) (.inl rfl) aq rfl abx (aay Tyk3) keI ap rfl rfl rfl ⟨[iI 0,vN,iI 1,iI 1,vN],rfl,.mk⟩ (fun bU bV bW ar au=>(bld (cells:=#[iI 0,vN,iI 0,iI 1,vN]) (vs:=[(0,iI 0),(1,vN),(2,iI 0),(3,iI 1),(4,vN)]) rfl (fun w=>by kernel_rfl) (mup_ (kv:=kI) (q:=qI) (R:=(VAgg (aaI K))) (k:=17) (u:=(aaH.mk 0 false 0 1 false)) (uv:=.agg #[iI 0,vN,iI 0,iI 1,vN]) (i:=0) (.inl rfl) ar rfl abx (aay Tyk3) keI au rfl rfl rfl ⟨[iI 0,vN,iI 0,iI 1,vN],rfl,.mk⟩ (fun bX bY bZ av aw=>(bld (cells:=#[iI 0,vN,iI 0,iI 0,vN]) (vs:=[]) rfl (fun w=>by kernel_rfl) (mup_ (kv:=kI) (q:=qI) (R:=(VAgg (aaI K))) (k:=18) (u:=(aaH.mk 0 false 0 0 false)) (uv:=.agg #[iI 0,vN,iI 0,iI 0,vN]) (i:=0) (.inl rfl) av rfl abx (aay Tyk3) keI aw rfl rfl rfl ⟨[iI 0,vN,iI 0,iI 0,vN],rfl,.mk⟩ (fun ax ay az aA aB=>?_))))))));have aG:SR K K wi az [] [.mp (zz wi) (zz wi) ax ay]:=aA;refine bld (cells:=#[iI 0,vN,iI 0,iI 0,vN]) (vs:=[]) rfl (fun w=>by kernel_rfl) (mup_ (kv:=kI) (q:=qI) (R:=(VAgg (aaI K))) (k:=19) (u:=(aaH.mk 0 false 0 0 false)) (uv:=.agg #[iI 0,vN,iI 0,iI 0,vN]) (i:=0) (.inl rfl) aG rfl abx (aay Tyk3) keI aB rfl rfl rfl ⟨[iI 0,vN,iI 0,iI 0,vN],rfl,.mk⟩ (fun b0 b1 b2 aH aI=>(bld (cells:=#[iI 0,vN,iI 1,iI 1,vT]) (vs:=[(0,iI 0),(1,vN),(2,iI 1),(3,iI 1),(4,vT)]) rfl (fun w=>by kernel_rfl) (mup_ (kv:=kI) (q:=qI) (R:=(VAgg (aaI K))) (k:=20) (u:=(aaH.mk 0 false 1 1 true)) (uv:=.agg #[iI 0,vN,iI 1,iI 1,vT]) (i:=0) (.inl rfl) aH rfl abx (aay Tyk3) keI aI rfl rfl rfl ⟨[iI 0,vN,iI 1,iI 1,vT],rfl,.mk⟩ (fun b3 b4 b5 aJ aK=>(bld (cells:=#[iI 0,vN,iI 1,iI 1,vT]) (vs:=[(0,iI 0),(1,vN),(2,iI 1),(3,iI 1),(4,vT)]) rfl (fun w=>by kernel_rfl) (mup_ (kv:=kI) (q:=qI) (R:=(VAgg (aaI K))) (k:=21) (u:=(aaH.mk 0 false 1 1 true)) (uv:=.agg #[iI 0,vN,iI 1,iI 1,vT]) (i:=0) (.inl rfl) aJ rfl abx (aay Tyk3) keI aK rfl rfl rfl ⟨[iI 0,vN,iI 1,iI 1,vT],rfl,.mk⟩ (fun aL aM aN aP aQ=>?_))))))));have aT:SR K K wi aN [] [.mp (zz wi) (zz wi) aL aM]:=aP;refine bld (cells:=#[iI 0,vN,iI 0,iI 1,vT]) (vs:=[(0,iI 0),(1,vN),(2,iI 0),(3,iI 1),(4,vT)]) rfl (fun w=>by kernel_rfl) (mup_ (kv:=kI) (q:=qI) (R:=(VAgg (aaI K))) (k:=22) (u:=(aaH.mk 0 false 0 1 true)) (uv:=.agg #[iI 0,vN,iI 0,iI 1,vT]) (i:=0) (.inl rfl) aT rfl abx (aay Tyk3) keI aQ rfl rfl rfl ⟨[iI 0,vN,iI 0,iI 1,vT],rfl,.mk⟩ (fun b6 b7 b8 aU aV=>(bld (cells:=#[iI 0,vN,iI 0,iI 0,vT]) (vs:=[(0,iI 0),(1,vN),(2,iI 0),(3,iI 0),(4,vT)]) rfl (fun w=>by kernel_rfl) (mup_ (kv:=kI) (q:=qI) (R:=(VAgg (aaI K))) (k:=23) (u:=(aaH.mk 0 false 0 0 true)) (uv:=.agg #[iI 0,vN,iI 0,iI 0,vT]) (i:=0) (.inl rfl) aU rfl abx (aay Tyk3) keI aV rfl rfl rfl ⟨[iI 0,vN,iI 0,iI 0,vT],rfl,.mk⟩ (fun b9 cb cc aW aX=>(bld (cells:=#[iI 2,vN,iI 0,iI 0,vT]) (vs:=[(0,iI 2),(1,vN),(2,iI 0),(3,iI 0),(4,vT)]) rfl (fun w=>by kernel_rfl) (mup_ (kv:=kI) (q:=qI) (R:=(VAgg (aaI K))) (k:=24) (u:=(aaH.mk 2 false 0 0 true)) (uv:=.agg #[iI 2,vN,iI 0,iI 0,vT]) (i:=0) (.inl rfl) aW rfl abx (aay Tyk3) keI aX rfl rfl rfl ⟨[iI 2,vN,iI 0,iI 0,vT],rfl,.mk⟩ (fun aY aZ a0 a1 a2=>?_))))))));have a3:SR K K wi a0 [] [.mp (zz wi) (zz wi) aY aZ]:=a1;refine bld (cells:=#[iI 1,vN,iI 1,iI 1,vT]) (vs:=[(0,iI 1),(1,vN),(2,iI 1),(3,iI 1),(4,vT)]) rfl (fun w=>by kernel_rfl) (mup_ (kv:=kI) (q:=qI) (R:=(VAgg (aaI K))) (k:=25) (u:=(aaH.mk 1 false 1 1 true)) (uv:=.agg #[iI 1,vN,iI 1,iI 1,vT]) (i:=0) (.inl rfl) a3 rfl abx (aay Tyk3) keI a2 rfl rfl rfl ⟨[iI 1,vN,iI 1,iI 1,vT],rfl,.mk⟩ (fun ce cf ch a4 a5=>(bld (cells:=#[iI 0,vN,iI 1,iI 1,vT]) (vs:=[(0,iI 0),(1,vN),(2,iI 1),(3,iI 1),(4,vT)]) rfl (fun w=>by kernel_rfl) (mup_ (kv:=kI) (q:=qI) (R:=(VAgg (aaI K))) (k:=26) (u:=(aaH.mk 0 false 1 1 true)) (uv:=.agg #[iI 0,vN,iI 1,iI 1,vT]) (i:=0) (.inl rfl) a4 rfl abx (aay Tyk3) keI a5 rfl rfl rfl ⟨[iI 0,vN,iI 1,iI 1,vT],rfl,.mk⟩ (fun ci cj ck a6 a7=>(bld (cells:=#[iI 0,vN,iI 0,iI 0,vN]) (vs:=[]) rfl (fun w=>by kernel_rfl) (mup_ (kv:=kI) (q:=qI) (R:=(VAgg (aaI K))) (k:=27) (u:=(aaH.mk 0 false 0 0 false)) (uv:=.agg #[iI 0,vN,iI 0,iI 0,vN]) (i:=0) (.inl rfl) a6 rfl abx (aay Tyk3) keI a7 rfl rfl rfl ⟨[iI 0,vN,iI 0,iI 0,vN],rfl,.mk⟩ (fun a8 a9 ba bb bd=>?_))))))));have be:SR K K wi ba [] [.mp (zz wi) (zz wi) a8 a9]:=bb;refine bld (cells:=#[iI 1,vT,iI 0,iI 601,vT]) (vs:=[(0,iI 1),(1,vT),(2,iI 0),(3,iI 601),(4,vT)]) rfl (fun w=>by kernel_rfl) (mup_ (kv:=kI) (q:=qI) (R:=(VAgg (aaI K))) (k:=28) (u:=(aaH.mk 1 true 0 601 true)) (uv:=.agg #[iI 1,vT,iI 0,iI 601,vT]) (i:=0) (.inl rfl) be rfl abx (aay Tyk3) keI bd rfl rfl rfl ⟨[iI 1,vT,iI 0,iI 601,vT],rfl,.mk⟩ (fun cl cm cn bf bg=>(bld (cells:=#[iI 0,vN,iI 1,iI 1,vN]) (vs:=[(0,iI 0),(1,vN),(2,iI 1),(3,iI 1),(4,vN)]) rfl (fun w=>by kernel_rfl) (mup_ (kv:=kI) (q:=qI) (R:=(VAgg (aaI K))) (k:=29) (u:=(aaH.mk 0 false 1 1 false)) (uv:=.agg #[iI 0,vN,iI 1,iI 1,vN]) (i:=0) (.inl rfl) bf rfl abx (aay Tyk3) keI bg rfl rfl rfl ⟨[iI 0,vN,iI 1,iI 1,vN],rfl,.mk⟩ (fun bh bi co bj bk=>(m1 (.map (some (zz wi))) (m2 (.map (some (zz wi))) (wt (wp_ret ?_)))))))));cases (oi h).trans hr_;exact aaw rfl (resT rfl) ⟨K,(zz wi),bh,bi,rfl,bj,bk⟩
theorem apq (k:Nat):ai6 (f148 k):=aqp k
theorem asG (k:Nat):akM (asU k):=by
 unfold akM;intro K wi c e d l h hG g;obtain ⟨r_,hr_,h⟩:=rz h;refine enter Tryz.func69 rfl (n:=15) rfl ?_;unfold asU at h;refine sr (m2 vN (wt (aax (fun a w=>∃ i f,a=fr 15 (updL i [(6,.bool f)])∧SR K K wi w [] []∧amU k f=some r_) ?_ ?_)))
 ·refine wp_region_lit (m1 (iI c) (m1 (iI e) (c0 (decide (c ≥ e)) (m1 (.bool (decide (c ≥ e))) (cd h (fun b h=>?_) (fun b h=>?_))))))
  ·exact n1 10 b (m1 (iI c) (n1 10 b (m1 (iI d) (n1 10 b (c0 (decide (c ≤ d)) (m3 true (.bool (decide (c ≤ d))) (cg b) (m2 (.bool (decide (c ≤ d))) (wt (⟨_,(decide (c ≤ d)),fR,g,h⟩)))))))))
  ·exact o1 10 b (o1 10 b (o1 10 b (m3 false vN (cg b) (m2 vN (wt (⟨_,false,fR,g,h⟩))))))
 ·rintro _ m ⟨i,f,rfl,j,h⟩;unfold amU at h;refine wp_ret ?_;cases (oi h).trans hr_;exact aaw rfl (resT rfl) ⟨K,rfl,j⟩
theorem acV (k:Nat):akM (f69 k):=asG k
theorem apv (k:Nat):ail (aoq k):=by
 unfold ail;intro K wi aK a7 a8 h hG aL aM;obtain ⟨r_,hr_,h⟩:=rz h;obtain ⟨f,g,S,U,V,b,W,X,j,d,Y⟩:=aK;obtain ⟨Z,ab,ac,ad,D,G,x,y,ae,af,rfl,a9,ba,bb,bd,be,bf,bg⟩:=aai.open aL;refine enter Tryz.func149 rfl (n:=97) rfl ?_;unfold aoq at h;refine sr (bxoC (cs:=(aS f g S U V b Z W ab ac X ad D j G x d y ae Y af)) aM rfl rfl (fun bh c=>(m2 vN (wt (sr (m2 vN (m2 vN (wt (sr (fd 5 abv rfl (l1 0 (iI b) c Tya3 (c0 (b == 0) (m2 (.bool (b == 0)) (wt (aax (fun a w=>∃ au z A v B,a=fr 97 (updL au [(1,pp (zz wi) 0),(3,.bool A),(4,.bool v),(5,.bool B)])∧KH.sub K z∧SR K z wi w [] [.box (zz wi) (zz wi) (aS f g S U V b Z W ab ac X ad D j G x d y ae Y af) 37]∧adg k j d A v B=some r_) ?_ ?_)))))))))))))))
 ·refine sr (fd 0 abk rfl (l1 0 (iI f) c Tya3 (wt (wp_block (sr (c0 (f == 6) (m2 (.bool (f == 6)) (wt (cd h (fun ag h=>?_) (fun ag h=>?_))))))))))
  ·refine cT ag (wp_region_lit (fd 5 abv rfl (l1 0 (iI b) c Tya3 ?_)));obtain ⟨aN,aP,h⟩:=ob h;refine cv ([iI b,iI 0,iI 1]) aet ((acV k) aP (hG.mono kr) (pt c)) ?_;rintro _ bi ⟨ah,rfl,I⟩;have C:=ca I c;refine m1 (.bool aN) (cd h (fun i h=>?_) (fun i h=>?_))
   ·refine n1 16 i (fd 5 abv rfl (n1 16 i (l1 0 (iI b) C Tya3 (n1 16 i (c0 (b == 0) (n1 16 i (m1 (.bool (b == 0)) (cd h (fun t h=>?_) (fun t h=>?_)))))))))
    ·exact o1 20 t (o1 20 t (o1 20 t (n1 16 i (m3 true vT (cg t) (m3 true vT (cg i) (m2 vT (wpList_nil (blkN (aac (⟨_,ah,false,false,true,fR,I.sub,C,h⟩))))))))))
    ·exact n1 20 t (fd 1 abA rfl (n1 20 t (l1 0 (.string g) C Tya9 (n1 20 t (bsc (r:=(!seq g ⟨#[]⟩)) rfl rfl rfl (n1 16 i (m3 false (.bool (!seq g ⟨#[]⟩)) (cg t) (m3 true (.bool (!seq g ⟨#[]⟩)) (cg i) (m2 (.bool (!seq g ⟨#[]⟩)) (wpList_nil (blkN (aac (⟨_,ah,false,false,(!seq g ⟨#[]⟩),fR,I.sub,C,h⟩)))))))))))))
   ·exact o1 16 i (o1 16 i (o1 16 i (o1 16 i (ou 20 (ou 20 (ou 20 (o1 16 i (m3 false vN (cg i) (m2 vN (wpList_nil (blkN (aac (⟨_,ah,false,false,false,fR,I.sub,C,h⟩)))))))))))))
  ·refine cF ag (sr (c0 (f == 7) (m2 (.bool (f == 7)) (wt (cd h (fun ai h=>?_) (fun ai h=>?_))))))
   ·refine cT ai (wp_region_lit (fd 5 abv rfl (l1 0 (iI b) c Tya3 ?_)));obtain ⟨av,aQ,h⟩:=ob h;refine cv ([iI b,iI 0,iI 2]) aet ((acV k) aQ (hG.mono kr) (pt c)) ?_;rintro _ bj ⟨aT,rfl,aw⟩;have aU:=ca aw c;exact m2 (.bool av) (wpList_nil (blkN (aac (⟨_,aT,false,false,av,fR,aw.sub,aU,h⟩))))
   ·refine cF ai (sr (c0 (f == 22) (m2 (.bool (f == 22)) (wt (cd h (fun aj h=>?_) (fun aj h=>?_))))))
    ·refine cT aj (wp_region_lit (fd 5 abv rfl (l1 0 (iI b) c Tya3 ?_)));obtain ⟨ax,aV,h⟩:=ob h;refine cv ([iI b,iI 0,iI 1]) aet ((acV k) aV (hG.mono kr) (pt c)) ?_;rintro _ bk ⟨aW,rfl,ay⟩;have aX:=ca ay c;exact m2 (.bool ax) (wpList_nil (blkN (aac (⟨_,aW,false,false,ax,fR,ay.sub,aX,h⟩))))
    ·refine cF aj (sr (c0 (f == 20) (m2 (.bool (f == 20)) (wt (cd h (fun ak h=>?_) (fun ak h=>?_))))))
     ·refine cT ak (sr (fd 5 abv rfl (l1 0 (iI b) c Tya3 ?_)));obtain ⟨az,aY,h⟩:=ob h;refine cv ([iI b,iI 0,iI 1]) aet ((acV k) aY (hG.mono kr) (pt c)) ?_;rintro _ bm ⟨aZ,rfl,aA⟩;have aB:=ca aA c;exact m2 (.bool az) (wt (wp_region_lit (fd 5 abv rfl (l1 0 (iI b) aB Tya3 (c0 (b == 1) (m2 (.bool (b == 1)) (wpList_nil (blkN (aac (⟨_,aZ,(b == 1),false,az,fR,aA.sub,aB,h⟩))))))))))
     ·refine cF ak (sr (c0 (f == 24) (m2 (.bool (f == 24)) (wt (cd h (fun al h=>?_) (fun al h=>?_))))))
      ·refine cT al (aax (fun a w=>∃ aG J N,a=fr 97 (updL aG [(1,pp (zz wi) 0),(5,.bool N)])∧KH.sub K J∧SR K J wi w [] [.box (zz wi) (zz wi) (aS f g S U V b Z W ab ac X ad D j G x d y ae Y af) 37]∧aiC k b j d N=some r_) ?_ ?_)
       ·refine wp_region_lit (fd 5 abv rfl (l1 0 (iI b) c Tya3 ?_));obtain ⟨a1,a2,h⟩:=ob h;refine cv ([iI b,iI 1,iI 3]) aet ((acV k) a2 (hG.mono kr) (pt c)) ?_;rintro _ bn ⟨aH,rfl,am⟩;have O:=ca am c;refine m1 (.bool a1) (cd h (fun e h=>?_) (fun e h=>?_))
        ·exact n1 49 e (fd 1 abA rfl (n1 49 e (l1 0 (.string g) O Tya9 (n1 49 e (bsc (r:=(!seq g ⟨#[]⟩)) rfl rfl rfl (n1 49 e (fd 5 abv rfl (n1 49 e (l1 0 (iI b) O Tya3 (n1 49 e (bbt (r:=(IntKind.i64.wrap (BitVec.ofInt IntKind.i64.bits b &&& BitVec.ofInt IntKind.i64.bits 1).toNat)) rfl rfl rfl (n1 49 e (c0 ((IntKind.i64.wrap (BitVec.ofInt IntKind.i64.bits b &&& BitVec.ofInt IntKind.i64.bits 1).toNat) == 1) (n1 49 e (bbo (r:=((!seq g ⟨#[]⟩) == ((IntKind.i64.wrap (BitVec.ofInt IntKind.i64.bits b &&& BitVec.ofInt IntKind.i64.bits 1).toNat) == 1))) Tyo4 rfl rfl rfl (m3 true (.bool ((!seq g ⟨#[]⟩) == ((IntKind.i64.wrap (BitVec.ofInt IntKind.i64.bits b &&& BitVec.ofInt IntKind.i64.bits 1).toNat) == 1))) (cg e) (m2 (.bool ((!seq g ⟨#[]⟩) == ((IntKind.i64.wrap (BitVec.ofInt IntKind.i64.bits b &&& BitVec.ofInt IntKind.i64.bits 1).toNat) == 1))) (wt (⟨_,aH,((!seq g ⟨#[]⟩) == ((IntKind.i64.wrap (BitVec.ofInt IntKind.i64.bits b &&& BitVec.ofInt IntKind.i64.bits 1).toNat) == 1)),fR,am.sub,O,h⟩)))))))))))))))))))
        ·exact o1 49 e (o1 49 e (o1 49 e (o1 49 e (o1 49 e (o1 49 e (o1 49 e (o1 49 e (m3 false vN (cg e) (m2 vN (wt (⟨_,aH,false,fR,am.sub,O,h⟩)))))))))))
       ·rintro _ bo ⟨aG,J,N,rfl,a3,an,h⟩;unfold aiC at h;exact sr (fd 5 abv rfl (l1 0 (iI b) an Tya3 (bbt (r:=(IntKind.i64.wrap (BitVec.ofInt IntKind.i64.bits b &&& BitVec.ofInt IntKind.i64.bits 1).toNat)) rfl rfl rfl (c0 ((IntKind.i64.wrap (BitVec.ofInt IntKind.i64.bits b &&& BitVec.ofInt IntKind.i64.bits 1).toNat) == 1) (m2 (.bool ((IntKind.i64.wrap (BitVec.ofInt IntKind.i64.bits b &&& BitVec.ofInt IntKind.i64.bits 1).toNat) == 1)) (wt (wp_region_lit (fd 5 abv rfl (l1 0 (iI b) an Tya3 (bbt (r:=(IntKind.i64.wrap (BitVec.ofInt IntKind.i64.bits b &&& BitVec.ofInt IntKind.i64.bits 2).toNat)) rfl rfl rfl (c0 ((IntKind.i64.wrap (BitVec.ofInt IntKind.i64.bits b &&& BitVec.ofInt IntKind.i64.bits 2).toNat) == 2) (m2 (.bool ((IntKind.i64.wrap (BitVec.ofInt IntKind.i64.bits b &&& BitVec.ofInt IntKind.i64.bits 2).toNat) == 2)) (wpList_nil (blkN (aac (⟨_,J,((IntKind.i64.wrap (BitVec.ofInt IntKind.i64.bits b &&& BitVec.ofInt IntKind.i64.bits 1).toNat) == 1),((IntKind.i64.wrap (BitVec.ofInt IntKind.i64.bits b &&& BitVec.ofInt IntKind.i64.bits 2).toNat) == 2),N,fR,a3,an,h⟩))))))))))))))))
      ·refine cF al (sr (c0 (f == 28) (m2 (.bool (f == 28)) (wt (cd h (fun ao h=>?_) (fun ao h=>?_))))))
       ·refine cT ao (wp_region_lit (fd 5 abv rfl (l1 0 (iI b) c Tya3 ?_)));obtain ⟨a4,a5,h⟩:=ob h;refine cv ([iI b,iI 0,iI 66]) aet ((acV k) a5 (hG.mono kr) (pt c)) ?_;rintro _ bp ⟨aI,rfl,ap⟩;have aq:=ca ap c;refine m1 (.bool a4) (cd h (fun l h=>?_) (fun l h=>?_))
        ·exact n1 72 l (fd 5 abv rfl (n1 72 l (l1 0 (iI b) aq Tya3 (n1 72 l (bdv (r:=(b.tmod 4)) rfl rfl (by decide) rfl (n1 72 l (c0 (decide ((b.tmod 4) < 3)) (m3 true (.bool (decide ((b.tmod 4) < 3))) (cg l) (m2 (.bool (decide ((b.tmod 4) < 3))) (wpList_nil (blkN (aac (⟨_,aI,false,false,(decide ((b.tmod 4) < 3)),fR,ap.sub,aq,h⟩)))))))))))))
        ·exact o1 72 l (o1 72 l (o1 72 l (o1 72 l (m3 false vN (cg l) (m2 vN (wpList_nil (blkN (aac (⟨_,aI,false,false,false,fR,ap.sub,aq,h⟩)))))))))
       ·exact cF ao (wp_skip (blkN (aac (⟨_,K,false,false,(b == 0),fR,kr,c,h⟩))))
 ·rintro _ bq ⟨au,z,A,v,B,rfl,br,u,h⟩;unfold adg at h;refine aax (fun a w=>∃ aJ ar,a=fr 97 (updL aJ [(2,.bool ar)])∧SR K z wi w [] []∧aeT k ar=some r_) ?_ ?_
  ·refine wp_region_lit (m1 (.bool B) (m1 (.bool B) (cd h (fun m h=>?_) (fun m h=>?_))))
   ·refine n1 79 m (m1 (.bool A) (n1 79 m (m1 (.bool A) (cd h (fun o h=>?_) (fun o h=>?_)))))
    ·refine o1 81 o (o1 81 o (o1 81 o (o1 81 o (n1 79 m (m3 true vT (cg o) (m3 true vT (cg m) (m1 vT (n0 88 (m1 (.bool v) (n0 88 (m1 (.bool v) (cd h (fun p h=>?_) (fun p h=>?_)))))))))))))
     ·exact o1 90 p (o1 90 p (o1 90 p (o1 90 p (n0 88 (m3 true vT (cg p) (m3 true vT rfl (m2 vT (wt (⟨_,true,fR,(u.sel []),h⟩)))))))))
     ·exact n1 90 p (fd 9 ab6 rfl (n1 90 p (l1 0 (sl x d y) u aa4 (n1 90 p (lS d.length aa5 (n1 90 p (c0 ((d.length:Int) == 0) (n0 88 (m3 false (.bool ((d.length:Int) == 0)) (cg p) (m3 true (.bool ((d.length:Int) == 0)) rfl (m2 (.bool ((d.length:Int) == 0)) (wt (⟨_,((d.length:Int) == 0),fR,(u.sel []),h⟩)))))))))))))
    ·refine n1 81 o (fd 8 abR rfl (n1 81 o (l1 0 (sl D j G) u aa4 (n1 81 o (lS j.length aa5 (n1 81 o (c0 ((j.length:Int) == 0) (n1 79 m (m3 false (.bool ((j.length:Int) == 0)) (cg o) (m3 true (.bool ((j.length:Int) == 0)) (cg m) (m1 (.bool ((j.length:Int) == 0)) (cd h (fun q h=>?_) (fun q h=>?_)))))))))))))
     ·refine n1 88 q (m1 (.bool v) (n1 88 q (m1 (.bool v) (cd h (fun s h=>?_) (fun s h=>?_)))))
      ·exact o1 90 s (o1 90 s (o1 90 s (o1 90 s (n1 88 q (m3 true vT (cg s) (m3 true vT (cg q) (m2 vT (wt (⟨_,true,fR,(u.sel []),h⟩)))))))))
      ·exact n1 90 s (fd 9 ab6 rfl (n1 90 s (l1 0 (sl x d y) u aa4 (n1 90 s (lS d.length aa5 (n1 90 s (c0 ((d.length:Int) == 0) (n1 88 q (m3 false (.bool ((d.length:Int) == 0)) (cg s) (m3 true (.bool ((d.length:Int) == 0)) (cg q) (m2 (.bool ((d.length:Int) == 0)) (wt (⟨_,((d.length:Int) == 0),fR,(u.sel []),h⟩)))))))))))))
     ·exact o1 88 q (o1 88 q (ou 90 (ou 90 (ou 90 (ou 90 (o1 88 q (m3 false vN (cg q) (m2 vN (wt (⟨_,false,fR,(u.sel []),h⟩))))))))))
   ·exact o1 79 m (o1 79 m (ou 81 (ou 81 (ou 81 (ou 81 (o1 79 m (m3 false vN (cg m) (m1 vN (o0 88 (o0 88 (ou 90 (ou 90 (ou 90 (ou 90 (o0 88 (m3 false vN rfl (m2 vN (wt (⟨_,false,fR,(u.sel []),h⟩)))))))))))))))))))
  ·rintro _ bs ⟨aJ,ar,rfl,a6,h⟩;unfold aeT at h;refine wp_ret ?_;cases (oi h).trans hr_;exact aaw rfl (resT rfl) ⟨z,rfl,a6⟩
theorem anc (k:Nat):ail (f149 k):=apv k
theorem atx (k:Nat):akk (arT k):=by
 unfold akk;intro K wi g bs c e i d x y z A h hG j;obtain ⟨r_,hr_,h⟩:=rz h;refine enter Tryz.func68 rfl (n:=30) rfl ?_;unfold arT at h;refine sr (m2 vN (wt (sr (m1 (pp g 0) (nilc rfl (fd 0 anv rfl (l1 0 (iI c) j Tya3 (bar (r:=(w64 (c + 1))) rfl rfl rfl (nilc rfl (fd 0 anv rfl (sI 0 (iI (w64 (c + 1))) #[iI (w64 (c + 1)),iI e,.bool i] j Tys3 rfl rfl (fun B j=>(wt (sr (m1 (pp g 0) (m1 (pp g 0) (nilc rfl (fd 1 aql rfl (l1 0 (iI e) j Tya3 (m1 (iI d) (mxb (a:=e) (b:=d) rfl rfl (nilc rfl (fd 1 aql rfl (sI 0 (iI (imax e d)) #[iI (w64 (c + 1)),iI (imax e d),.bool i] j Tys3 rfl rfl (fun C l=>(wt (aax (fun a w=>∃ o m,a=fr 30 (updL o [(4,.bool m)])∧SR K K wi w [.box bs g #[iI c,iI e,.bool i] 95] [.box bs g #[iI (w64 (c + 1)),iI (imax e d),.bool i] 95]∧al6 k c e i d m=some r_) ?_ ?_)))))))))))))))))))))))))))
 ·refine wp_region_lit (m1 (pp g 0) (nilc rfl (fd 0 anv rfl (l1 0 (iI (w64 (c + 1))) l Tya3 (c0 (decide ((w64 (c + 1)) ≤ 600)) (m1 (.bool (decide ((w64 (c + 1)) ≤ 600))) (cd h (fun f h=>?_) (fun f h=>?_))))))))
  ·exact n1 26 f (m1 (iI d) (n1 26 f (c0 (decide (d ≤ 16)) (m3 true (.bool (decide (d ≤ 16))) (cg f) (m2 (.bool (decide (d ≤ 16))) (wt (⟨_,(decide (d ≤ 16)),fR,l,h⟩)))))))
  ·exact o1 26 f (o1 26 f (m3 false vN (cg f) (m2 vN (wt (⟨_,false,fR,l,h⟩)))))
 ·rintro _ D ⟨o,m,rfl,p,h⟩;unfold al6 at h;refine wp_ret ?_;have e_:=(Option.some.inj h).trans hr_;obtain ⟨q,s⟩:=Prod.mk.inj e_;obtain ⟨t,u,v⟩:=aag.mk.inj q;subst t;subst u;subst v;subst s;exact aaw rfl (resT rfl) ⟨K,rfl,p⟩
theorem anS (k:Nat):akk (f68 k):=atx k
theorem aqv (k:Nat):aiL (aov k):=by
 unfold aiL;intro K wi b i h hG e;obtain ⟨r_,hr_,h⟩:=rz h;refine enter Tryz.func115 rfl (n:=9) rfl ?_;unfold aov at h;refine sr (m2 vN (wt (aax (fun a w=>∃ f d,a=fr 9 (updL f [(2,.bool d)])∧SR K K wi w [] []∧aib k d=some r_) ?_ ?_)))
 ·refine wp_region_lit (m1 (.int .u8 b) (c0 (decide (b ≥ 97)) (m1 (.bool (decide (b ≥ 97))) (cd h (fun c h=>?_) (fun c h=>?_)))))
  ·exact n1 5 c (m1 (.int .u8 b) (n1 5 c (c0 (decide (b ≤ 122)) (m3 true (.bool (decide (b ≤ 122))) (cg c) (m2 (.bool (decide (b ≤ 122))) (wt (⟨_,(decide (b ≤ 122)),fR,e,h⟩)))))))
  ·exact o1 5 c (o1 5 c (m3 false vN (cg c) (m2 vN (wt (⟨_,false,fR,e,h⟩)))))
 ·rintro _ j ⟨f,d,rfl,g,h⟩;unfold aib at h;refine wp_ret ?_;cases (oi h).trans hr_;exact aaw rfl (resT rfl) ⟨K,rfl,g⟩
theorem awi (k:Nat):aiL (f115 k):=aqv k
theorem apN (k:Nat):ajb (aoP k):=by
 unfold ajb;intro K wi b i h hG e;obtain ⟨r_,hr_,h⟩:=rz h;refine enter Tryz.func116 rfl (n:=9) rfl ?_;unfold aoP at h;refine sr (m2 vN (wt (aax (fun a w=>∃ f d,a=fr 9 (updL f [(2,.bool d)])∧SR K K wi w [] []∧ai9 k d=some r_) ?_ ?_)))
 ·refine wp_region_lit (m1 (.int .u8 b) (c0 (decide (b ≥ 48)) (m1 (.bool (decide (b ≥ 48))) (cd h (fun c h=>?_) (fun c h=>?_)))))
  ·exact n1 5 c (m1 (.int .u8 b) (n1 5 c (c0 (decide (b ≤ 57)) (m3 true (.bool (decide (b ≤ 57))) (cg c) (m2 (.bool (decide (b ≤ 57))) (wt (⟨_,(decide (b ≤ 57)),fR,e,h⟩)))))))
  ·exact o1 5 c (o1 5 c (m3 false vN (cg c) (m2 vN (wt (⟨_,false,fR,e,h⟩)))))
 ·rintro _ j ⟨f,d,rfl,g,h⟩;unfold ai9 at h;refine wp_ret ?_;cases (oi h).trans hr_;exact aaw rfl (resT rfl) ⟨K,rfl,g⟩
theorem avO (k:Nat):ajb (f116 k):=apN k
theorem arv (k:Nat):aj2 (ath k):=by
 unfold aj2;intro K wi b S h hG C D;obtain ⟨r_,hr_,h⟩:=rz h;refine enter Tryz.func96 rfl (n:=28) rfl ?_;unfold ath at h;refine sr (m2 vN (wt (wp_seq (sr (m1 (.string b) (lnT (a:=b) Tyt9 rfl (m1 (iI 0) (wt (wp_block (aaz (fun g_ a w=>∃ u i f,∃ (c:Nat),g_=f.length∧a=fr 28 (updL u [(0,.string b),(5,iI (b.size:Int)),(6,iI (c:Int))])∧KH.sub K i∧SR K i wi w [] []∧b.data.toList.drop c=f∧ae0 k b f c=some r_) b.data.toList.length ?_ ?_))))))))))
 ·exact ⟨_,K,b.data.toList,0,rfl,fR,kr,D,List.drop_zero,h⟩
 ·rintro _ _ U ⟨u,i,f,c,rfl,rfl,p,q,g,h⟩;rcases f with _ | ⟨v,f⟩
  ·unfold ae0 at h;refine sr (bcm (r:=false) rfl rfl (congrArg some (aeH g)) (wt (wp_seq (cndF rfl (wp_exit (aaA (aaA (blkX (aac (sr (m1 (.string b) (bsc (r:=(!seq b ⟨#[]⟩)) rfl rfl rfl (m2 (.bool (!seq b ⟨#[]⟩)) (wt (wp_ret ?_)))))))))))))));cases (oi h).trans hr_;exact aaw rfl (resT rfl) ⟨i,rfl,q⟩
  ·unfold ae0 at h;refine sr (bcm (r:=true) rfl rfl (congrArg some (ad3 g)) (wt (wp_seq (cndT rfl (wp_skip (aac (wp_seq (wp_block (sr (m1 (iI (c:Int)) (m2 (iI (c:Int)) (wt (aax (fun a w=>∃ x j s,a=fr 28 (updL x [(0,.string b),(5,iI (b.size:Int)),(6,iI (c:Int)),(24,.bool s)])∧KH.sub i j∧SR K j wi w [] []∧ajr k c s (ae0 k b f)=some r_) ?_ ?_)))))))))))))
   ·refine wp_region_lit (m1 (.string b) (m1 (iI (c:Int)) (ixN Tyt9 rfl rfl g ?_)));obtain ⟨y,G,h⟩:=ob h;refine cv ([.int .u8 (v.toNat:Int)]) awW ((awi k) G (hG.mono p) (pt q)) ?_;rintro _ V ⟨z,rfl,l⟩;have m:=ca l q;refine uN y (m1 (.bool (!y)) (cd h (fun d h=>?_) (fun d h=>?_)))
    ·refine n1 14 d (m1 (iI (c:Int)) (n1 14 d (c0 ((c:Int) == 0) (n1 14 d (m1 (.bool ((c:Int) == 0)) (cd h (fun e h=>?_) (fun e h=>?_)))))))
     ·exact o1 17 e (o1 17 e (o1 17 e (o1 17 e (o1 17 e (n1 14 d (m3 true vT (cg e) (m3 true vT (cg d) (wt (⟨_,z,true,fR,l.sub,m,h⟩)))))))))
     ·refine n1 17 e (m1 (.string b) (n1 17 e (m1 (iI (c:Int)) (n1 17 e (ixN Tyt9 rfl rfl g (n1 17 e ?_))))));obtain ⟨o,I,h⟩:=ob h;refine cv ([.int .u8 (v.toNat:Int)]) aw8 ((avO k) I (hG.mono m.sub) (pt m)) ?_;rintro _ W ⟨J,rfl,A⟩;have N:=ca A m;exact n1 17 e (uN o (n1 14 d (m3 false (.bool (!o)) (cg e) (m3 true (.bool (!o)) (cg d) (wt (⟨_,J,(!o),fR,(l.sub.trans A.sub),N,h⟩))))))
    ·exact o1 14 d (o1 14 d (o1 14 d (ou 17 (ou 17 (ou 17 (ou 17 (ou 17 (o1 14 d (m3 false vN (cg d) (wt (⟨_,z,false,fR,l.sub,m,h⟩)))))))))))
   ·rintro _ X ⟨x,j,s,rfl,O,B,h⟩;unfold ajr at h;refine cd h (fun t h=>?_) (fun t h=>?_)
    ·refine cT t (sr (m2 vN (wt (wp_ret (blkR (aav (aav (blkR (aav ?_)))))))));cases (oi h).trans hr_;exact aaw rfl (resT rfl) ⟨j,rfl,B⟩
    ·exact cF t (wp_skip (blkN (aac (wp_region_lit (bar (r:=((c + 1:Nat):Int)) rfl rfl (aaO (akF C g)) (m1 (iI ((c + 1:Nat):Int)) (wt (⟨_,Nat.lt_succ_self _,_,j,f,c + 1,rfl,fR,(p.trans O),B,aaj g,h⟩))))))))
theorem awt (k:Nat):aj2 (f96 k):=arv k
theorem aqB (k:Nat):aiH (aow k):=by
 unfold aiH;intro K wi d l m g C h hG q D u;obtain ⟨r_,hr_,h⟩:=rz h;refine enter Tryz.func134 rfl (n:=19) rfl ?_;unfold aow at h;refine sr (m2 (iI 0) (wt (wp_seq (sr (m1 (sl l d m) (lS d.length agv (m1 (iI 0) (wt (wp_block (aaz (fun g_ a w=>∃ s e,∃ (c:Nat),g_=e.length∧a=fr 19 (updL s [(0,sl l d m),(1,.string g),(7,iI (d.length:Int)),(8,iI (c:Int))])∧SR K K wi w [] []∧d.drop c=e∧af4 k g e c=some r_) d.length ?_ ?_))))))))))
 ·exact ⟨_,d,0,rfl,fR,u,List.drop_zero,h⟩
 ·rintro _ _ G ⟨s,e,c,rfl,rfl,j,f,h⟩;rcases e with _ | ⟨t,e⟩
  ·unfold af4 at h;refine sr (bcm (r:=false) rfl rfl (congrArg some (aaq f)) (wt (wp_seq (cndF rfl (wp_exit (aaA (aaA (blkX (aac (sr (m2 (iI (-1)) (wt (wp_ret ?_)))))))))))));cases (oi h).trans hr_;exact aaw rfl (resT rfl) ⟨K,rfl,j⟩
  ·unfold af4 at h;refine sr (bcm (r:=true) rfl rfl (congrArg some (aap f)) (wt (wp_seq (cndT rfl (wp_skip (aac (wp_seq (wp_block (sr (m1 (iI (c:Int)) (m2 (iI (c:Int)) (wt (sr (m1 (.string g) (m1 (sl l d m) (m1 (iI (c:Int)) ?_))))))))))))))));obtain ⟨x,y,I,z,J,A,B⟩:=(q).row.at_ (aal f);obtain ⟨rfl,N⟩:=B;refine idxN (b:=x) (o:=y) (i:=c) agv Tys9 rfl z rfl (aab f) (ld1 (v:=.string t) Tya9 rfl (j.cell (kr.cell (A 0 _ rfl))) (bsc (r:=(seq g t)) rfl rfl rfl (wt (cd h (fun p h=>?_) (fun p h=>?_)))))
   ·refine cT p (sr (m1 (iI (c:Int)) (m2 (iI (c:Int)) (wt (wp_ret (blkR (aav (aav (blkR (aav ?_))))))))));cases (oi h).trans hr_;exact aaw rfl (resT rfl) ⟨K,rfl,j⟩
   ·exact cF p (wp_skip (blkN (aac (wp_region_lit (bar (r:=((c + 1:Nat):Int)) rfl rfl (aaO (aaS ((q).len) (by decide) (aab f))) (m1 (iI ((c + 1:Nat):Int)) (wt (⟨_,Nat.lt_succ_self _,_,e,c + 1,rfl,fR,j,aaj f,h⟩))))))))
theorem avc (k:Nat):aiH (f134 k):=aqB k
theorem aqy (k:Nat):aiB (an0 k):=by
 unfold aiB;intro K wi b c d e a h hG g i f;obtain ⟨r_,hr_,h⟩:=rz h;refine enter Tryz.func117 rfl (n:=9) rfl ?_;unfold an0 at h;refine sr (m2 vN (wt (sr (m1 (sl c b d) (m1 (.string e) ?_)))));obtain ⟨a,j,h⟩:=ob h;refine cv ([sl c b d,.string e]) awP ((avc k) j (hG.mono kr) g i (pt f)) ?_;rintro _ p ⟨l,rfl,m⟩;have o:=ca m f;refine c0 (decide (a ≥ 0)) (m2 (.bool (decide (a ≥ 0))) (wt (wp_ret ?_)));cases (oi h).trans hr_;exact aaw rfl (resT rfl) ⟨l,rfl,o⟩
theorem auU (k:Nat):aiB (f117 k):=aqy k
set_option maxRecDepth 100000 in
theorem ahI:(Lib.fields aiA.data.toList).map (fun l=>(⟨l.toArray⟩:ByteArray))=ac1:=by kernel_rfl
theorem anH : ∀ x ∈ ac1,x.size≤mB:=by
 have h:ac1.all (fun x=>decide (x.size≤mB))=true:=by kernel_rfl
 intro x hx;simpa using List.all_eq_true.1 h x hx
set_option maxRecDepth 100000 in
theorem avm (k:Nat):amy (f118 k):=by
 unfold amy;intro K wi r0 h hG S0;unfold f118 at h;obtain rfl:=Option.some.inj h;refine enter Tryz.func118 rfl (n:=2) rfl ?_;refine wp_seq ?_;refine wp_region_lit ?_;refine asg (v:=.slice none 0 0) rfl ?_;refine wpList_nil ?_;refine aac ?_;refine wp_seq ?_;refine wp_region_lit ?_;have hlen:(Lib.fields aiA.data.toList).length=ac1.length:=by rw [← ahI,List.length_map]
 have hmap:(Lib.fields aiA.data.toList).map (fun l=>Value.string ⟨l.toArray⟩)=ac1.map Value.string:=by rw [← ahI,List.map_map]; rfl
 obtain ⟨K1,S1,hs1,hr1⟩:=S0.texts (xs:=ac1) 9 anH (by decide);refine clV (caps:=#[]) (vs:=[.string aiA]) (R:=fun v w'=>v=.slice (some ⟨(zz wi),0,none⟩) ac1.length ac1.length∧w'=wi.alloc (.cells (ac1.map Value.string).toArray 9)) rfl (by kernel_rfl) rfl
  ((Any.strings_Fields_core Tryz.lays157 (by kernel_rfl) aiA wi (by decide) am5 (fun c hc=>S0.cell (hG.1 c hc))).mono (fun e w' h=>⟨_,h.1,by rw [hlen],by rw [h.2,hmap]; rfl⟩)) ?_
 rintro _ _ ⟨rfl,rfl⟩;refine asg (v:=.slice (some ⟨(zz wi),0,none⟩) ac1.length ac1.length) rfl ?_;refine wpList_nil ?_;refine aac ?_;refine wp_ret ?_;exact aaw rfl (resT rfl) ⟨K1,_,_,rfl,S1,hr1⟩
theorem asI (k:Nat):aku (ati k):=by
 unfold aku;intro K wi a b h hG f c;obtain ⟨r_,hr_,h⟩:=rz h;refine enter Tryz.func97 rfl (n:=6) rfl ?_;unfold ati at h;refine sr (m2 vN (wt (sr ?_)));obtain ⟨b,g,h⟩:=ob h;refine cv ([]) awM ((avm k) g (hG.mono kr) (pt c)) ?_;rintro _ s ⟨t,i,j,rfl,d,l⟩;have e:=ca d c;refine m1 (.string a) ?_;obtain ⟨m,o,h⟩:=ob h;refine cv ([sl i b j,.string a]) awU ((auU k) o (hG.mono d.sub) l f (pt e)) ?_;rintro _ u ⟨p,rfl,q⟩;have r:=ca q e;refine m2 (.bool m) (wt (wp_ret ?_));cases (oi h).trans hr_;exact aaw rfl (resT rfl) ⟨p,rfl,r⟩
theorem axn (k:Nat):aku (f97 k):=asI k
theorem ar6 (k:Nat):ali (asQ k):=by
 unfold ali;intro K wi b y h hG l m;obtain ⟨r_,hr_,h⟩:=rz h;refine enter Tryz.func71 rfl (n:=15) rfl ?_;unfold asQ at h;refine sr (m2 vN (wt (aax (fun a w=>∃ o f j,a=fr 15 (updL o [(2,.bool j)])∧KH.sub K f∧SR K f wi w [] []∧ajo k j=some r_) ?_ ?_)))
 ·refine wp_region_lit (m1 (.string b) ?_);obtain ⟨r,s,h⟩:=ob h;refine cv ([.string b]) ayI ((awt k) s (hG.mono kr) l (pt m)) ?_;rintro _ z ⟨p,rfl,e⟩;have g:=ca e m;refine m1 (.bool r) (cd h (fun c h=>?_) (fun c h=>?_))
  ·refine n1 5 c (m1 (.string b) (n1 5 c (lnT (a:=b) Tyt9 rfl (n1 5 c (c0 (decide ((b.size:Int) ≤ 12)) (m3 true (.bool (decide ((b.size:Int) ≤ 12))) (cg c) (m1 (.bool (decide ((b.size:Int) ≤ 12))) (cd h (fun d h=>?_) (fun d h=>?_)))))))))
   ·refine n1 10 d (m1 (.string b) (n1 10 d ?_));obtain ⟨i,t,h⟩:=ob h;refine cv ([.string b]) ayX ((axn k) t (hG.mono e.sub) l (pt g)) ?_;rintro _ A ⟨u,rfl,q⟩;have v:=ca q g;exact n1 10 d (uN i (m3 true (.bool (!i)) (cg d) (m2 (.bool (!i)) (wt (⟨_,u,(!i),fR,(e.sub.trans q.sub),v,h⟩)))))
   ·exact o1 10 d (o1 10 d (o1 10 d (m3 false vN (cg d) (m2 vN (wt (⟨_,p,false,fR,e.sub,g,h⟩))))))
  ·exact o1 5 c (o1 5 c (o1 5 c (m3 false vN (cg c) (m1 vN (o0 10 (o0 10 (o0 10 (m3 false vN rfl (m2 vN (wt (⟨_,p,false,fR,e.sub,g,h⟩)))))))))))
 ·rintro _ B ⟨o,f,j,rfl,C,x,h⟩;unfold ajo at h;refine wp_ret ?_;cases (oi h).trans hr_;exact aaw rfl (resT rfl) ⟨f,rfl,x⟩
theorem afR (k:Nat):ali (f71 k):=ar6 k
theorem arG (k:Nat):ah5 (auz k):=by
 unfold ah5;intro K wi b t h hG q s;obtain ⟨r_,hr_,h⟩:=rz h;refine enter Tryz.func66 rfl (n:=23) rfl ?_;unfold auz at h;refine sr (m2 vN (wt (wp_seq (sr (m1 (.string b) (lnT (a:=b) Tyt9 rfl (m1 (iI 0) (wt (wp_block (aaz (fun g_ a w=>∃ m e,∃ (c:Nat),g_=e.length∧a=fr 23 (updL m [(0,.string b),(5,iI (b.size:Int)),(6,iI (c:Int))])∧SR K K wi w [] []∧b.data.toList.drop c=e∧aei k b e c=some r_) b.data.toList.length ?_ ?_))))))))))
 ·exact ⟨_,b.data.toList,0,rfl,fR,s,List.drop_zero,h⟩
 ·rintro _ _ u ⟨m,e,c,rfl,rfl,i,f,h⟩;rcases e with _ | ⟨g,e⟩
  ·unfold aei at h;refine sr (bcm (r:=false) rfl rfl (congrArg some (aeH f)) (wt (wp_seq (cndF rfl (wp_exit (aaA (aaA (blkX (aac (sr (m1 (.string b) (lnT (a:=b) Tyt9 rfl (c0 (decide ((b.size:Int) ≤ 60)) (m2 (.bool (decide ((b.size:Int) ≤ 60))) (wt (wp_ret ?_))))))))))))))));cases (oi h).trans hr_;exact aaw rfl (resT rfl) ⟨K,rfl,i⟩
  ·unfold aei at h;refine sr (bcm (r:=true) rfl rfl (congrArg some (ad3 f)) (wt (wp_seq (cndT rfl (wp_skip (aac (wp_seq (wp_block (sr (m1 (iI (c:Int)) (m2 (iI (c:Int)) (wt (aax (fun a w=>∃ o j,a=fr 23 (updL o [(0,.string b),(5,iI (b.size:Int)),(6,iI (c:Int)),(18,.bool j)])∧SR K K wi w [] []∧aiT k c j (aei k b e)=some r_) ?_ ?_)))))))))))))
   ·refine wp_region_lit (m1 (.string b) (m1 (iI (c:Int)) (ixN Tyt9 rfl rfl f (c0 (decide ((g.toNat:Int) < 32)) (m1 (.bool (decide ((g.toNat:Int) < 32))) (cd h (fun d h=>?_) (fun d h=>?_)))))))
    ·exact o1 13 d (o1 13 d (o1 13 d (o1 13 d (m3 true vT (cg d) (wt (⟨_,true,fR,i,h⟩))))))
    ·exact n1 13 d (m1 (.string b) (n1 13 d (m1 (iI (c:Int)) (n1 13 d (ixN Tyt9 rfl rfl f (n1 13 d (c0 (decide ((g.toNat:Int) > 126)) (m3 false (.bool (decide ((g.toNat:Int) > 126))) (cg d) (wt (⟨_,(decide ((g.toNat:Int) > 126)),fR,i,h⟩))))))))))
   ·rintro _ v ⟨o,j,rfl,p,h⟩;unfold aiT at h;refine cd h (fun l h=>?_) (fun l h=>?_)
    ·refine cT l (sr (m2 vN (wt (wp_ret (blkR (aav (aav (blkR (aav ?_)))))))));cases (oi h).trans hr_;exact aaw rfl (resT rfl) ⟨K,rfl,p⟩
    ·exact cF l (wp_skip (blkN (aac (wp_region_lit (bar (r:=((c + 1:Nat):Int)) rfl rfl (aaO (akF q f)) (m1 (iI ((c + 1:Nat):Int)) (wt (⟨_,Nat.lt_succ_self _,_,e,c + 1,rfl,fR,p,aaj f,h⟩))))))))
theorem awG (k:Nat):ah5 (f66 k):=arG k
theorem ahz (k:Nat) (a:ByteArray) : ∀ (l:List UInt8) (i:Nat),aei k a l i=some true→a.size≤60
 | [],i,h=>by
  unfold aei at h;have:=of_decide_eq_true (Option.some.inj h);omega
 | e :: l,i,h=>by
  unfold aei at h;rcases Bool.eq_false_or_eq_true (decide ((e.toNat:Int) < 32)) with h1 | h1
  ·rw [h1] at h;simp [aiT] at h
  ·rw [h1] at h;simp only [cond_false,aiT] at h;rcases Bool.eq_false_or_eq_true (decide ((e.toNat:Int) > 126)) with h2 | h2
   ·rw [h2] at h;simp at h
   ·rw [h2] at h;exact ahz k a l _ h
theorem atd (k:Nat) (h162:ah5 (f66 k)) {K:KH} {wi:World} {a:ByteArray} {r:Bool} (h:f66 k a=some r) (hG:GK K) (ha:a.size≤mB) (S0:Sx K K wi wi (fun b=>b ∈ Ents.blks []) []) :
  Calls Tryz.prog 45 #[.string a] wi (Ret fun v w'=>∃ (K' : KH) (s:ByteArray),v=.tuple #[.string s,.int .i64 (cond r 0 2)]∧Sx K K' wi w' (fun b=>b ∈ Ents.blks []) []):=by
 refine enter Tryz.func45 rfl (n:=12) rfl ?_;refine wp_seq ?_;refine wp_region_lit ?_;refine asg (v:=.string ⟨#[]⟩) rfl ?_;refine asg (v:=.int .i64 0) rfl ?_;refine wpList_nil ?_;refine aac ?_;refine wp_seq ?_;refine wp_seq ?_;refine wp_region_lit ?_;refine mv (v:=.string a) rfl ?_;refine clV (caps:=#[]) (vs:=[.string a]) rfl (by kernel_rfl) rfl (h162 h hG ha S0) ?_;rintro _ w1 ⟨K1,rfl,T1⟩;refine unot (a:=r) rfl ?_;refine wpList_nil ?_;refine aac ?_;rcases r with _ | _
 ·refine cndT rfl ?_;refine wp_seq ?_;refine wp_region_lit ?_;refine asg (v:=.string ⟨#[]⟩) rfl ?_;refine asg (v:=.int .i64 2) rfl ?_;refine wpList_nil ?_;refine aac ?_;refine wp_ret ?_;refine aav ?_;exact ac4 rfl (resT rfl) (resT rfl) ⟨K1,_,rfl,T1⟩
 ·have hsh:a.size≤60:=ahz k a _ _ h;refine cndF rfl ?_;refine wp_skip ?_;refine aac ?_;refine wp_seq ?_;refine wp_region_lit ?_;refine mv (v:=.string a) rfl ?_;have hG1:=hG.mono T1.sub;refine clV (caps:=#[]) (vs:=[.string a,.string ⟨#[92]⟩,.string ⟨#[92,92]⟩]) rfl (by kernel_rfl) rfl (apH T1 hG1 a ⟨#[92]⟩ ⟨#[92,92]⟩ (by omega) (by decide) (by decide)) ?_;rintro _ w2 ⟨s2,rfl,hs2,T2⟩;refine clV (caps:=#[]) (vs:=[.string s2,.string ⟨#[34]⟩,.string ⟨#[92,34]⟩]) rfl (by kernel_rfl) rfl (apH T2 hG1 s2 ⟨#[34]⟩ ⟨#[92,34]⟩ (by omega) (by decide) (by decide)) ?_;rintro _ w3 ⟨s3,rfl,hs3,T3⟩;refine bsa (a:=⟨#[34]⟩) (b:=s3) rfl rfl (by have:(⟨#[34]⟩:ByteArray).size=1:=rfl; omega) ?_;refine bsa (a:=⟨#[34]⟩ ++ s3) (b:=⟨#[34]⟩) rfl rfl (by have:(⟨#[34]⟩:ByteArray).size=1:=rfl; rw [ByteArray.size_append]; omega) ?_;refine asg (v:=.string (⟨#[34]⟩ ++ s3 ++ ⟨#[34]⟩)) rfl ?_;refine asg (v:=.int .i64 0) rfl ?_;refine wpList_nil ?_;refine aac ?_;refine wp_ret ?_;exact ac4 rfl (resT rfl) (resT rfl) ⟨K1,_,rfl,T3⟩
theorem axH (k:Nat):aoa (f70 k):=by
 unfold aoa;intro K wi a0 r0 h hG ha0 S0;unfold f70 at h;refine enter Tryz.func70 rfl (n:=12) rfl ?_;refine wp_seq ?_;refine wp_region_lit ?_;refine asg (v:=.bool false) rfl ?_;refine wpList_nil ?_;refine aac ?_;refine wp_seq ?_;refine wp_region_lit ?_;refine mv (v:=.string a0) rfl ?_;refine clV (caps:=#[]) (vs:=[.string a0]) rfl (by kernel_rfl) rfl (atd k (awG k) h hG ha0 S0) ?_;rintro _ w1 ⟨K1,s1,rfl,T1⟩;refine mv (v:=.tuple #[.string s1,.int .i64 (cond r0 0 2)]) rfl ?_;refine ext (v:=.string s1) rfl rfl ?_;refine ext (v:=.int .i64 (cond r0 0 2)) rfl rfl ?_;refine asg (v:=.string s1) rfl ?_;refine asg (v:=.int .i64 (cond r0 0 2)) rfl ?_;refine wpList_nil ?_;refine aac ?_;refine wp_seq ?_;refine wp_region_lit ?_;refine mv (v:=.int .i64 (cond r0 0 2)) rfl ?_;refine bcm (r:=decide ((cond r0 0 2:Int)=0)) rfl rfl rfl ?_;refine asg (v:=.bool (decide ((cond r0 0 2:Int)=0))) rfl ?_;refine wpList_nil ?_;refine aac ?_;refine wp_ret ?_;exact aaw rfl (resT rfl) ⟨K1,by cases r0 <;> rfl,T1⟩
theorem atr (k:Nat) (F:ahn) (IH47:aeD F.f47) (IH72:aeB F.f72):aeD (ap0 k F):=by
 unfold aeD;intro K wi g bs I J N a6 bO i bP bQ bR bS h hG a7 a8;obtain ⟨r_,hr_,h⟩:=rz h;obtain ⟨c,d,b,u,f⟩:=a6;obtain ⟨v,x,rfl,aM,a9⟩:=aan.open a7;refine enter Tryz.func47 rfl (n:=107) rfl ?_;unfold ap0 at h;refine sr (bxoC (cs:=(aE c d b u v f x)) a8 rfl rfl (fun ba bb=>(m2 vN (wt (wp_seq (aax (fun a w=>∃ aN t m o p ai,a=fr 107 (updL aN [(0,pp g 0),(2,iI i),(4,pp (zz wi) 0),(24,.bool ai)])∧KH.sub K t∧SR K t wi w [.box bs g #[iI I,iI J,.bool N] 95] [.box bs g #[iI m,iI o,.bool p] 95,.box (zz wi) (zz wi) (aE c d b u v f x) 33]∧ahy k F c d b f i m o p ai=some r_) ?_ ?_))))))
 ·refine wp_region_lit (m1 (pp g 0) (m1 (iI i) ?_));have aP:=p10 bb;obtain ⟨⟨⟨aj,ak,O⟩,aQ⟩,bd,h⟩:=ob h;refine cv ([pp g 0,iI i]) asi ((anS k) bd (hG.mono kr) (pt aP)) ?_;rintro _ bT ⟨al,rfl,ac⟩;have Y:=ca ac aP;refine uN aQ (m1 (.bool (!aQ)) (cd h (fun j h=>?_) (fun j h=>?_)))
  ·exact o1 13 j (o1 13 j (o1 13 j (o1 13 j (ou 17 (ou 17 (ou 17 (ou 17 (ou 17 (o1 13 j (m3 true vT (cg j) (wt (⟨_,al,aj,ak,O,true,fR,ac.sub,Y,h⟩))))))))))))
  ·refine n1 13 j (fd 3 ad9 rfl (n1 13 j (l1 1 (iI u) Y Tya3 (n1 13 j (c0 (u != 0) (n1 13 j (m1 (.bool (u != 0)) (cd h (fun q h=>?_) (fun q h=>?_)))))))))
   ·exact n1 17 q (m1 (pp g 0) (n1 17 q (nilc rfl (n1 17 q (fd 2 aiq rfl (n1 17 q (l1 0 (.bool O) Y Tya4 (n1 17 q (uN O (n1 13 j (m3 true (.bool (!O)) (cg q) (m3 false (.bool (!O)) (cg j) (wt (⟨_,al,aj,ak,O,(!O),fR,ac.sub,Y,h⟩))))))))))))))
   ·exact o1 17 q (o1 17 q (o1 17 q (o1 17 q (o1 17 q (n1 13 j (m3 false vN (cg q) (m3 false vN (cg j) (wt (⟨_,al,aj,ak,O,false,fR,ac.sub,Y,h⟩)))))))))
 ·rintro _ bU ⟨aN,t,m,o,p,ai,rfl,S,e,h⟩;unfold ahy at h;refine cd h (fun am h=>?_) (fun am h=>?_)
  ·refine cT am (sr (m2 vN (wt (wp_ret (aav ?_)))));have e_:=(Option.some.inj h).trans hr_;obtain ⟨be,bf⟩:=Prod.mk.inj e_;obtain ⟨bg,bh,bi⟩:=aag.mk.inj be;subst bg;subst bh;subst bi;subst bf;exact aaw rfl (resT rfl) ⟨t,rfl,(e.sel [0])⟩
  ·refine cF am (wp_skip (aac (sr (m2 (iI 0) (wt (sr (m2 vN (wt (aax (fun a w=>∃ aT W U Z,a=fr 107 (updL aT [(0,pp g 0),(2,iI i),(4,pp (zz wi) 0),(7,iI U),(8,.bool Z)])∧KH.sub t W∧SR K W wi w [.box bs g #[iI I,iI J,.bool N] 95] [.box bs g #[iI m,iI o,.bool p] 95,.box (zz wi) (zz wi) (aE c d b u v f x) 33]∧adt k F f i m o p U Z=some r_) ?_ ?_)))))))))
   ·refine sr (fd 0 acG rfl (l1 1 (iI c) e Tya3 (wt (wp_block (sr (c0 (c == 1) (m2 (.bool (c == 1)) (wt (cd h (fun an h=>?_) (fun an h=>?_))))))))))
    ·refine cT an (wp_region_lit (fd 1 acO rfl (l1 1 (iI d) e Tya3 ?_)));obtain ⟨bj,bk,h⟩:=ob h;refine cv ([iI d,iI 0,iI 1000000000000]) aet ((acV k) bk (hG.mono S) (pt e)) ?_;rintro _ bV ⟨aU,rfl,ao⟩;have ap:=ca ao e;refine m1 (.bool bj) (cd h (fun y h=>?_) (fun y h=>?_))
     ·exact n1 45 y (fd 2 ac7 rfl (n1 45 y (l1 1 (.string b) ap Tya9 (n1 45 y (bsc (r:=(seq b ⟨#[]⟩)) rfl rfl rfl (m3 true (.bool (seq b ⟨#[]⟩)) (cg y) (m2 (.bool (seq b ⟨#[]⟩)) (wpList_nil (blkN (aac (⟨_,aU,0,(seq b ⟨#[]⟩),fR,ao.sub,ap,h⟩)))))))))))
     ·exact o1 45 y (o1 45 y (o1 45 y (m3 false vN (cg y) (m2 vN (wpList_nil (blkN (aac (⟨_,aU,0,false,fR,ao.sub,ap,h⟩))))))))
    ·refine cF an (sr (c0 (c == 2) (m2 (.bool (c == 2)) (wt (cd h (fun aq h=>?_) (fun aq h=>?_))))))
     ·refine cT aq (wp_region_lit (fd 1 acO rfl (l1 1 (iI d) e Tya3 ?_)));obtain ⟨bm,bn,h⟩:=ob h;refine cv ([iI d,iI 0,iI 1]) aet ((acV k) bn (hG.mono S) (pt e)) ?_;rintro _ bW ⟨aV,rfl,ar⟩;have au:=ca ar e;refine m1 (.bool bm) (cd h (fun z h=>?_) (fun z h=>?_))
      ·exact n1 55 z (fd 2 ac7 rfl (n1 55 z (l1 1 (.string b) au Tya9 (n1 55 z (bsc (r:=(seq b ⟨#[]⟩)) rfl rfl rfl (m3 true (.bool (seq b ⟨#[]⟩)) (cg z) (m2 (.bool (seq b ⟨#[]⟩)) (wpList_nil (blkN (aac (⟨_,aV,0,(seq b ⟨#[]⟩),fR,ar.sub,au,h⟩)))))))))))
      ·exact o1 55 z (o1 55 z (o1 55 z (m3 false vN (cg z) (m2 vN (wpList_nil (blkN (aac (⟨_,aV,0,false,fR,ar.sub,au,h⟩))))))))
     ·refine cF aq (sr (c0 (c == 3) (m2 (.bool (c == 3)) (wt (cd h (fun av h=>?_) (fun av h=>?_))))))
      ·refine cT av (wp_region_lit (fd 1 acO rfl (l1 1 (iI d) e Tya3 (c0 (d == 0) (m1 (.bool (d == 0)) (cd h (fun A h=>?_) (fun A h=>?_)))))))
       ·refine n1 65 A (fd 2 ac7 rfl (n1 65 A (l1 1 (.string b) e Tya9 (n1 65 A ?_))));obtain ⟨aw,bo,h⟩:=ob h;refine cv ([.string b]) azf ((axH k) bo (hG.mono S) aM (pt e)) ?_;rintro _ bX ⟨bp,rfl,aW⟩;have bq:=ca aW e;exact m3 true (.bool aw) (cg A) (m2 (.bool aw) (wpList_nil (blkN (aac (⟨_,bp,0,aw,fR,aW.sub,bq,h⟩)))))
       ·exact o1 65 A (o1 65 A (o1 65 A (m3 false vN (cg A) (m2 vN (wpList_nil (blkN (aac (⟨_,t,0,false,fR,kr,e,h⟩))))))))
      ·refine cF av (sr (c0 (c == 4) (m2 (.bool (c == 4)) (wt (cd h (fun ax h=>?_) (fun ax h=>?_))))))
       ·refine cT ax (wp_region_lit (fd 1 acO rfl (l1 1 (iI d) e Tya3 (c0 (d == 0) (m1 (.bool (d == 0)) (cd h (fun B h=>?_) (fun B h=>?_)))))))
        ·refine n1 75 B (fd 2 ac7 rfl (n1 75 B (l1 1 (.string b) e Tya9 (n1 75 B ?_))));obtain ⟨ay,br,h⟩:=ob h;refine cv ([.string b]) ajg ((afR k) br (hG.mono S) aM (pt e)) ?_;rintro _ bY ⟨bu,rfl,aX⟩;have bv:=ca aX e;exact m3 true (.bool ay) (cg B) (m2 (.bool ay) (wpList_nil (blkN (aac (⟨_,bu,0,ay,fR,aX.sub,bv,h⟩)))))
        ·exact o1 75 B (o1 75 B (o1 75 B (m3 false vN (cg B) (m2 vN (wpList_nil (blkN (aac (⟨_,t,0,false,fR,kr,e,h⟩))))))))
       ·refine cF ax (aax (fun a w=>∃ aY az,a=fr 107 (updL aY [(0,pp g 0),(2,iI i),(4,pp (zz wi) 0),(80,.bool az)])∧SR K t wi w [.box bs g #[iI I,iI J,.bool N] 95] [.box bs g #[iI m,iI o,.bool p] 95,.box (zz wi) (zz wi) (aE c d b u v f x) 33]∧amu k F c d b f i m o p az=some r_) ?_ ?_)
        ·refine sr (c0 (c == 5) (m2 (.bool (c == 5)) (wt (cd h (fun aA h=>?_) (fun aA h=>?_)))))
         ·exact cT aA (wp_skip (aac (⟨_,(c == 5),fR,e,h⟩)))
         ·exact cF aA (wp_region_lit (c0 (c == 6) (m2 (.bool (c == 6)) (wt (⟨_,(c == 6),fR,e,h⟩)))))
        ·rintro _ bZ ⟨aY,az,rfl,V,h⟩;unfold amu at h;refine cd h (fun aB h=>?_) (fun aB h=>?_)
         ·refine cT aB (aax (fun a w=>∃ aZ ad,a=fr 107 (updL aZ [(0,pp g 0),(2,iI i),(4,pp (zz wi) 0),(8,.bool ad)])∧SR K t wi w [.box bs g #[iI I,iI J,.bool N] 95] [.box bs g #[iI m,iI o,.bool p] 95,.box (zz wi) (zz wi) (aE c d b u v f x) 33]∧amW k F f i m o p ad=some r_) ?_ ?_)
          ·refine wp_region_lit (fd 1 acO rfl (l1 1 (iI d) V Tya3 (c0 (d == 0) (m1 (.bool (d == 0)) (cd h (fun C h=>?_) (fun C h=>?_))))))
           ·exact n1 86 C (fd 2 ac7 rfl (n1 86 C (l1 1 (.string b) V Tya9 (n1 86 C (bsc (r:=(seq b ⟨#[]⟩)) rfl rfl rfl (m3 true (.bool (seq b ⟨#[]⟩)) (cg C) (m2 (.bool (seq b ⟨#[]⟩)) (wt (⟨_,(seq b ⟨#[]⟩),fR,V,h⟩)))))))))
           ·exact o1 86 C (o1 86 C (o1 86 C (m3 false vN (cg C) (m2 vN (wt (⟨_,false,fR,V,h⟩))))))
          ·rintro _ b0 ⟨aZ,ad,rfl,bw,h⟩;unfold amW at h;exact wp_region_lit (m2 (iI 1) (wpList_nil (blkN (aac (⟨_,t,1,ad,fR,kr,bw,h⟩)))))
         ·refine cF aB (aax (fun a w=>∃ a0 ae af,a=fr 107 (updL a0 [(0,pp g 0),(2,iI i),(4,pp (zz wi) 0),(8,.bool af)])∧KH.sub t ae∧SR K ae wi w [.box bs g #[iI I,iI J,.bool N] 95] [.box bs g #[iI m,iI o,.bool p] 95,.box (zz wi) (zz wi) (aE c d b u v f x) 33]∧aju k F f i m o p af=some r_) ?_ ?_)
          ·refine wp_region_lit (fd 0 acG rfl (l1 1 (iI c) V Tya3 ?_));obtain ⟨bx,bz,h⟩:=ob h;refine cv ([iI c,iI 7,iI 19]) aet ((acV k) bz (hG.mono S) (pt V)) ?_;rintro _ b1 ⟨aG,rfl,ag⟩;have ab:=ca ag V;refine m1 (.bool bx) (cd h (fun D h=>?_) (fun D h=>?_))
           ·refine n1 30 D (fd 1 acO rfl (n1 30 D (l1 1 (iI d) ab Tya3 (n1 30 D (c0 (d == 0) (m3 true (.bool (d == 0)) (cg D) (m1 (.bool (d == 0)) (cd h (fun G h=>?_) (fun G h=>?_)))))))))
            ·exact n1 35 G (fd 2 ac7 rfl (n1 35 G (l1 1 (.string b) ab Tya9 (n1 35 G (bsc (r:=(seq b ⟨#[]⟩)) rfl rfl rfl (m3 true (.bool (seq b ⟨#[]⟩)) (cg G) (m2 (.bool (seq b ⟨#[]⟩)) (wt (⟨_,aG,(seq b ⟨#[]⟩),fR,ag.sub,ab,h⟩)))))))))
            ·exact o1 35 G (o1 35 G (o1 35 G (m3 false vN (cg G) (m2 vN (wt (⟨_,aG,false,fR,ag.sub,ab,h⟩))))))
           ·exact o1 30 D (o1 30 D (o1 30 D (m3 false vN (cg D) (m1 vN (o0 35 (o0 35 (o0 35 (m3 false vN rfl (m2 vN (wt (⟨_,aG,false,fR,ag.sub,ab,h⟩)))))))))))
          ·rintro _ b2 ⟨a0,ae,af,rfl,bA,bB,h⟩;unfold aju at h;exact wp_region_lit (m2 (iI 2) (wpList_nil (blkN (aac (⟨_,ae,2,af,fR,bA,bB,h⟩)))))
   ·rintro _ b3 ⟨aT,W,U,Z,rfl,a3,X,h⟩;unfold adt at h;refine aax (fun a w=>∃ a4 ah aH aI aJ aK,a=fr 107 (updL a4 [(6,.bool aH)])∧KH.sub W ah∧SR K ah wi w [.box bs g #[iI I,iI J,.bool N] 95] [.box bs g #[iI aI,iI aJ,.bool aK] 95]∧ai8 k F aH aI aJ aK=some r_) ?_ ?_
    ·refine wp_region_lit (m1 (.bool Z) (m1 (.bool Z) (cd h (fun s h=>?_) (fun s h=>?_))))
     ·refine n1 92 s (fd 4 abO rfl (n1 92 s (l1 1 (sl v f x) X abw (n1 92 s (lS f.length aba (n1 92 s (m1 (iI U) (n1 92 s (c0 ((f.length:Int) == U) (m3 true (.bool ((f.length:Int) == U)) (cg s) (m1 (.bool ((f.length:Int) == U)) (cd h (fun l h=>?_) (fun l h=>?_)))))))))))))
      ·refine n1 99 l (m1 (pp g 0) (n1 99 l (fd 4 abO rfl (n1 99 l (l1 1 (sl v f x) X abw (n1 99 l (m1 (iI i) (n1 99 l (bar (r:=(w64 (i + 1))) rfl rfl rfl (n1 99 l ?_))))))))));obtain ⟨⟨⟨bC,bD,bE⟩,aL⟩,bF,h⟩:=ob h;refine cv ([pp g 0,sl v f x,iI (w64 (i + 1))]) av0 (IH72 bF (hG.mono (S.trans a3)) (me a9 (S.trans a3)) (pt X)) ?_;rintro _ b4 ⟨bG,rfl,a5⟩;have bH:=ca a5 X;exact m3 true (.bool aL) (cg l) (m2 (.bool aL) (wt (⟨_,bG,aL,bC,bD,bE,fR,a5.sub,(bH.sel [0]),h⟩)))
      ·exact o1 99 l (o1 99 l (o1 99 l (o1 99 l (o1 99 l (o1 99 l (m3 false vN (cg l) (m2 vN (wt (⟨_,W,false,m,o,p,fR,kr,(X.sel [0]),h⟩)))))))))
     ·exact o1 92 s (o1 92 s (o1 92 s (o1 92 s (o1 92 s (m3 false vN (cg s) (m1 vN (o0 99 (o0 99 (o0 99 (o0 99 (o0 99 (o0 99 (m3 false vN rfl (m2 vN (wt (⟨_,W,false,m,o,p,fR,kr,(X.sel [0]),h⟩))))))))))))))))
    ·rintro _ b5 ⟨a4,ah,aH,aI,aJ,aK,rfl,b6,bI,h⟩;unfold ai8 at h;refine wp_ret ?_;have e_:=(Option.some.inj h).trans hr_;obtain ⟨bJ,bK⟩:=Prod.mk.inj e_;obtain ⟨bL,bM,bN⟩:=aag.mk.inj bJ;subst bL;subst bM;subst bN;subst bK;exact aaw rfl (resT rfl) ⟨ah,rfl,bI⟩
theorem ary (k:Nat) (F:ahn) (IH47:aeD F.f47) (IH72:aeB F.f72):aeB (awd k F):=by
 unfold aeB;intro K wi g bs D G I d O S y aI aJ aK aL h hG U ac;obtain ⟨r_,hr_,h⟩:=rz h;refine enter Tryz.func72 rfl (n:=21) rfl ?_;unfold awd at h;refine sr (m2 vN (wt (wp_seq (sr (m1 (sl O d S) (lS d.length aba (m1 (iI 0) (wt (wp_block (aaz (fun g_ a w=>∃ V x e,∃ (c:Nat),∃ z A B,g_=e.length∧a=fr 21 (updL V [(0,pp g 0),(2,iI y),(9,sl O d S),(10,iI (d.length:Int)),(11,iI (c:Int))])∧KH.sub K x∧SR K x wi w [.box bs g #[iI D,iI G,.bool I] 95] [.box bs g #[iI z,iI A,.bool B] 95]∧d.drop c=e∧ahF k F y e c z A B=some r_) d.length ?_ ?_))))))))))
 ·exact ⟨_,K,d,0,D,G,I,rfl,fR,kr,ac,List.drop_zero,h⟩
 ·rintro _ _ ad ⟨V,x,e,c,z,A,B,rfl,rfl,C,J,f,h⟩;rcases e with _ | ⟨⟨l,m,p,q,s⟩,e⟩
  ·unfold ahF at h;refine sr (bcm (r:=false) rfl rfl (congrArg some (aaq f)) (wt (wp_seq (cndF rfl (wp_exit (aaA (aaA (blkX (aac (sr (m2 vT (wt (wp_ret ?_)))))))))))));have e_:=(Option.some.inj h).trans hr_;obtain ⟨ae,af⟩:=Prod.mk.inj e_;obtain ⟨ag,ah,ai⟩:=aag.mk.inj ae;subst ag;subst ah;subst ai;subst af;exact aaw rfl (resT rfl) ⟨x,rfl,J⟩
  ·unfold ahF at h;refine sr (bcm (r:=true) rfl rfl (congrArg some (aap f)) (wt (wp_seq (cndT rfl (wp_skip (aac (wp_seq (wp_block (sr ?_)))))))));obtain ⟨aj,ak,aM,al,aN,am,an⟩:=((me U C)).row.at_ (aal f);obtain ⟨t,u,rfl,ao,ap⟩:=aan.open an;refine idxN (b:=aj) (o:=ak) (i:=c) aba aaX rfl al rfl (aab f) (lD (vE l m p q t s u) acg aaX rfl (fun j v hj=>J.cell (kr.cell (am j v hj))) (aC zE.toArray J aeQ (fun aP aq=>(sI 0 (.agg (aE l m p q t s u)) ((aE l m p q t s u)) aq aaX rfl rfl (fun ar W=>(wt (sr (m1 (pp g 0) (lN 0 (vE l m p q t s u) W acg aaX (m1 (iI y) ?_))))))))));have X:=p10 W;obtain ⟨⟨⟨au,av,aw⟩,ax⟩,ay,h⟩:=ob h;refine cv ([pp g 0,.agg (aE l m p q t s u),iI y]) aw2 (IH47 ay (hG.mono C) (aan.intro ao ap) (pt X)) ?_;rintro _ aQ ⟨Y,rfl,Z⟩;have ab:=ca Z X;refine uN ax (wt (cd h (fun N h=>?_) (fun N h=>?_)))
   ·refine cT N (sr (m2 vN (wt (wp_ret (blkR (aav (aav (blkR (aav ?_)))))))));have e_:=(Option.some.inj h).trans hr_;obtain ⟨az,aA⟩:=Prod.mk.inj e_;obtain ⟨aB,aG,aH⟩:=aag.mk.inj az;subst aB;subst aG;subst aH;subst aA;exact aaw rfl (resT rfl) ⟨Y,rfl,(ab.sel [0])⟩
   ·exact cF N (wp_skip (blkN (aac (wp_region_lit (bar (r:=((c + 1:Nat):Int)) rfl rfl (aaO (aaS (((me U C)).len) (by decide) (aab f))) (m1 (iI ((c + 1:Nat):Int)) (wt (⟨_,Nat.lt_succ_self _,_,Y,e,c + 1,au,av,aw,rfl,fR,(C.trans Z.sub),(ab.sel [0]),aaj f,h⟩))))))))
theorem an9 (k0:Nat) : ∀ k,aeD (aga k0 k).f47∧aeB (aga k0 k).f72:=by
 intro k;induction k with
 | zero=>exact ⟨(by unfold aeD; intro _ _ _ _ _ _ _ _ _ _ _ _ _ _ h_; cases h_),(by unfold aeB; intro _ _ _ _ _ _ _ _ _ _ _ _ _ _ _ h_; cases h_)⟩
 | succ k ih=>exact ⟨atr k0 (aga k0 k) ih.1 ih.2,ary k0 (aga k0 k) ih.1 ih.2⟩
theorem axE (k:Nat):aeD (f47 k):=(an9 k k).1
theorem at5 (k:Nat):aeB (f72 k):=(an9 k k).2
theorem aqa (k:Nat) (F:ac5) (IH119:ado F.f119) (IH136:adn F.f136) (IH150:adm F.f150):ado (arg k F):=by
 unfold ado;intro K wi g bs ac ad ae d ah ai W a6 a7 a8 a9 h hG aj aq;obtain ⟨r_,hr_,h⟩:=rz h;refine enter Tryz.func119 rfl (n:=21) rfl ?_;unfold arg at h;refine sr (m2 vN (wt (wp_seq (sr (m1 (sl ah d ai) (lS d.length aa5 (m1 (iI 0) (wt (wp_block (aaz (fun g_ a w=>∃ ak V e,∃ (c:Nat),∃ X Y Z,g_=e.length∧a=fr 21 (updL ak [(0,pp g 0),(2,iI W),(9,sl ah d ai),(10,iI (d.length:Int)),(11,iI (c:Int))])∧KH.sub K V∧SR K V wi w [.box bs g #[iI ac,iI ad,.bool ae] 95] [.box bs g #[iI X,iI Y,.bool Z] 95]∧d.drop c=e∧afo k F W e c X Y Z=some r_) d.length ?_ ?_))))))))))
 ·exact ⟨_,K,d,0,ac,ad,ae,rfl,fR,kr,aq,List.drop_zero,h⟩
 ·rintro _ _ ar ⟨ak,V,e,c,X,Y,Z,rfl,rfl,ab,af,f,h⟩;rcases e with _ | ⟨⟨l,m,p,q,s,t,u,x,y,z,A⟩,e⟩
  ·unfold afo at h;refine sr (bcm (r:=false) rfl rfl (congrArg some (aaq f)) (wt (wp_seq (cndF rfl (wp_exit (aaA (aaA (blkX (aac (sr (m2 vT (wt (wp_ret ?_)))))))))))));have e_:=(Option.some.inj h).trans hr_;obtain ⟨au,av⟩:=Prod.mk.inj e_;obtain ⟨aw,ax,ay⟩:=aag.mk.inj au;subst aw;subst ax;subst ay;subst av;exact aaw rfl (resT rfl) ⟨V,rfl,af⟩
  ·unfold afo at h;refine sr (bcm (r:=true) rfl rfl (congrArg some (aap f)) (wt (wp_seq (cndT rfl (wp_skip (aac (wp_seq (wp_block (sr ?_)))))))));obtain ⟨az,aA,ba,aB,bb,aG,aH⟩:=((ms aj ab)).row.at_ (aal f);obtain ⟨B,C,D,G,I,J,N,O,S,U,rfl,aI,aJ,aK,aL,aM,aN,aP⟩:=aai.open aH;refine idxN (b:=az) (o:=aA) (i:=c) aa5 aaM rfl aB rfl (aab f) (lD (vS l m p q s t B u C D x G I y J N z O S A U) abX aaM rfl (fun j v hj=>af.cell (kr.cell (aG j v hj))) (aC zS.toArray af acI (fun bd aQ=>(sI 0 (.agg (aS l m p q s t B u C D x G I y J N z O S A U)) ((aS l m p q s t B u C D x G I y J N z O S A U)) aQ aaM rfl rfl (fun aT al=>(wt (sr (m1 (pp g 0) (lN 0 (vS l m p q s t B u C D x G I y J N z O S A U) al abX aaM (m1 (iI W) ?_))))))))));have am:=p10 al;obtain ⟨⟨⟨aU,aV,aW⟩,aX⟩,aY,h⟩:=ob h;refine cv ([pp g 0,.agg (aS l m p q s t B u C D x G I y J N z O S A U),iI W]) awY (IH136 aY (hG.mono ab) (aai.intro aI aJ aK aL aM aN aP) (pt am)) ?_;rintro _ be ⟨an,rfl,ao⟩;have ap:=ca ao am;refine uN aX (wt (cd h (fun ag h=>?_) (fun ag h=>?_)))
   ·refine cT ag (sr (m2 vN (wt (wp_ret (blkR (aav (aav (blkR (aav ?_)))))))));have e_:=(Option.some.inj h).trans hr_;obtain ⟨aZ,a0⟩:=Prod.mk.inj e_;obtain ⟨a3,a4,a5⟩:=aag.mk.inj aZ;subst a3;subst a4;subst a5;subst a0;exact aaw rfl (resT rfl) ⟨an,rfl,(ap.sel [0])⟩
   ·exact cF ag (wp_skip (blkN (aac (wp_region_lit (bar (r:=((c + 1:Nat):Int)) rfl rfl (aaO (aaS (((ms aj ab)).len) (by decide) (aab f))) (m1 (iI ((c + 1:Nat):Int)) (wt (⟨_,Nat.lt_succ_self _,_,an,e,c + 1,aU,aV,aW,rfl,fR,(ab.trans ao.sub),(ap.sel [0]),aaj f,h⟩))))))))
end Go.Proofs.YtoegpkmhifmamaaGreatDoor
