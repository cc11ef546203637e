/- Words of the same proof, part 3: what the last text needs; nothing is claimed here. -/
import Derived.Test.YtoegpkmhifmamaaGreatDoorU2
set_option linter.unusedVariables false
set_option linter.unusedSimpArgs false
namespace Go.Proofs.YtoegpkmhifmamaaGreatDoor
open Go
def agm (k:Nat)  : LC→Nat→(List LS)→Option (List LS)
 | [],b,a=>(some a)
 | (.mk e f g h c) :: d,b,a=>(aaW (decide ((a.length + 1) * 24 ≤ 140737488355328)) ((agm k d) (b + 1) (a ++ [c])))
def aqI (k:Nat):aag→Option (List LS):=fun a =>
 match a with
 | .mk f g h i j l m b c d e=>(agm k e 0 [b,c,d])
def f92 (k:Nat):aag→Option (List LS):=aqI k
structure aeK where
 f63:LS→Option Bool
 f90:aag→Option Bool
 f1004261:LS→Option Bool
 f1006261:LS→Option Int
 f1009184:(List LS)→Option Bool
 f1010784:(List LS)→Option Int
def asn (k:Nat) (F:aeK):LS→Option Bool:=fun a=>((F.f1004261 a).bind fun b=>(some b))
def ahV (k:Nat) (F:aeK) (a:Bool):Option Bool:=(some a)
def akP (k:Nat) (F:aeK) (a:Int) (c:BA) (d:Int) (e:BA) (f:Int) (b:Int) (g:LE) (h:LS) (i:LS) (j:LS) (l:LC) (m:Bool):Option Bool:=(cond m (some false) (cond (a == 18) (ahV k F true) (cond (a == 6) (cond (b == 1) (ahV k F true) ((f92 k (aag.mk a c d e f b g h i j l)).bind fun n=>((F.f1009184 n).bind fun o=>(ahV k F o)))) ((f92 k (aag.mk a c d e f b g h i j l)).bind fun p=>((F.f1009184 p).bind fun q=>(ahV k F q))))))
def aop (k:Nat) (F:aeK):aag→Option Bool:=fun m =>
 match m with
 | .mk a b c d e f g h i j l=>(cond (a == 21) (akP k F a b c d e f g h i j l true) (akP k F a b c d e f g h i j l (a == 28)))
def afM (k:Nat) (F:aeK):LS→Option Bool:=fun a=>((F.f1006261 a).bind fun b=>(some (decide (b ≥ 0))))
def acd (k:Nat) (F:aeK)  : LS→Nat→Option Int
 | [],a=>(some (-1))
 | (.mk b c d e f g h i j l m) :: n,a=>((F.f90 (aag.mk b c d e f g h i j l m)).bind fun o=>(cond o (some (a:Int)) ((acd k F n) (a + 1))))
def af3 (k:Nat) (F:aeK):LS→Option Int:=fun a=>(acd k F a 0)
def agc (k:Nat) (F:aeK):(List LS)→Option Bool:=fun a=>((F.f1010784 a).bind fun b=>(some (decide (b ≥ 0))))
def acp (k:Nat) (F:aeK)  : List LS→Nat→Option Int
 | [],a=>(some (-1))
 | b :: c,a=>((F.f63 b).bind fun d=>(cond d (some (a:Int)) ((acp k F c) (a + 1))))
def afQ (k:Nat) (F:aeK):(List LS)→Option Int:=fun a=>(acp k F a 0)
def acf (k0:Nat):Nat→aeK
 | 0=>{ f63:=fun _=>none,f90:=fun _=>none,f1004261:=fun _=>none,f1006261:=fun _=>none,f1009184:=fun _=>none,f1010784:=fun _=>none }
 | k + 1=>{ f63:=asn k0 (acf k0 k),f90:=aop k0 (acf k0 k),f1004261:=afM k0 (acf k0 k),f1006261:=af3 k0 (acf k0 k),f1009184:=agc k0 (acf k0 k),f1010784:=afQ k0 (acf k0 k) }
def f63 (k:Nat):LS→Option Bool:=(acf k k).f63
def f90 (k:Nat):aag→Option Bool:=(acf k k).f90
def f1004261 (k:Nat):LS→Option Bool:=(acf k k).f1004261
def f1006261 (k:Nat):LS→Option Int:=(acf k k).f1006261
def f1009184 (k:Nat):(List LS)→Option Bool:=(acf k k).f1009184
def f1010784 (k:Nat):(List LS)→Option Int:=(acf k k).f1010784
structure acQ where
 f24:LS→Option Bool
 f43:aag→Option Bool
 f65:aaz→Option Bool
 f1004205:LS→Option Bool
 f1006205:LS→Option Int
 f1006449:LC→Option Bool
 f1009382:LC→Unit→Option Bool
 f1009447:aaz→Unit→Option Bool
 f1010882:LC→Unit→Option Int
def asy (k:Nat) (F:acQ):LS→Option Bool:=fun a=>((F.f1004205 a).bind fun b=>(some b))
def aix (k:Nat) (F:acQ) (a:Bool):Option Bool:=(some a)
def aig (k:Nat) (F:acQ) (a:Bool):Option Bool:=(some a)
def agW (k:Nat) (F:acQ) (a:Bool):Option Bool:=(some a)
def aiy (k:Nat) (F:acQ) (a:Int) (c:Int) (b:LS) (d:LS) (e:LS) (f:LC) (g:Bool):Option Bool:=(cond g ((F.f24 b).bind fun h=>(some h)) (cond (a == 24) ((F.f24 e).bind fun i=>(cond i (agW k F true) ((F.f24 b).bind fun j=>(cond j (cond ((IntKind.i64.wrap (BitVec.ofInt IntKind.i64.bits c &&& BitVec.ofInt IntKind.i64.bits 1).toNat) == 0) (agW k F true) ((F.f24 d).bind fun l=>(agW k F l))) (agW k F false))))) (cond (a == 27) ((F.f1006449 f).bind fun m=>(some m)) (some false))))
def ahI (k:Nat) (F:acQ) (a:Int) (c:Int) (g:LE) (b:LS) (d:LS) (e:LS) (f:LC) (h:Bool):Option Bool:=(cond h (some true) (cond (a == 20) (cond (c == 1) ((F.f24 b).bind fun i=>(cond i ((F.f24 d).bind fun j=>(aix k F j)) (aix k F false))) (aix k F false)) (cond (a == 21) ((idxO g 0).bind fun q_=>match q_ with | .mk l m o p q=>(cond (l == 2) (cond (m == 1) ((f63 k b).bind fun n=>(aig k F (!n))) (aig k F false)) (aig k F false))) (cond (a == 23) (aiy k F a c b d e f (a == 23)) (cond (a == 25) (aiy k F a c b d e f (a == 25)) (aiy k F a c b d e f (a == 26)))))))
def aoy (k:Nat) (F:acQ):aag→Option Bool:=fun h =>
 match h with
 | .mk a i j l m b c d e f g=>(cond (a == 17) (ahI k F a b c d e f g (a == 17)) (cond (a == 15) (ahI k F a b c d e f g (a == 15)) (cond (a == 18) (ahI k F a b c d e f g (a == 18)) (ahI k F a b c d e f g (a == 19)))))
def asL (k:Nat) (F:acQ):aaz→Option Bool:=fun a =>
 match a with
 | .mk d e f g b=>((F.f24 b).bind fun c=>(some c))
def af9 (k:Nat) (F:acQ):LS→Option Bool:=fun a=>((F.f1006205 a).bind fun b=>(some (decide (b ≥ 0))))
def ab9 (k:Nat) (F:acQ)  : LS→Nat→Option Int
 | [],a=>(some (-1))
 | (.mk b c d e f g h i j l m) :: n,a=>((F.f43 (aag.mk b c d e f g h i j l m)).bind fun o=>(cond o (some (a:Int)) ((ab9 k F n) (a + 1))))
def af4 (k:Nat) (F:acQ):LS→Option Int:=fun a=>(ab9 k F a 0)
def age (k:Nat) (F:acQ):LC→Option Bool:=fun a=>((F.f1009382 a ()).bind fun b=>(some (!b)))
def afN (k:Nat) (F:acQ):LC→Unit→Option Bool:=fun a _=>((F.f1010882 a ()).bind fun b=>(some (decide (b ≥ 0))))
def af6 (k:Nat) (F:acQ):aaz→Unit→Option Bool:=fun a b =>
 match a,b with
 | .mk c d e f g,_=>((F.f65 (aaz.mk c d e f g)).bind fun h=>(some (!h)))
def ab6 (k:Nat) (F:acQ)  : LC→Nat→Option Int
 | [],a=>(some (-1))
 | (.mk b c d e f) :: g,a=>((F.f1009447 (aaz.mk b c d e f) ()).bind fun h=>(cond h (some (a:Int)) ((ab6 k F g) (a + 1))))
def afW (k:Nat) (F:acQ):LC→Unit→Option Int:=fun a _=>(ab6 k F a 0)
def abt (k0:Nat):Nat→acQ
 | 0=>{ f24:=fun _=>none,f43:=fun _=>none,f65:=fun _=>none,f1004205:=fun _=>none,f1006205:=fun _=>none,f1006449:=fun _=>none,f1009382:=fun _ _=>none,f1009447:=fun _ _=>none,f1010882:=fun _ _=>none }
 | k + 1=>{ f24:=asy k0 (abt k0 k),f43:=aoy k0 (abt k0 k),f65:=asL k0 (abt k0 k),f1004205:=af9 k0 (abt k0 k),f1006205:=af4 k0 (abt k0 k),f1006449:=age k0 (abt k0 k),f1009382:=afN k0 (abt k0 k),f1009447:=af6 k0 (abt k0 k),f1010882:=afW k0 (abt k0 k) }
def f24 (k:Nat):LS→Option Bool:=(abt k k).f24
def f43 (k:Nat):aag→Option Bool:=(abt k k).f43
def f65 (k:Nat):aaz→Option Bool:=(abt k k).f65
def f1004205 (k:Nat):LS→Option Bool:=(abt k k).f1004205
def f1006205 (k:Nat):LS→Option Int:=(abt k k).f1006205
def f1006449 (k:Nat):LC→Option Bool:=(abt k k).f1006449
def f1009382 (k:Nat):LC→Unit→Option Bool:=(abt k k).f1009382
def f1009447 (k:Nat):aaz→Unit→Option Bool:=(abt k k).f1009447
def f1010882 (k:Nat):LC→Unit→Option Int:=(abt k k).f1010882
def agu (k:Nat)  : LP→Nat→(List Int)→Option (List Int)
 | [],b,a=>(some a)
 | (.mk e c) :: d,b,a=>(aaW (decide ((a.length + 1) * 8 ≤ 140737488355328)) ((agu k d) (b + 1) (a ++ [c])))
def apm (k:Nat):aaf→Option (List Int):=fun a =>
 match a with
 | .mk c b d e f g=>(agu k b 0 ([]:List Int))
def f26 (k:Nat):aaf→Option (List Int):=apm k
def asR (k:Nat):Bool→Int→Option (Except Int Unit):=fun a b=>(cond (!a) (some (.error b)) (some (.ok ())))
def f77 (k:Nat):Bool→Int→Option (Except Int Unit):=asR k
def an3 (k:Nat):Option (List (Int × aaC)):=(some (mput qI 29 (aaC.mk 0 false 1 1 false) (mput qI 28 (aaC.mk 1 true 0 601 true) (mput qI 27 (aaC.mk 0 false 0 0 false) (mput qI 26 (aaC.mk 0 false 1 1 true) (mput qI 25 (aaC.mk 1 false 1 1 true) (mput qI 24 (aaC.mk 2 false 0 0 true) (mput qI 23 (aaC.mk 0 false 0 0 true) (mput qI 22 (aaC.mk 0 false 0 1 true) (mput qI 21 (aaC.mk 0 false 1 1 true) (mput qI 20 (aaC.mk 0 false 1 1 true) (mput qI 19 (aaC.mk 0 false 0 0 false) (mput qI 18 (aaC.mk 0 false 0 0 false) (mput qI 17 (aaC.mk 0 false 0 1 false) (mput qI 16 (aaC.mk 0 false 1 1 false) (mput qI 15 (aaC.mk 0 false 1 1 false) (mput qI 14 (aaC.mk 0 false 1 1 false) (mput qI 13 (aaC.mk 0 false 0 0 false) (mput qI 12 (aaC.mk 0 false 1 1 false) (mput qI 11 (aaC.mk 0 false 1 1 false) (mput qI 10 (aaC.mk 0 false 2 2 false) (mput qI 9 (aaC.mk 1 false 0 0 false) (mput qI 8 (aaC.mk 1 false 1 1 false) (mput qI 7 (aaC.mk 1 false 1 1 false) (mput qI 6 (aaC.mk 2 false 1 1 false) (mput qI 5 (aaC.mk 2 false 1 1 false) (mput qI 4 (aaC.mk 2 true 0 601 false) (mput qI 3 (aaC.mk 2 true 0 601 false) (mput qI 2 (aaC.mk 1 false 1 1 false) (mput qI 1 (aaC.mk 1 false 1 1 false) ([]:List (Int × aaC))))))))))))))))))))))))))))))))
def f148 (k:Nat):Option (List (Int × aaC)):=an3 k
def akn (k:Nat) (a:Bool):Option Bool:=(some a)
def aqj (k:Nat):Int→Int→Int→Option Bool:=fun a b c=>(cond (decide (a ≥ b)) (akn k (decide (a ≤ c))) (akn k false))
def f69 (k:Nat):Int→Int→Int→Option Bool:=aqj k
def ad7 (k:Nat) (a:Bool):Option Bool:=(some a)
def acL (k:Nat) (c:LS) (a:LS) (d:Bool) (b:Bool) (e:Bool):Option Bool:=(cond e (cond d (cond b (ad7 k true) (ad7 k ((a.length:Int) == 0))) (cond ((c.length:Int) == 0) (cond b (ad7 k true) (ad7 k ((a.length:Int) == 0))) (ad7 k false))) (ad7 k false))
def ahu (k:Nat) (a:Int) (b:LS) (c:LS) (d:Bool):Option Bool:=(acL k b c ((IntKind.i64.wrap (BitVec.ofInt IntKind.i64.bits a &&& BitVec.ofInt IntKind.i64.bits 1).toNat) == 1) ((IntKind.i64.wrap (BitVec.ofInt IntKind.i64.bits a &&& BitVec.ofInt IntKind.i64.bits 2).toNat) == 2) d)
def amm (k:Nat):aag→Option Bool:=fun f =>
 match f with
 | .mk d e n o p a q r b c s=>(cond (d == 6) ((f69 k a 0 1).bind fun g=>(cond g (cond (a == 0) (acL k b c false false true) (acL k b c false false (!seq e ⟨#[]⟩))) (acL k b c false false false))) (cond (d == 7) ((f69 k a 0 2).bind fun h=>(acL k b c false false h)) (cond (d == 22) ((f69 k a 0 1).bind fun i=>(acL k b c false false i)) (cond (d == 20) ((f69 k a 0 1).bind fun j=>(acL k b c (a == 1) false j)) (cond (d == 24) ((f69 k a 1 3).bind fun l=>(cond l (ahu k a b c ((!seq e ⟨#[]⟩) == ((IntKind.i64.wrap (BitVec.ofInt IntKind.i64.bits a &&& BitVec.ofInt IntKind.i64.bits 1).toNat) == 1))) (ahu k a b c false))) (cond (d == 28) ((f69 k a 0 66).bind fun m=>(cond m (acL k b c false false (decide ((a.tmod 4) < 3))) (acL k b c false false false))) (acL k b c false false (a == 0))))))))
def f149 (k:Nat):aag→Option Bool:=amm k
def akL (k:Nat) (a:Int) (b:Int) (c:Bool) (d:Int) (e:Bool):Option (aac × Bool):=(some ((aac.mk (w64 (a + 1)) (imax b d) c),e))
def apf (k:Nat):aac→Int→Option (aac × Bool):=fun e a =>
 match e,a with
 | .mk b c d,a=>(cond (decide ((w64 (b + 1)) ≤ 600)) (akL k b c d a (decide (a ≤ 16))) (akL k b c d a false))
def f68 (k:Nat):aac→Int→Option (aac × Bool):=apf k
def ahU (k:Nat) (a:Bool):Option Bool:=(some a)
def ams (k:Nat):Int→Option Bool:=fun a=>(cond (decide (a ≥ 97)) (ahU k (decide (a ≤ 122))) (ahU k false))
def f115 (k:Nat):Int→Option Bool:=ams k
def ahM (k:Nat) (a:Bool):Option Bool:=(some a)
def al5 (k:Nat):Int→Option Bool:=fun a=>(cond (decide (a ≥ 48)) (ahM k (decide (a ≤ 57))) (ahM k false))
def f116 (k:Nat):Int→Option Bool:=al5 k
def ah9 (k:Nat) (a:Nat) (b:Bool) (nx1:Nat→Option Bool):Option Bool:=(cond b (some false) (nx1 (a + 1)))
def aeH (k:Nat) (b:BA):List UInt8→Nat→Option Bool
 | [],a=>(some (!seq b ⟨#[]⟩))
 | d :: c,a=>((f115 k (d.toNat:Int)).bind fun e=>(cond (!e) (cond ((a:Int) == 0) (ah9 k a true (aeH k b c)) ((f116 k (d.toNat:Int)).bind fun f=>(ah9 k a (!f) (aeH k b c)))) (ah9 k a false (aeH k b c))))
def aqK (k:Nat):BA→Option Bool:=fun a=>(aeH k a a.data.toList 0)
def f96 (k:Nat):BA→Option Bool:=aqK k
def afe (k:Nat) (b:BA):LB→Nat→Option Int
 | [],a=>(some (-1))
 | c :: d,a=>(cond (seq b c) (some (a:Int)) ((afe k b d) (a + 1)))
def amL (k:Nat):LB→BA→Option Int:=fun a b=>(afe k b a 0)
def f134 (k:Nat):LB→BA→Option Int:=amL k
def aml (k:Nat):LB→BA→Option Bool:=fun a b=>((f134 k a b).bind fun c=>(some (decide (c ≥ 0))))
def f117 (k:Nat):LB→BA→Option Bool:=aml k
def adl:LB:=[⟨#[97,102,116,101,114]⟩,⟨#[97,119,97,105,116]⟩,⟨#[98,111,111,108]⟩,⟨#[98,114,101,97,107]⟩,⟨#[98,117,102,102,101,114]⟩,⟨#[99,97,110,99,101,108]⟩,⟨#[99,97,116,99,104]⟩,⟨#[99,104,97,110]⟩,⟨#[99,108,111,115,101]⟩,⟨#[99,111,110,116,105,110,117,101]⟩,⟨#[100,114,111,112]⟩,⟨#[101,97,99,104]⟩,⟨#[101,108,115,101]⟩,⟨#[101,109,105,116]⟩,⟨#[102,97,108,115,101]⟩,⟨#[102,105,110,97,108,108,121]⟩,⟨#[102,108,111,119]⟩,⟨#[102,110]⟩,⟨#[102,114,111,109]⟩,⟨#[104,111,108,100]⟩,⟨#[105,102]⟩,⟨#[105,110,116]⟩,⟨#[108,101,116]⟩,⟨#[108,111,99,107]⟩,⟨#[110,101,119]⟩,⟨#[110,111,119]⟩,⟨#[111,108,100]⟩,⟨#[112,114,111,100,117,99,101]⟩,⟨#[114,101,99,101,105,118,101]⟩,⟨#[114,101,116,117,114,110]⟩,⟨#[115,99,111,112,101]⟩,⟨#[115,101,108,101,99,116]⟩,⟨#[115,101,110,100]⟩,⟨#[115,104,105,101,108,100]⟩,⟨#[115,108,101,101,112]⟩,⟨#[115,112,97,119,110]⟩,⟨#[115,117,112,101,114,118,105,115,101,100]⟩,⟨#[116,97,115,107]⟩,⟨#[116,101,120,116]⟩,⟨#[116,104,114,111,119]⟩,⟨#[116,114,117,101]⟩,⟨#[116,114,121]⟩,⟨#[117,115,101]⟩,⟨#[119,104,105,108,101]⟩,⟨#[119,105,116,104,105,110]⟩,⟨#[121,105,101,108,100]⟩]
def f118 (k:Nat):Option LB:=some adl
def apn (k:Nat):BA→Option Bool:=fun a=>((f118 k ).bind fun b=>((f117 k b a).bind fun c=>(some c)))
def f97 (k:Nat):BA→Option Bool:=apn k
def ait (k:Nat) (a:Bool):Option Bool:=(some a)
def apa (k:Nat):BA→Option Bool:=fun a=>((f96 k a).bind fun b=>(cond b (cond (decide ((a.size:Int) ≤ 12)) ((f97 k a).bind fun c=>(ait k (!c))) (ait k false)) (ait k false)))
def f71 (k:Nat):BA→Option Bool:=apa k
def ahz (k:Nat) (a:Nat) (b:Bool) (nx1:Nat→Option Bool):Option Bool:=(cond b (some false) (nx1 (a + 1)))
def adS (k:Nat) (a:BA):List UInt8→Nat→Option Bool
 | [],b=>(some (decide ((a.size:Int) ≤ 60)))
 | c :: d,b=>(cond (decide ((c.toNat:Int) < 32)) (ahz k b true (adS k a d)) (ahz k b (decide ((c.toNat:Int) > 126)) (adS k a d)))
def as8 (k:Nat):BA→Option Bool:=fun a=>(adS k a a.data.toList 0)
def f66 (k:Nat):BA→Option Bool:=as8 k
def f70 (k:Nat):BA→Option Bool:=fun a=>f66 k a
structure afK where
 f47:aac→aal→Int→Option (aac × Bool)
 f72:aac→LE→Int→Option (aac × Bool)
def ahG (k:Nat) (F:afK) (a:Bool) (b:Int) (c:Int) (d:Bool):Option (aac × Bool):=(some ((aac.mk b c d),a))
def ac2 (k:Nat) (F:afK) (d:LE) (e:Int) (a:Int) (b:Int) (c:Bool) (f:Int) (g:Bool):Option (aac × Bool):=(cond g (cond ((d.length:Int) == f) ((F.f72 (aac.mk a b c) d (w64 (e + 1))).bind fun q_=>match q_ with | (.mk h i j,l)=>(ahG k F l h i j)) (ahG k F false a b c)) (ahG k F false a b c))
def akI (k:Nat) (F:afK) (a:LE) (b:Int) (c:Int) (d:Int) (e:Bool) (f:Bool):Option (aac × Bool):=(ac2 k F a b c d e 1 f)
def aiz (k:Nat) (F:afK) (a:LE) (b:Int) (c:Int) (d:Int) (e:Bool) (f:Bool):Option (aac × Bool):=(ac2 k F a b c d e 2 f)
def akZ (k:Nat) (F:afK) (h:Int) (f:Int) (g:BA) (a:LE) (b:Int) (c:Int) (d:Int) (e:Bool) (i:Bool):Option (aac × Bool):=(cond i (cond (f == 0) (akI k F a b c d e (seq g ⟨#[]⟩)) (akI k F a b c d e false)) ((f69 k h 7 19).bind fun j=>(cond j (cond (f == 0) (aiz k F a b c d e (seq g ⟨#[]⟩)) (aiz k F a b c d e false)) (aiz k F a b c d e false))))
def agl (k:Nat) (F:afK) (f:Int) (g:Int) (h:BA) (d:LE) (e:Int) (a:Int) (b:Int) (c:Bool) (i:Bool):Option (aac × Bool):=(cond i (some ((aac.mk a b c),false)) (cond (f == 1) ((f69 k g 0 1000000000000).bind fun j=>(cond j (ac2 k F d e a b c 0 (seq h ⟨#[]⟩)) (ac2 k F d e a b c 0 false))) (cond (f == 2) ((f69 k g 0 1).bind fun l=>(cond l (ac2 k F d e a b c 0 (seq h ⟨#[]⟩)) (ac2 k F d e a b c 0 false))) (cond (f == 3) (cond (g == 0) ((f70 k h).bind fun m=>(ac2 k F d e a b c 0 m)) (ac2 k F d e a b c 0 false)) (cond (f == 4) (cond (g == 0) ((f71 k h).bind fun n=>(ac2 k F d e a b c 0 n)) (ac2 k F d e a b c 0 false)) (cond (f == 5) (akZ k F f g h d e a b c (f == 5)) (akZ k F f g h d e a b c (f == 6))))))))
def aoV (k:Nat) (F:afK):aac→aal→Int→Option (aac × Bool):=fun i j a =>
 match i,j,a with
 | .mk l m n,.mk c d e o f,a=>((f68 k (aac.mk l m n) a).bind fun q_=>match q_ with | (.mk g h b,p)=>(cond (!p) (agl k F c d e f a g h b true) (cond (o != 0) (agl k F c d e f a g h b (!b)) (agl k F c d e f a g h b false))))
def agt (k:Nat) (F:afK) (d:Int):LE→Nat→Int→Int→Bool→Option (aac × Bool)
 | [],e,a,b,c=>(some ((aac.mk a b c),true))
 | (.mk i j l m n) :: o,e,a,b,c=>((F.f47 (aac.mk a b c) (aal.mk i j l m n) d).bind fun q_=>match q_ with | (.mk f g h,p)=>(cond (!p) (some ((aac.mk f g h),false)) ((agt k F d o) (e + 1) f g h)))
def as9 (k:Nat) (F:afK):aac→LE→Int→Option (aac × Bool):=fun c a b =>
 match c,a,b with
 | .mk d e f,a,b=>(agt k F b a 0 d e f)
def afd (k0:Nat):Nat→afK
 | 0=>{ f47:=fun _ _ _=>none,f72:=fun _ _ _=>none }
 | k + 1=>{ f47:=aoV k0 (afd k0 k),f72:=as9 k0 (afd k0 k) }
def f47 (k:Nat):aac→aal→Int→Option (aac × Bool):=(afd k k).f47
def f72 (k:Nat):aac→LE→Int→Option (aac × Bool):=(afd k k).f72
structure acD where
 f119:aac→LS→Int→Option (aac × Bool)
 f136:aac→aag→Int→Option (aac × Bool)
 f150:aac→aaz→Int→Option (aac × Bool)
def aeB (k:Nat) (F:acD) (d:Int):LS→Nat→Int→Int→Bool→Option (aac × Bool)
 | [],e,a,b,c=>(some ((aac.mk a b c),true))
 | (.mk i j l m n o p q r s t) :: u,e,a,b,c=>((F.f136 (aac.mk a b c) (aag.mk i j l m n o p q r s t) d).bind fun q_=>match q_ with | (.mk f g h,v)=>(cond (!v) (some ((aac.mk f g h),false)) ((aeB k F d u) (e + 1) f g h)))
def anm (k:Nat) (F:acD):aac→LS→Int→Option (aac × Bool):=fun c a b =>
 match c,a,b with
 | .mk d e f,a,b=>(aeB k F b a 0 d e f)
def agb (k:Nat) (F:acD) (a:Bool) (b:Int) (c:Int) (d:Bool):Option (aac × Bool):=(some ((aac.mk b c d),a))
def af0 (k:Nat) (F:acD) (d:Nat) (a:Int) (b:Int) (c:Bool) (e:Bool) (nx1:Nat→Int→Int→Bool→Option (aac × Bool)):Option (aac × Bool):=(cond e (some ((aac.mk a b c),false)) (nx1 (d + 1) a b c))
def aci (k:Nat) (F:acD) (f:LE) (g:LS) (h:LS) (i:LS) (j:LC) (a:Int):LC→Nat→Int→Int→Bool→Option (aac × Bool)
 | [],b,c,d,e=>((f72 k (aac.mk c d e) f (w64 (a + 1))).bind fun q_=>match q_ with | (.mk n o p,A)=>(cond A ((F.f119 (aac.mk n o p) g (w64 (a + 1))).bind fun q_=>match q_ with | (.mk q r s,B)=>(cond B ((F.f119 (aac.mk q r s) h (w64 (a + 1))).bind fun q_=>match q_ with | (.mk t u v,C)=>(cond C ((F.f119 (aac.mk t u v) i (w64 (a + 1))).bind fun q_=>match q_ with | (.mk D G I,J)=>(agb k F J D G I)) (agb k F false t u v))) (agb k F false q r s))) (agb k F false n o p)))
 | (.mk l w x y z) :: m,b,c,d,e=>(cond (l == 4) (cond (decide ((b:Int) < (w64 ((j.length:Int) - 1)))) (af0 k F b c d e true (aci k F f g h i j a m)) ((F.f150 (aac.mk c d e) (aaz.mk l w x y z) (w64 (a + 1))).bind fun q_=>match q_ with | (.mk N O S,U)=>(af0 k F b N O S (!U) (aci k F f g h i j a m)))) ((F.f150 (aac.mk c d e) (aaz.mk l w x y z) (w64 (a + 1))).bind fun q_=>match q_ with | (.mk V W X,Y)=>(af0 k F b V W X (!Y) (aci k F f g h i j a m))))
def acv (k:Nat) (F:acD) (e:LE) (f:LS) (g:LS) (h:LS) (a:LC) (i:Int) (b:Int) (c:Int) (d:Bool) (j:Bool):Option (aac × Bool):=(cond j (some ((aac.mk b c d),false)) (aci k F e f g h a i a 0 b c d))
def abB (k:Nat) (F:acD) (j:Int) (b:LE) (c:LS) (g:LS) (h:LS) (a:LC) (i:Int) (l:Int) (m:Int) (n:Bool) (d:Int) (e:Int) (f:Bool) (o:Bool):Option (aac × Bool):=(cond o (some ((aac.mk d e f),false)) ((f69 k (b.length:Int) l m).bind fun p=>(cond (!p) (acv k F b c g h a i d e f true) (cond (!n) (cond (decide ((c.length:Int) > 0)) (acv k F b c g h a i d e f true) (cond (j != 27) (cond (decide ((a.length:Int) > 0)) (acv k F b c g h a i d e f true) (cond (j == 27) ((f69 k (a.length:Int) 1 4).bind fun q=>(acv k F b c g h a i d e f (!q))) (acv k F b c g h a i d e f false))) (cond (j == 27) ((f69 k (a.length:Int) 1 4).bind fun r=>(acv k F b c g h a i d e f (!r))) (acv k F b c g h a i d e f false)))) (cond (j != 27) (cond (decide ((a.length:Int) > 0)) (acv k F b c g h a i d e f true) (cond (j == 27) ((f69 k (a.length:Int) 1 4).bind fun s=>(acv k F b c g h a i d e f (!s))) (acv k F b c g h a i d e f false))) (cond (j == 27) ((f69 k (a.length:Int) 1 4).bind fun t=>(acv k F b c g h a i d e f (!t))) (acv k F b c g h a i d e f false)))))))
def adp (k:Nat) (F:acD) (d:Int) (q:BA) (o:BA) (e:LE) (f:LS) (g:LS) (h:LS) (i:LC) (j:Int) (r:Int) (p:Bool) (l:Int) (m:Int) (n:Bool) (a:Int) (b:Int) (c:Bool) (s:Bool):Option (aac × Bool):=(cond s (some ((aac.mk a b c),false)) (cond (!seq q ⟨#[]⟩) (cond (r == 0) (abB k F d e f g h i j l m n a b c true) ((f71 k q).bind fun t=>(cond (!t) (abB k F d e f g h i j l m n a b c true) (cond (!(!seq q ⟨#[]⟩)) (cond (r == 1) (abB k F d e f g h i j l m n a b c true) (cond (!((!seq o ⟨#[]⟩) == p)) (abB k F d e f g h i j l m n a b c true) (cond p ((f71 k o).bind fun u=>(abB k F d e f g h i j l m n a b c (!u))) (abB k F d e f g h i j l m n a b c false)))) (cond (!((!seq o ⟨#[]⟩) == p)) (abB k F d e f g h i j l m n a b c true) (cond p ((f71 k o).bind fun v=>(abB k F d e f g h i j l m n a b c (!v))) (abB k F d e f g h i j l m n a b c false))))))) (cond (!(!seq q ⟨#[]⟩)) (cond (r == 1) (abB k F d e f g h i j l m n a b c true) (cond (!((!seq o ⟨#[]⟩) == p)) (abB k F d e f g h i j l m n a b c true) (cond p ((f71 k o).bind fun w=>(abB k F d e f g h i j l m n a b c (!w))) (abB k F d e f g h i j l m n a b c false)))) (cond (!((!seq o ⟨#[]⟩) == p)) (abB k F d e f g h i j l m n a b c true) (cond p ((f71 k o).bind fun x=>(abB k F d e f g h i j l m n a b c (!x))) (abB k F d e f g h i j l m n a b c false))))))
def afg (k:Nat) (F:acD) (v:Int) (w:Int) (x:Bool) (a:Int) (b:BA) (s:Int) (c:BA) (t:Int) (u:Int) (d:LE) (e:LS) (f:LS) (g:LS) (h:LC) (i:Int) (l:Int) (m:Bool) (n:Int) (o:Int) (p:Bool) (y:Bool):Option (aac × Bool):=(cond (!y) (adp k F a b c d e f g h i l m n o p v w x true) ((f68 k (aac.mk v w x) i).bind fun q_=>match q_ with | (.mk q r j,z)=>(cond (!z) (adp k F a b c d e f g h i l m n o p q r j true) (cond (s != 0) (cond (!j) (adp k F a b c d e f g h i l m n o p q r j true) ((f149 k (aag.mk a b s c t u d e f g h)).bind fun A=>(adp k F a b c d e f g h i l m n o p q r j (!A)))) (cond (t != 0) (cond (!j) (adp k F a b c d e f g h i l m n o p q r j true) ((f149 k (aag.mk a b s c t u d e f g h)).bind fun B=>(adp k F a b c d e f g h i l m n o p q r j (!B)))) ((f149 k (aag.mk a b s c t u d e f g h)).bind fun C=>(adp k F a b c d e f g h i l m n o p q r j (!C))))))))
def ak8 (k:Nat) (F:acD):aac→aag→Int→Option (aac × Bool):=fun q r a =>
 match q,r,a with
 | .mk c d e,.mk b f g h i j l m n o p,a=>((f148 k ).bind fun s=>(ae4 (mget qI b s) (afg k F c d e b f g h i j l m n o p a 0 false 0 0 false false) (fun q_=>match q_ with | .mk t u v w x=>(afg k F c d e b f g h i j l m n o p a t u v w x true))))
def ajD (k:Nat) (F:acD) (a:Bool) (b:Int) (c:Int) (d:Bool):Option (aac × Bool):=(some ((aac.mk b c d),a))
def acu (k:Nat) (F:acD) (h:LE) (i:LS) (a:Int) (b:Int) (c:Int) (d:Bool) (j:Bool):Option (aac × Bool):=(cond j (some ((aac.mk b c d),false)) ((f72 k (aac.mk b c d) h (w64 (a + 1))).bind fun q_=>match q_ with | (.mk e f g,l)=>(cond l ((F.f119 (aac.mk e f g) i (w64 (a + 1))).bind fun q_=>match q_ with | (.mk m n o,p)=>(ajD k F p m n o)) (ajD k F false e f g))))
def aiw (k:Nat) (F:acD):aac→aaz→Int→Option (aac × Bool):=fun n o a =>
 match n,o,a with
 | .mk i j l,.mk h g p b d,a=>(ae4 (mget qI h (mput qI 4 0 (mput qI 3 1 (mput qI 2 2 (mput qI 1 1 ([]:List (Int × Int))))))) (some ((aac.mk i j l),false)) (fun m=>((f68 k (aac.mk i j l) a).bind fun q_=>match q_ with | (.mk e f c,q)=>(cond (!q) (acu k F b d a e f c true) (cond (p != 0) (cond (!c) (acu k F b d a e f c true) (cond ((b.length:Int) != m) (acu k F b d a e f c true) (cond (!((!seq g ⟨#[]⟩) == (h == 1))) (acu k F b d a e f c true) (cond (!seq g ⟨#[]⟩) ((f71 k g).bind fun r=>(acu k F b d a e f c (!r))) (acu k F b d a e f c false))))) (cond ((b.length:Int) != m) (acu k F b d a e f c true) (cond (!((!seq g ⟨#[]⟩) == (h == 1))) (acu k F b d a e f c true) (cond (!seq g ⟨#[]⟩) ((f71 k g).bind fun s=>(acu k F b d a e f c (!s))) (acu k F b d a e f c false)))))))))
def abW (k0:Nat):Nat→acD
 | 0=>{ f119:=fun _ _ _=>none,f136:=fun _ _ _=>none,f150:=fun _ _ _=>none }
 | k + 1=>{ f119:=anm k0 (abW k0 k),f136:=ak8 k0 (abW k0 k),f150:=aiw k0 (abW k0 k) }
def f119 (k:Nat):aac→LS→Int→Option (aac × Bool):=(abW k k).f119
def f136 (k:Nat):aac→aag→Int→Option (aac × Bool):=(abW k k).f136
def f150 (k:Nat):aac→aaz→Int→Option (aac × Bool):=(abW k k).f150
def akB (k:Nat) (a:Int) (b:Int) (c:Bool) (d:Nat) (e:Bool) (nx2:Nat→Option (aac × Bool)):Option (aac × Bool):=(cond e (some ((aac.mk a b c),false)) (nx2 (d + 1)))
def adA (k:Nat) (d:Nat) (e:LS) (a:Int) (b:Int) (c:Bool) (nx1:Nat→Int→Int→Bool→Option (aac × Bool)):LP→Nat→Option (aac × Bool)
 | [],f=>((f119 k (aac.mk a b c) e 1).bind fun q_=>match q_ with | (.mk g h i,l)=>(cond (!l) (some ((aac.mk g h i),false)) (nx1 (d + 1) g h i)))
 | (.mk m n) :: j,f=>((f71 k m).bind fun o=>(cond (!o) (akB k a b c f true (adA k d e a b c nx1 j)) ((f69 k n 1 6).bind fun p=>(akB k a b c f (!p) (adA k d e a b c nx1 j)))))
def adt (k:Nat) (d:Nat) (e:LP) (f:LS) (a:Int) (b:Int) (c:Bool) (g:Bool) (nx1:Nat→Int→Int→Bool→Option (aac × Bool)):Option (aac × Bool):=(cond g (some ((aac.mk a b c),false)) (adA k d f a b c nx1 e 0))
def ach (k:Nat)  : LF→Nat→Int→Int→Bool→Option (aac × Bool)
 | [],a,i,j,l=>(some ((aac.mk i j l),true))
 | (.mk n b h m o d) :: e,a,i,j,l=>((f68 k (aac.mk i j l) 0).bind fun q_=>match q_ with | (.mk f g c,p)=>(cond (!p) (adt k a b d f g c true (ach k e)) ((f71 k n).bind fun q=>(cond (!q) (adt k a b d f g c true (ach k e)) (cond (decide ((b.length:Int) > 4)) (adt k a b d f g c true (ach k e)) (cond (o != 0) (cond (!c) (adt k a b d f g c true (ach k e)) (cond m (cond (h != 0) (adt k a b d f g c true (ach k e)) ((f69 k h 0 6).bind fun r=>(adt k a b d f g c (!r) (ach k e)))) ((f69 k h 0 6).bind fun s=>(adt k a b d f g c (!s) (ach k e))))) (cond m (cond (h != 0) (adt k a b d f g c true (ach k e)) ((f69 k h 0 6).bind fun t=>(adt k a b d f g c (!t) (ach k e)))) ((f69 k h 0 6).bind fun u=>(adt k a b d f g c (!u) (ach k e))))))))))
def apH (k:Nat):aac→aaa→Option (aac × Bool):=fun e f =>
 match e,f with
 | .mk a b c,.mk d=>((f69 k (d.length:Int) 1 16).bind fun g=>(cond (!g) (some ((aac.mk a b c),false)) (ach k d 0 a b c)))
def f99 (k:Nat):aac→aaa→Option (aac × Bool):=apH k
def ap7 (k:Nat):aaa→Bool→Option Bool:=fun b a =>
 match b,a with
 | .mk c,a=>((f99 k (aac.mk 0 0 a) (aaa.mk c)).bind fun q_=>match q_ with | (.mk e f g,d)=>(some d))
def f78 (k:Nat):aaa→Bool→Option Bool:=ap7 k
def f100 (k:Nat):LP→Option LP:=fun a=>aaW (decide (a.length * 24 ≤ 140737488355328)) (some a)
def amM (k:Nat):aal→Option Int:=fun a =>
 match a with
 | .mk b c d e f=>(some 0)
def f120 (k:Nat):aal→Option Int:=amM k
structure ada where
 f1012227:LE→Option LE
 f1013727:aal→Option aal
def abJ (k:Nat) (F:ada)  : LE→Nat→LE→Option LE
 | [],b,a=>(some a)
 | (.mk c d e f g) :: h,b,a=>((F.f1013727 (aal.mk c d e f g)).bind fun q_=>match q_ with | .mk i j l m n=>(aaW (decide ((a.length + 1) * 64 ≤ 140737488355328)) ((abJ k F h) (b + 1) (a ++ [(aal.mk i j l m n)]))))
def agj (k:Nat) (F:ada):LE→Option LE:=fun a=>(abJ k F a 0 ([]:LE))
def adT (k:Nat) (F:ada):aal→Option aal:=fun e =>
 match e with
 | .mk a b c f g=>((F.f1012227 g).bind fun d=>((f120 k (aal.mk a b c f d)).bind fun h=>(some (aal.mk a b c h d))))
def abn (k0:Nat):Nat→ada
 | 0=>{ f1012227:=fun _=>none,f1013727:=fun _=>none }
 | k + 1=>{ f1012227:=agj k0 (abn k0 k),f1013727:=adT k0 (abn k0 k) }
def f1012227 (k:Nat):LE→Option LE:=(abn k k).f1012227
def f1013727 (k:Nat):aal→Option aal:=(abn k k).f1013727
def aoU (k:Nat):aal→Option Int:=fun a =>
 match a with
 | .mk c d e b f=>(some b)
def f121 (k:Nat):aal→Option Int:=aoU k
structure adb where
 f1012258:LE→Option LE
 f1013758:aal→Option aal
def adk (k:Nat) (F:adb)  : LE→Nat→LE→Option LE
 | [],b,a=>(some a)
 | (.mk c d e f g) :: h,b,a=>((F.f1013758 (aal.mk c d e f g)).bind fun q_=>match q_ with | .mk i j l m n=>(aaW (decide ((a.length + 1) * 64 ≤ 140737488355328)) ((adk k F h) (b + 1) (a ++ [(aal.mk i j l m n)]))))
def agk (k:Nat) (F:adb):LE→Option LE:=fun a=>(adk k F a 0 ([]:LE))
def afT (k:Nat) (F:adb):aal→Option aal:=fun e =>
 match e with
 | .mk a b c f g=>((F.f1012258 g).bind fun d=>((f121 k (aal.mk a b c f d)).bind fun h=>(some (aal.mk a b c h d))))
def acw (k0:Nat):Nat→adb
 | 0=>{ f1012258:=fun _=>none,f1013758:=fun _=>none }
 | k + 1=>{ f1012258:=agk k0 (acw k0 k),f1013758:=afT k0 (acw k0 k) }
def f1012258 (k:Nat):LE→Option LE:=(acw k k).f1012258
def f1013758 (k:Nat):aal→Option aal:=(acw k k).f1013758
structure aeI where
 f101:LS→Bool→Option LS
def ajB (k:Nat) (F:aeI) (b:Bool) (a:LC) (c:Nat) (d:Int) (e:BA) (f:LE) (g:LS) (h:Int) (nx2:Nat→LC→Option LS):Option LS:=((f1012258 k f).bind fun i=>((F.f101 g b).bind fun j=>(aaW (decide ((a.length + 1) * 80 ≤ 140737488355328)) (nx2 (c + 1) (a ++ [(aaz.mk d e h i j)])))))
def afj (k:Nat) (F:aeI) (a:Bool) (b:LS) (d:Nat) (e:Int) (f:BA) (g:BA) (h:Int) (i:Int) (j:Int) (l:LE) (m:LS) (n:LS) (o:LS) (nx1:Nat→LS→Option LS):LC→Nat→LC→Option LS
 | [],p,c=>(aaW (decide ((b.length + 1) * 184 ≤ 140737488355328)) (nx1 (d + 1) (b ++ [(aag.mk e f i g j h l m n o c)])))
 | (.mk q r v s t) :: u,p,c=>(cond (!a) (ajB k F a c p q r s t 0 (afj k F a b d e f g h i j l m n o nx1 u)) (ajB k F a c p q r s t v (afj k F a b d e f g h i j l m n o nx1 u)))
def ajw (k:Nat) (F:aeI) (a:Bool) (b:LS) (c:Nat) (d:Int) (e:BA) (f:BA) (g:Int) (h:LE) (i:LS) (j:LS) (l:LS) (m:LC) (n:Int) (o:Int) (nx1:Nat→LS→Option LS):Option LS:=((f1012258 k h).bind fun p=>((F.f101 i a).bind fun q=>((F.f101 j a).bind fun r=>((F.f101 l a).bind fun s=>(afj k F a b c d e f g n o p q r s nx1 m 0 ([]:LC))))))
def ad9 (k:Nat) (F:aeI) (a:Bool):LS→Nat→LS→Option LS
 | [],c,b=>(some b)
 | (.mk d e o f p g h i j l m) :: n,c,b=>(cond (!a) (ajw k F a b c d e f g h i j l m 0 0 (ad9 k F a n)) (ajw k F a b c d e f g h i j l m o p (ad9 k F a n)))
def ahO (k:Nat) (F:aeI) (b:Bool) (a:LC) (c:Nat) (d:Int) (e:BA) (f:LE) (g:LS) (h:Int) (nx4:Nat→LC→Option LS):Option LS:=((f1012227 k f).bind fun i=>((F.f101 g b).bind fun j=>(aaW (decide ((a.length + 1) * 80 ≤ 140737488355328)) (nx4 (c + 1) (a ++ [(aaz.mk d e h i j)])))))
def adI (k:Nat) (F:aeI) (a:Bool) (b:LS) (d:Nat) (e:Int) (f:BA) (g:BA) (h:Int) (i:Int) (j:Int) (l:LE) (m:LS) (n:LS) (o:LS) (nx3:Nat→LS→Option LS):LC→Nat→LC→Option LS
 | [],p,c=>(aaW (decide ((b.length + 1) * 184 ≤ 140737488355328)) (nx3 (d + 1) (b ++ [(aag.mk e f i g j h l m n o c)])))
 | (.mk q r v s t) :: u,p,c=>(cond (!a) (ahO k F a c p q r s t 0 (adI k F a b d e f g h i j l m n o nx3 u)) (ahO k F a c p q r s t v (adI k F a b d e f g h i j l m n o nx3 u)))
def ag4 (k:Nat) (F:aeI) (a:Bool) (b:LS) (c:Nat) (d:Int) (e:BA) (f:BA) (g:Int) (h:LE) (i:LS) (j:LS) (l:LS) (m:LC) (n:Int) (o:Int) (nx3:Nat→LS→Option LS):Option LS:=((f1012227 k h).bind fun p=>((F.f101 i a).bind fun q=>((F.f101 j a).bind fun r=>((F.f101 l a).bind fun s=>(adI k F a b c d e f g n o p q r s nx3 m 0 ([]:LC))))))
def acK (k:Nat) (F:aeI) (a:Bool):LS→Nat→LS→Option LS
 | [],c,b=>(some b)
 | (.mk d e o f p g h i j l m) :: n,c,b=>(cond (!a) (ag4 k F a b c d e f g h i j l m 0 0 (acK k F a n)) (ag4 k F a b c d e f g h i j l m o p (acK k F a n)))
def anM (k:Nat) (F:aeI):LS→Bool→Option LS:=fun b a=>(cond a (ad9 k F a b 0 ([]:LS)) (acK k F a b 0 ([]:LS)))
def agA (k0:Nat):Nat→aeI
 | 0=>{ f101:=fun _ _=>none }
 | k + 1=>{ f101:=anM k0 (agA k0 k) }
def f101 (k:Nat):LS→Bool→Option LS:=(agA k k).f101
def aky (k:Nat) (b:Bool) (a:LF) (c:Nat) (d:BA) (e:LP) (f:Int) (g:Bool) (h:LS) (i:Int) (nx1:Nat→LF→Option aaa):Option aaa:=((f100 k e).bind fun j=>((f101 k h b).bind fun l=>(aaW (decide ((a.length + 1) * 88 ≤ 140737488355328)) (nx1 (c + 1) (a ++ [(aaf.mk d j f g i l)])))))
def aet (k:Nat) (a:Bool):LF→Nat→LF→Option aaa
 | [],c,b=>(some (aaa.mk b))
 | (.mk d e f g j h) :: i,c,b=>(cond (!a) (aky k a b c d e f g h 0 (aet k a i)) (aky k a b c d e f g h j (aet k a i)))
def asO (k:Nat):aaa→Bool→Option aaa:=fun b a =>
 match b,a with
 | .mk c,a=>(aet k a c 0 ([]:LF))
def f79 (k:Nat):aaa→Bool→Option aaa:=asO k
def aqJ (k:Nat):aaa→Option (Except Int aaa):=fun b =>
 match b with
 | .mk a=>((f78 k (aaa.mk a) true).bind fun c=>((f77 k c 2).bind fun q_=>match q_ with | .error c_=>some (.error c_) | .ok _=>((f79 k (aaa.mk a) false).bind fun q_=>match q_ with | .mk d=>(some (.ok (aaa.mk d))))))
def f54 (k:Nat):aaa→Option (Except Int aaa):=aqJ k
def aeR (k:Nat):aaa→aaa→Option (Except Int (aaa × aaa)):=fun b c =>
 match b,c with
 | .mk a,.mk sA_0=>((f54 k (aaa.mk a)).bind fun q_=>match q_ with | .error c_=>some (.error c_) | .ok (.mk d)=>(some (.ok ((aaa.mk a),(aaa.mk d)))))
def agI (k:Nat):aaa→aaa→Option (Except Int (aaa × aaa)):=aeR k
def agM (k:Nat):aaa→aaa→Option (aaa × aaa × Int):=fun a b=>match agI k a b with
 | none=>none
 | some (.ok (y0,y1))=>some (y0,y1,0)
 | some (.error c)=>some (a,b,c)
def aql (k:Nat):aaa→Option (aaa × Int):=fun a =>
 match a with
 | .mk b=>((agM k (aaa.mk b) (aaa.mk [])).bind fun q_=>match q_ with | (.mk e,.mk c,d)=>(some ((aaa.mk c),d)))
def f34 (k:Nat):aaa→Option (aaa × Int):=aql k
def ae1 (k:Nat):aaf→aaf→Option Bool:=fun a b =>
 match a,b with
 | .mk c e f g h i,.mk d j l m n o=>(some (seq d c))
def ajq (k:Nat):aaf→aaf→Option Bool:=ae1 k
def acs (k:Nat) (b:BA) (c:LP) (d:Int) (e:Bool) (f:Int) (g:LS):LF→Nat→Option Int
 | [],a=>(some (-1))
 | (.mk h i j l m n) :: o,a=>((ajq k (aaf.mk h i j l m n) (aaf.mk b c d e f g)).bind fun p=>(cond p (some (a:Int)) ((acs k b c d e f g o) (a + 1))))
def aeU (k:Nat):LF→aaf→Option Int:=fun a b =>
 match a,b with
 | a,.mk c d e f g h=>(acs k c d e f g h a 0)
def aj1 (k:Nat):LF→aaf→Option Int:=aeU k
def aeN (k:Nat):LF→aaf→Option Bool:=fun a b =>
 match a,b with
 | a,.mk c d e f g h=>((aj1 k a (aaf.mk c d e f g h)).bind fun i=>(some (decide (i ≥ 0))))
def afl (k:Nat):LF→aaf→Option Bool:=aeN k
def afc (k:Nat) (a:BA):LM→Nat→Option (Int × Bool)
 | [],b=>(some (0,false))
 | c :: d,b=>(ae4 (mget seq a c) ((afc k a d) (b + 1)) (fun e=>(some (e,true))))
def an8 (k:Nat):aab→BA→Option (Int × Bool):=fun b a =>
 match b,a with
 | .mk (.mk d) (.mk e f g h i j) l c m,a=>(afc k a c 0)
def f123 (k:Nat):aab→BA→Option (Int × Bool):=an8 k
def amw (k:Nat):aab→BA→Option (Except Int (aab × Int)):=fun m a =>
 match m,a with
 | .mk (.mk d) (.mk e f g h i j) b c l,a=>((f123 k (aab.mk (aaa.mk d) (aaf.mk e f g h i j) b c l) a).bind fun q_=>match q_ with | (p,n)=>((f77 k (!n) 21).bind fun q_=>match q_ with | .error c_=>some (.error c_) | .ok _=>(aaW (decide ((b.length + 1) * 16 ≤ 140737488355328)) ((idxO c (w64 ((c.length:Int) - 1))).bind fun o=>(some (.ok ((aab.mk (aaa.mk d) (aaf.mk e f g h i j) (b ++ [a]) (c.set (w64 ((c.length:Int) - 1)).toNat (mput seq a (b.length:Int) o)) l),(b.length:Int))))))))
def f104 (k:Nat):aab→BA→Option (Except Int (aab × Int)):=amw k
def aeV (k:Nat):aal→aab→Option (Except Int Int):=fun a b =>
 match a,b with
 | .mk c r d s t,.mk (.mk e) (.mk f g h i j l) m n o=>(cond (c != 4) (some (.ok 0)) ((f123 k (aab.mk (aaa.mk e) (aaf.mk f g h i j l) m n o) d).bind fun q_=>match q_ with | (p,q)=>((f77 k q 20).bind fun q_=>match q_ with | .error c_=>some (.error c_) | .ok _=>(some (.ok p)))))
def aja (k:Nat):aal→aab→Option (Except Int Int):=aeV k
structure ac9 where
 f1012222:LE→aab→Option (Except Int LE)
 f1013722:aal→aab→Option (Except Int aal)
def abH (k:Nat) (F:ac9) (b:LF) (c:BA) (d:LP) (e:Int) (f:Bool) (g:Int) (h:LS) (i:LB) (j:LM) (l:Int):LE→Nat→LE→Option (Except Int LE)
 | [],m,a=>(some (.ok a))
 | (.mk n o p q r) :: s,m,a=>((F.f1013722 (aal.mk n o p q r) (aab.mk (aaa.mk b) (aaf.mk c d e f g h) i j l)).bind fun q_=>match q_ with | .error c_=>some (.error c_) | .ok (.mk t u v w x)=>(aaW (decide ((a.length + 1) * 64 ≤ 140737488355328)) ((abH k F b c d e f g h i j l s) (m + 1) (a ++ [(aal.mk t u v w x)]))))
def agd (k:Nat) (F:ac9):LE→aab→Option (Except Int LE):=fun a b =>
 match a,b with
 | a,.mk (.mk c) (.mk d e f g h i) j l m=>(abH k F c d e f g h i j l m a 0 ([]:LE))
def adU (k:Nat) (F:ac9):aal→aab→Option (Except Int aal):=fun p q =>
 match p,q with
 | .mk a b c r s,.mk (.mk d) (.mk e f g h i j) l m n=>((F.f1012222 s (aab.mk (aaa.mk d) (aaf.mk e f g h i j) l m n)).bind fun q_=>match q_ with | .error c_=>some (.error c_) | .ok o=>((aja k (aal.mk a b c r o) (aab.mk (aaa.mk d) (aaf.mk e f g h i j) l m n)).bind fun q_=>match q_ with | .error c_=>some (.error c_) | .ok t=>(some (.ok (aal.mk a b c t o)))))
def abo (k0:Nat):Nat→ac9
 | 0=>{ f1012222:=fun _ _=>none,f1013722:=fun _ _=>none }
 | k + 1=>{ f1012222:=agd k0 (abo k0 k),f1013722:=adU k0 (abo k0 k) }
def f1012222 (k:Nat):LE→aab→Option (Except Int LE):=(abo k k).f1012222
def f1013722 (k:Nat):aal→aab→Option (Except Int aal):=(abo k k).f1013722
def amo (k:Nat):aab→LE→Option (Except Int LE):=fun b a =>
 match b,a with
 | .mk (.mk c) (.mk d e f g h i) j l m,a=>((f1012222 k a (aab.mk (aaa.mk c) (aaf.mk d e f g h i) j l m)).bind fun q_=>match q_ with | .error c_=>some (.error c_) | .ok n=>(some (.ok n)))
def f124 (k:Nat):aab→LE→Option (Except Int LE):=amo k
def aeO (k:Nat):aaf→aag→Option Bool:=fun a b =>
 match a,b with
 | .mk c e f g h i,.mk j l m d n o p q r s t=>(some (seq c d))
def ajg (k:Nat):aaf→aag→Option Bool:=aeO k
def acn (k:Nat) (b:Int) (c:BA) (d:Int) (e:BA) (f:Int) (g:Int) (h:LE) (i:LS) (j:LS) (l:LS) (m:LC):LF→Nat→Option Int
 | [],a=>(some (-1))
 | (.mk n o p q r s) :: t,a=>((ajg k (aaf.mk n o p q r s) (aag.mk b c d e f g h i j l m)).bind fun u=>(cond u (some (a:Int)) ((acn k b c d e f g h i j l m t) (a + 1))))
def aeQ (k:Nat):LF→aag→Option Int:=fun a b =>
 match a,b with
 | a,.mk c d e f g h i j l m n=>(acn k c d e f g h i j l m n a 0)
def ajx (k:Nat):LF→aag→Option Int:=aeQ k
def amk (k:Nat):aab→aag→Option (Except Int (aab × aag)):=fun c d =>
 match c,d with
 | .mk (.mk a) (.mk e f g h i j) l m n,.mk sA_0 sA_1 sA_2 sA_3 sA_4 sA_5 sA_6 sA_7 sA_8 sA_9 sA_10=>((ajx k a (aag.mk sA_0 sA_1 sA_2 sA_3 sA_4 sA_5 sA_6 sA_7 sA_8 sA_9 sA_10)).bind fun b=>((f77 k (decide (b ≥ 0)) 20).bind fun q_=>match q_ with | .error c_=>some (.error c_) | .ok _=>((idxO a b).bind fun q_=>match q_ with | .mk q o r p s t=>((f77 k (p == (sA_0 == 28)) 25).bind fun q_=>match q_ with | .error c_=>some (.error c_) | .ok _=>((f77 k ((o.length:Int) == (sA_6.length:Int)) 24).bind fun q_=>match q_ with | .error c_=>some (.error c_) | .ok _=>(some (.ok ((aab.mk (aaa.mk a) (aaf.mk e f g h i j) l m n),(aag.mk sA_0 sA_1 sA_2 sA_3 b sA_5 sA_6 sA_7 sA_8 sA_9 sA_10)))))))))
def f126 (k:Nat):aab→aag→Option (Except Int (aab × aag)):=amk k
structure abX where
 f105:aab→aag→Option (Except Int (aab × aag))
 f1012528:aab→BA→LS→aaz→Option (Except Int (aab × aaz × LS))
 f1012531:aab→BA→LS→aag→Option (Except Int (aab × aag × LS))
 f1012566:aab→BA→LS→Option (Except Int (aab × LS))
 f1012731:aab→BA→LS→aag→Option (Except Int (aab × aag × LS))
 f1012766:aab→BA→LS→Option (Except Int (aab × LS))
def aev (k:Nat) (F:abX) (m:Int) (n:BA) (o:Int) (p:BA) (q:Int) (r:Int) (s:LS) (t:LS) (u:LS) (v:LE):LC→Nat→LF→BA→LP→Int→Bool→Int→LS→LB→LM→Int→LC→Option (Except Int (aab × aag))
 | [],w,a,b,c,d,e,f,g,h,i,j,l=>(some (.ok ((aab.mk (aaa.mk a) (aaf.mk b c d e f g) h i j),(aag.mk m n o p q r v s t u l))))
 | (.mk z x A B y) :: C,w,a,b,c,d,e,f,g,h,i,j,l=>((f124 k (aab.mk (aaa.mk a) (aaf.mk b c d e f g) h i j) B).bind fun q_=>match q_ with | .error c_=>some (.error c_) | .ok D=>((F.f1012528 (aab.mk (aaa.mk a) (aaf.mk b c d e f g) h i j) x y (aaz.mk z x A D y)).bind fun q_=>match q_ with | .error c_=>some (.error c_) | .ok (.mk (.mk G) (.mk I J N O S U) V W X,.mk Y Z ab ac ae,ad)=>(aaW (decide ((l.length + 1) * 80 ≤ 140737488355328)) ((aev k F m n o p q r s t u v C) (w + 1) G I J N O S U V W X (l ++ [(aaz.mk Y Z ab ac ad)])))))
def acB (k:Nat) (F:abX) (a:Int) (b:BA) (c:Int) (d:BA) (e:Int) (f:Int) (g:LE) (h:LS) (i:LS) (j:LS) (l:LC) (m:LF) (n:BA) (o:LP) (p:Int) (q:Bool) (r:Int) (s:LS) (t:LB) (u:LM) (v:Int):Option (Except Int (aab × aag)):=(some (.ok ((aab.mk (aaa.mk m) (aaf.mk n o p q r s) t u v),(aag.mk a b c d e f g h i j l))))
def agf (k:Nat) (F:abX) (a:Int) (d:BA) (e:BA) (f:Int) (b:Int) (g:LE) (h:LS) (i:LS) (j:LS) (l:LC) (m:LF) (n:BA) (o:LP) (p:Int) (q:Bool) (r:Int) (s:LS) (t:LB) (u:LM) (c:Int) (v:Int):Option (Except Int (aab × aag)):=(cond (a != 6) ((f77 k true 22).bind fun q_=>match q_ with | .error c_=>some (.error c_) | .ok _=>(acB k F a d v e f b g h i j l m n o p q r s t u c)) (cond (b == 0) ((f77 k true 22).bind fun q_=>match q_ with | .error c_=>some (.error c_) | .ok _=>(acB k F a d v e f b g h i j l m n o p q r s t u c)) ((f77 k (decide (c > 0)) 22).bind fun q_=>match q_ with | .error c_=>some (.error c_) | .ok _=>(acB k F a d v e f b g h i j l m n o p q r s t u c))))
def aeq (k:Nat) (F:abX) (b:LF) (c:BA) (d:LP) (e:Int) (f:Bool) (g:Int) (h:LS) (i:LB) (j:LM) (l:Int) (m:Int) (a:BA) (v:Int) (n:BA) (o:Int) (p:Int) (q:LE) (r:LS) (s:LS) (t:LS) (u:LC) (w:Bool):Option (Except Int (aab × aag)):=(cond w ((F.f1012566 (aab.mk (aaa.mk b) (aaf.mk c d e f g h) i j l) ⟨#[]⟩ r).bind fun q_=>match q_ with | .error c_=>some (.error c_) | .ok (.mk (.mk x) (.mk y z A B C D) G I J,N)=>((F.f1012566 (aab.mk (aaa.mk x) (aaf.mk y z A B C D) G I J) ⟨#[]⟩ s).bind fun q_=>match q_ with | .error c_=>some (.error c_) | .ok (.mk (.mk O) (.mk S U V W X Y) Z ab ac,ad)=>(acB k F m a v n o p q N ad t u O S U V W X Y Z ab ac))) (cond (!seq a ⟨#[]⟩) ((f104 k (aab.mk (aaa.mk b) (aaf.mk c d e f g h) i j l) a).bind fun q_=>match q_ with | .error c_=>some (.error c_) | .ok (.mk (.mk ae) (.mk af ag ah ai aj ak) al am an,ao)=>(agf k F m a n o p q r s t u ae af ag ah ai aj ak al am an ao)) (agf k F m a n o p q r s t u b c d e f g h i j l v)))
def aga (k:Nat) (F:abX) (i:LF) (j:BA) (l:LP) (d:Int) (e:Bool) (m:Int) (n:LS) (o:LB) (p:LM) (f:Int) (a:Int) (b:BA) (q:Int) (r:BA) (s:Int) (t:Int) (g:LE) (c:LS) (h:LS) (u:LS) (v:LC) (w:Bool):Option (Except Int (aab × aag)):=(cond w ((f77 k (decide (f > 0)) 22).bind fun q_=>match q_ with | .error c_=>some (.error c_) | .ok _=>(acB k F a b q r s t g c h u v i j l d e m n o p f)) (cond (a == 29) ((f77 k e 22).bind fun q_=>match q_ with | .error c_=>some (.error c_) | .ok _=>(acB k F a b q r s t g c h u v i j l d e m n o p f)) (cond (a == 17) ((f77 k ((decide ((g.length:Int) > 0)) == (d != 0)) 22).bind fun q_=>match q_ with | .error c_=>some (.error c_) | .ok _=>(acB k F a b q r s t g c h u v i j l d e m n o p f)) (cond (a == 21) ((F.f1012766 (aab.mk (aaa.mk i) (aaf.mk j l d e m n) o p f) ⟨#[]⟩ c).bind fun q_=>match q_ with | .error c_=>some (.error c_) | .ok (.mk (.mk x) (.mk y z A B C D) G I J,N)=>(acB k F a b q r s t g N h u v x y z A B C D G I J)) (cond (a == 28) ((F.f1012731 (aab.mk (aaa.mk i) (aaf.mk j l d e m n) o p f) b c (aag.mk a b q r s t g c h u v)).bind fun q_=>match q_ with | .error c_=>some (.error c_) | .ok (.mk (.mk O) (.mk S U V W X Y) Z ab ac,.mk ad ae af ag ah ai aj bD ak al am,an)=>(acB k F ad ae af ag ah ai aj an ak al am O S U V W X Y Z ab ac)) (cond (a == 25) ((F.f1012531 (aab.mk (aaa.mk i) (aaf.mk j l d e m n) o p f) b c (aag.mk a b q r s t g c h u v)).bind fun q_=>match q_ with | .error c_=>some (.error c_) | .ok (.mk (.mk ao) (.mk ap aq ar au av aw) ax ay az,.mk aA aB aG aH aI aJ aK bE aL aM aN,aP)=>(acB k F aA aB aG aH aI aJ aK aP aL aM aN ao ap aq ar au av aw ax ay az)) (cond (a == 24) ((F.f1012566 (aab.mk (aaa.mk i) (aaf.mk j l d e m n) o p f) ⟨#[]⟩ c).bind fun q_=>match q_ with | .error c_=>some (.error c_) | .ok (.mk (.mk aQ) (.mk aT aU aV aW aX aY) aZ a0 a1,a2)=>((F.f1012531 (aab.mk (aaa.mk aQ) (aaf.mk aT aU aV aW aX aY) aZ a0 a1) b h (aag.mk a b q r s t g a2 h u v)).bind fun q_=>match q_ with | .error c_=>some (.error c_) | .ok (.mk (.mk a3) (.mk a4 a5 a6 a7 a8 a9) ba bb bd,.mk be bf bg bh bi bj bk bm bF bn bo,bp)=>((F.f1012566 (aab.mk (aaa.mk a3) (aaf.mk a4 a5 a6 a7 a8 a9) ba bb bd) ⟨#[]⟩ bn).bind fun q_=>match q_ with | .error c_=>some (.error c_) | .ok (.mk (.mk bq) (.mk br bs bu bv bw bx) bz bA bB,bC)=>(acB k F be bf bg bh bi bj bk bm bp bC bo bq br bs bu bv bw bx bz bA bB)))) (cond (a == 20) (aeq k F i j l d e m n o p f a b q r s t g c h u v (a == 20)) (cond (a == 22) (aeq k F i j l d e m n o p f a b q r s t g c h u v (a == 22)) (cond (a == 23) (aeq k F i j l d e m n o p f a b q r s t g c h u v (a == 23)) (aeq k F i j l d e m n o p f a b q r s t g c h u v (a == 26))))))))))))
def afF (k:Nat) (F:abX) (b:LF) (c:BA) (d:LP) (e:Int) (f:Bool) (g:Int) (h:LS) (i:LB) (j:LM) (l:Int) (a:Int) (m:BA) (v:Int) (n:BA) (o:Int) (p:Int) (q:LE) (r:LS) (s:LS) (t:LS) (u:LC):Option (Except Int (aab × aag)):=(cond (a == 2) ((f123 k (aab.mk (aaa.mk b) (aaf.mk c d e f g h) i j l) m).bind fun q_=>match q_ with | (w,x)=>((f77 k x 20).bind fun q_=>match q_ with | .error c_=>some (.error c_) | .ok _=>(acB k F a m w n o p q r s t u b c d e f g h i j l))) (cond (a == 18) (aga k F b c d e f g h i j l a m v n o p q r s t u (a == 18)) (aga k F b c d e f g h i j l a m v n o p q r s t u (a == 19))))
def akW (k:Nat) (F:abX):aab→aag→Option (Except Int (aab × aag)):=fun w x =>
 match w,x with
 | .mk (.mk a) (.mk b c d e f g) h i j,.mk l n o m p q y r s t u=>((f124 k (aab.mk (aaa.mk a) (aaf.mk b c d e f g) h i j) y).bind fun q_=>match q_ with | .error c_=>some (.error c_) | .ok v=>(cond (l == 27) (aev k F l n o m p q r s t v u 0 a b c d e f g h i j ([]:LC)) (cond (!seq m ⟨#[]⟩) ((f126 k (aab.mk (aaa.mk a) (aaf.mk b c d e f g) h i j) (aag.mk l n o m p q v r s t u)).bind fun q_=>match q_ with | .error c_=>some (.error c_) | .ok (.mk (.mk z) (.mk A B C D G I) J N O,.mk S U V W X Y Z ab ac ad ae)=>(afF k F z A B C D G I J N O S U V W X Y Z ab ac ad ae)) (afF k F a b c d e f g h i j l n o m p q v r s t u))))
def ab8 (k:Nat) (F:abX) (sA_0:Int) (sA_1:BA) (sA_3:LE) (sA_4:LS) (m:Int):LS→Nat→LF→BA→LP→Int→Bool→Int→LS→LB→LM→Int→LS→Option (Except Int (aab × aaz × LS))
 | [],n,c,d,e,f,g,h,i,j,a,l,b=>(aaW (decide (0 ≤ (w64 ((a.length:Int) - 1))∧(w64 ((a.length:Int) - 1)) ≤ (a.length:Int))) (some (.ok ((aab.mk (aaa.mk c) (aaf.mk d e f g h i) j (a.take (w64 ((a.length:Int) - 1)).toNat) l),(aaz.mk sA_0 sA_1 m sA_3 sA_4),b))))
 | (.mk o p q r s t u v w x y) :: z,n,c,d,e,f,g,h,i,j,a,l,b=>((F.f105 (aab.mk (aaa.mk c) (aaf.mk d e f g h i) j a l) (aag.mk o p q r s t u v w x y)).bind fun q_=>match q_ with | .error c_=>some (.error c_) | .ok (.mk (.mk A) (.mk B C D G I J) N O S,.mk U V W X Y Z ab ac ad ae af)=>(aaW (decide ((b.length + 1) * 184 ≤ 140737488355328)) ((ab8 k F sA_0 sA_1 sA_3 sA_4 m z) (n + 1) A B C D G I J N O S (b ++ [(aag.mk U V W X Y Z ab ac ad ae af)]))))
def adj (k:Nat) (F:abX) (a:LS) (sA_0:Int) (sA_1:BA) (sA_3:LE) (sA_4:LS) (b:LF) (c:BA) (d:LP) (e:Int) (f:Bool) (g:Int) (h:LS) (i:LB) (j:LM) (l:Int) (m:Int):Option (Except Int (aab × aaz × LS)):=(ab8 k F sA_0 sA_1 sA_3 sA_4 m a 0 b c d e f g h i j l ([]:LS))
def adY (k:Nat) (F:abX):aab→BA→LS→aaz→Option (Except Int (aab × aaz × LS)):=fun n a b o =>
 match n,a,b,o with
 | .mk (.mk d) (.mk e f g h i j) l c m,a,b,.mk sA_0 sA_1 sA_2 sA_3 sA_4=>(aaW (decide ((c.length + 1) * 8 ≤ 140737488355328)) (cond (!seq a ⟨#[]⟩) ((f104 k (aab.mk (aaa.mk d) (aaf.mk e f g h i j) l (c ++ [([]:List (BA × Int))]) m) a).bind fun q_=>match q_ with | .error c_=>some (.error c_) | .ok (.mk (.mk p) (.mk q r s t u v) w x y,z)=>(adj k F b sA_0 sA_1 sA_3 sA_4 p q r s t u v w x y z)) (adj k F b sA_0 sA_1 sA_3 sA_4 d e f g h i j l (c ++ [([]:List (BA × Int))]) m sA_2)))
def ab4 (k:Nat) (F:abX) (sA_0:Int) (sA_1:BA) (sA_3:BA) (sA_4:Int) (sA_5:Int) (sA_6:LE) (sA_7:LS) (sA_8:LS) (sA_9:LS) (sA_10:LC) (m:Int):LS→Nat→LF→BA→LP→Int→Bool→Int→LS→LB→LM→Int→LS→Option (Except Int (aab × aag × LS))
 | [],n,c,d,e,f,g,h,i,j,a,l,b=>(aaW (decide (0 ≤ (w64 ((a.length:Int) - 1))∧(w64 ((a.length:Int) - 1)) ≤ (a.length:Int))) (some (.ok ((aab.mk (aaa.mk c) (aaf.mk d e f g h i) j (a.take (w64 ((a.length:Int) - 1)).toNat) l),(aag.mk sA_0 sA_1 m sA_3 sA_4 sA_5 sA_6 sA_7 sA_8 sA_9 sA_10),b))))
 | (.mk o p q r s t u v w x y) :: z,n,c,d,e,f,g,h,i,j,a,l,b=>((F.f105 (aab.mk (aaa.mk c) (aaf.mk d e f g h i) j a l) (aag.mk o p q r s t u v w x y)).bind fun q_=>match q_ with | .error c_=>some (.error c_) | .ok (.mk (.mk A) (.mk B C D G I J) N O S,.mk U V W X Y Z ab ac ad ae af)=>(aaW (decide ((b.length + 1) * 184 ≤ 140737488355328)) ((ab4 k F sA_0 sA_1 sA_3 sA_4 sA_5 sA_6 sA_7 sA_8 sA_9 sA_10 m z) (n + 1) A B C D G I J N O S (b ++ [(aag.mk U V W X Y Z ab ac ad ae af)]))))
def adn (k:Nat) (F:abX) (a:LS) (sA_0:Int) (sA_1:BA) (sA_3:BA) (sA_4:Int) (sA_5:Int) (sA_6:LE) (sA_7:LS) (sA_8:LS) (sA_9:LS) (sA_10:LC) (b:LF) (c:BA) (d:LP) (e:Int) (f:Bool) (g:Int) (h:LS) (i:LB) (j:LM) (l:Int) (m:Int):Option (Except Int (aab × aag × LS)):=(ab4 k F sA_0 sA_1 sA_3 sA_4 sA_5 sA_6 sA_7 sA_8 sA_9 sA_10 m a 0 b c d e f g h i j l ([]:LS))
def adX (k:Nat) (F:abX):aab→BA→LS→aag→Option (Except Int (aab × aag × LS)):=fun n a b o =>
 match n,a,b,o with
 | .mk (.mk d) (.mk e f g h i j) l c m,a,b,.mk sA_0 sA_1 sA_2 sA_3 sA_4 sA_5 sA_6 sA_7 sA_8 sA_9 sA_10=>(aaW (decide ((c.length + 1) * 8 ≤ 140737488355328)) (cond (!seq a ⟨#[]⟩) ((f104 k (aab.mk (aaa.mk d) (aaf.mk e f g h i j) l (c ++ [([]:List (BA × Int))]) m) a).bind fun q_=>match q_ with | .error c_=>some (.error c_) | .ok (.mk (.mk p) (.mk q r s t u v) w x y,z)=>(adn k F b sA_0 sA_1 sA_3 sA_4 sA_5 sA_6 sA_7 sA_8 sA_9 sA_10 p q r s t u v w x y z)) (adn k F b sA_0 sA_1 sA_3 sA_4 sA_5 sA_6 sA_7 sA_8 sA_9 sA_10 d e f g h i j l (c ++ [([]:List (BA × Int))]) m sA_2)))
def ab5 (k:Nat) (F:abX)  : LS→Nat→LF→BA→LP→Int→Bool→Int→LS→LB→LM→Int→LS→Option (Except Int (aab × LS))
 | [],m,c,d,e,f,g,h,i,j,a,l,b=>(aaW (decide (0 ≤ (w64 ((a.length:Int) - 1))∧(w64 ((a.length:Int) - 1)) ≤ (a.length:Int))) (some (.ok ((aab.mk (aaa.mk c) (aaf.mk d e f g h i) j (a.take (w64 ((a.length:Int) - 1)).toNat) l),b))))
 | (.mk n o p q r s t u v w x) :: y,m,c,d,e,f,g,h,i,j,a,l,b=>((F.f105 (aab.mk (aaa.mk c) (aaf.mk d e f g h i) j a l) (aag.mk n o p q r s t u v w x)).bind fun q_=>match q_ with | .error c_=>some (.error c_) | .ok (.mk (.mk z) (.mk A B C D G I) J N O,.mk S U V W X Y Z ab ac ad ae)=>(aaW (decide ((b.length + 1) * 184 ≤ 140737488355328)) ((ab5 k F y) (m + 1) z A B C D G I J N O (b ++ [(aag.mk S U V W X Y Z ab ac ad ae)]))))
def adQ (k:Nat) (F:abX):aab→BA→LS→Option (Except Int (aab × LS)):=fun n a b =>
 match n,a,b with
 | .mk (.mk d) (.mk e f g h i j) l c m,a,b=>(aaW (decide ((c.length + 1) * 8 ≤ 140737488355328)) (cond (!seq a ⟨#[]⟩) ((f104 k (aab.mk (aaa.mk d) (aaf.mk e f g h i j) l (c ++ [([]:List (BA × Int))]) m) a).bind fun q_=>match q_ with | .error c_=>some (.error c_) | .ok (.mk (.mk o) (.mk p q r s t u) v w x,y)=>(none)) (ab5 k F b 0 d e f g h i j l (c ++ [([]:List (BA × Int))]) m ([]:LS))))
def ad0 (k:Nat) (F:abX):aab→BA→LS→aag→Option (Except Int (aab × aag × LS)):=fun c a b d =>
 match c,a,b,d with
 | .mk (.mk e) (.mk f g h i j l) m n o,a,b,.mk sA_0 sA_1 sA_2 sA_3 sA_4 sA_5 sA_6 sA_7 sA_8 sA_9 sA_10=>((F.f1012531 (aab.mk (aaa.mk e) (aaf.mk f g h i j l) m n (w64 (o + 1))) a b (aag.mk sA_0 sA_1 sA_2 sA_3 sA_4 sA_5 sA_6 sA_7 sA_8 sA_9 sA_10)).bind fun q_=>match q_ with | .error c_=>some (.error c_) | .ok (.mk (.mk p) (.mk q r s t u v) w x y,.mk z A B C D G I J N O S,U)=>(some (.ok ((aab.mk (aaa.mk p) (aaf.mk q r s t u v) w x (w64 (y - 1))),(aag.mk z A B C D G I J N O S),U))))
def adP (k:Nat) (F:abX):aab→BA→LS→Option (Except Int (aab × LS)):=fun c a b =>
 match c,a,b with
 | .mk (.mk d) (.mk e f g h i j) l m n,a,b=>((F.f1012566 (aab.mk (aaa.mk d) (aaf.mk e f g h i j) l m (w64 (n + 1))) a b).bind fun q_=>match q_ with | .error c_=>some (.error c_) | .ok (.mk (.mk o) (.mk p q r s t u) v w x,y)=>(some (.ok ((aab.mk (aaa.mk o) (aaf.mk p q r s t u) v w (w64 (x - 1))),y))))
def aa0 (k0:Nat):Nat→abX
 | 0=>{ f105:=fun _ _=>none,f1012528:=fun _ _ _ _=>none,f1012531:=fun _ _ _ _=>none,f1012566:=fun _ _ _=>none,f1012731:=fun _ _ _ _=>none,f1012766:=fun _ _ _=>none }
 | k + 1=>{ f105:=akW k0 (aa0 k0 k),f1012528:=adY k0 (aa0 k0 k),f1012531:=adX k0 (aa0 k0 k),f1012566:=adQ k0 (aa0 k0 k),f1012731:=ad0 k0 (aa0 k0 k),f1012766:=adP k0 (aa0 k0 k) }
def f105 (k:Nat):aab→aag→Option (Except Int (aab × aag)):=(aa0 k k).f105
def f1012528 (k:Nat):aab→BA→LS→aaz→Option (Except Int (aab × aaz × LS)):=(aa0 k k).f1012528
def f1012531 (k:Nat):aab→BA→LS→aag→Option (Except Int (aab × aag × LS)):=(aa0 k k).f1012531
def f1012566 (k:Nat):aab→BA→LS→Option (Except Int (aab × LS)):=(aa0 k k).f1012566
def f1012731 (k:Nat):aab→BA→LS→aag→Option (Except Int (aab × aag × LS)):=(aa0 k k).f1012731
def f1012766 (k:Nat):aab→BA→LS→Option (Except Int (aab × LS)):=(aa0 k k).f1012766
def amn (k:Nat) (a:BA) (b:LP) (c:Int) (d:Bool) (e:Int) (f:LS) (g:LB):Option (Except Int (aaf × LB)):=(some (.ok ((aaf.mk a b c d e f),g)))
def agy (k:Nat) (c:BA) (d:Int) (e:Bool) (f:LP):LS→Nat→LF→BA→LP→Int→Bool→Int→LS→LB→LM→Int→LS→Option (Except Int (aaf × LB))
 | [],g,h,i,j,l,m,n,o,a,p,q,b=>((f77 k (decide ((a.length:Int) ≤ 32)) 5).bind fun q_=>match q_ with | .error c_=>some (.error c_) | .ok _=>(amn k c f d e (a.length:Int) b a))
 | (.mk r s t u v w x y z A B) :: C,g,h,i,j,l,m,n,o,a,p,q,b=>((f105 k (aab.mk (aaa.mk h) (aaf.mk i j l m n o) a p q) (aag.mk r s t u v w x y z A B)).bind fun q_=>match q_ with | .error c_=>some (.error c_) | .ok (.mk (.mk D) (.mk G I J N O S) U V W,.mk X Y Z ab ac ad ae af ag ah ai)=>(aaW (decide ((b.length + 1) * 184 ≤ 140737488355328)) ((agy k c d e f C) (g + 1) D G I J N O S U V W (b ++ [(aag.mk X Y Z ab ac ad ae af ag ah ai)]))))
def adB (k:Nat) (l:BA) (m:LP) (n:Int) (o:Bool) (p:LS):LP→Nat→LF→BA→LP→Int→Bool→Int→LS→LB→LM→Int→Option (Except Int (aaf × LB))
 | [],q,a,b,c,d,e,f,g,h,i,j=>((f100 k m).bind fun r=>(agy k l n o r p 0 a b c d e f g h i j ([]:LS)))
 | (.mk s G) :: t,q,a,b,c,d,e,f,g,h,i,j=>((f104 k (aab.mk (aaa.mk a) (aaf.mk b c d e f g) h i j) s).bind fun q_=>match q_ with | .error c_=>some (.error c_) | .ok (.mk (.mk u) (.mk v w x y z A) B C D,I)=>((adB k l m n o p t) (q + 1) u v w x y z A B C D))
def ap3 (k:Nat):aaa→aaf→Option (Except Int (aaf × LB)):=fun f g =>
 match f,g with
 | .mk h,.mk b a c d i e=>(adB k b a c d e a 0 h b a c d i e ([]:LB) [([]:List (BA × Int))] 0)
def f83 (k:Nat):aaa→aaf→Option (Except Int (aaf × LB)):=ap3 k
def agr (k:Nat) (all:LF):LF→Nat→Option (Except Int Unit)
 | [],_=>some (.ok ())
 | f :: rest,i=>(afl k (all.take i) f).bind fun b=>(f77 k (!b) 21).bind fun q=>match q with
  | .error c=>some (.error c)
  | .ok _=>agr k all rest (i + 1)
def acA:LF→Int
 | []=>20
 | .mk nm ps _ fl _ _ :: rest=>cond (!(seq nm ⟨#[109,97,105,110]⟩)) (acA rest) (cond fl 25 (cond (decide ((ps.length:Int) > 0)) 24 0))
def afs (k:Nat) (p:aaa):LF→List aaf→List LB→Option (Except Int (aaa × List LB))
 | [],out,names=>some (.ok (.mk out,names))
 | f :: rest,out,names=>(f83 k p f).bind fun q=>match q with
  | .error c=>some (.error c)
  | .ok (g,l)=>afs k p rest (out ++ [g]) (names ++ [l])
def f56 (k:Nat):aaa→Option (Except Int (aaa × (List LB))):=fun a=>match a with
 | .mk fs=>(f78 k (.mk fs) false).bind fun ok=>(f77 k ok 2).bind fun q=>match q with
  | .error c=>some (.error c)
  | .ok _=>(agr k fs fs 0).bind fun q=>match q with
   | .error c=>some (.error c)
   | .ok _=>(f77 k (decide (acA fs=0)) (acA fs)).bind fun q=>match q with
    | .error c=>some (.error c)
    | .ok _=>afs k (.mk fs) fs [] []
def ae3 (k:Nat):aaa→aaa→Option (Except Int (aaa × aaa)):=fun b c =>
 match b,c with
 | .mk a,.mk sA_0=>((f56 k (aaa.mk a)).bind fun q_=>match q_ with | .error c_=>some (.error c_) | .ok (.mk d,e)=>(some (.ok ((aaa.mk a),(aaa.mk d)))))
def agJ (k:Nat):aaa→aaa→Option (Except Int (aaa × aaa)):=ae3 k
def agS (k:Nat):aaa→aaa→Option (aaa × aaa × Int):=fun a b=>match agJ k a b with
 | none=>none
 | some (.ok (y0,y1))=>some (y0,y1,0)
 | some (.error c)=>some (a,b,c)
def ap5 (k:Nat):aaa→Option (aaa × Int):=fun a =>
 match a with
 | .mk b=>((agS k (aaa.mk b) (aaa.mk [])).bind fun q_=>match q_ with | (.mk e,.mk c,d)=>(some ((aaa.mk c),d)))
def f35 (k:Nat):aaa→Option (aaa × Int):=ap5 k
def asd (k:Nat):Option (List (Int × aaB)):=(some (mput qI 19 (aaB.mk [1] 1) (mput qI 18 (aaB.mk [1] 1) (mput qI 17 (aaB.mk [1] 1) (mput qI 16 (aaB.mk [1] 1) (mput qI 6 (aaB.mk [1] 1) (mput qI 14 (aaB.mk [1,3] 2) (mput qI 13 (aaB.mk [1,3] 2) (mput qI 12 (aaB.mk [1,3] 2) (mput qI 11 (aaB.mk [1,3] 2) (mput qI 8 (aaB.mk [2] 2) (mput qI 7 (aaB.mk [2] 2) (mput qI 5 (aaB.mk [2] 2) ([]:List (Int × aaB)))))))))))))))
def f50 (k:Nat):Option (List (Int × aaB)):=asd k
def ag2 (k:Nat) (b:Int):List Int→Nat→Option Int
 | [],a=>(some (-1))
 | c :: d,a=>(cond (b == c) (some (a:Int)) ((ag2 k b d) (a + 1)))
def apx (k:Nat):(List Int)→Int→Option Int:=fun a b=>(ag2 k b a 0)
def f75 (k:Nat):(List Int)→Int→Option Int:=apx k
def aqp (k:Nat):(List Int)→Int→Option Bool:=fun a b=>((f75 k a b).bind fun c=>(some (decide (c ≥ 0))))
def f51 (k:Nat):(List Int)→Int→Option Bool:=aqp k
structure aks where
 f33:aal→(List Int)→Option Int
def akR (k:Nat) (F:aks) (a:Int) (b:Bool):Option Int:=(cond b (some (-1)) (some a))
def ak6 (k:Nat) (F:aks) (a:Int) (b:List Int) (c:Int):Option Int:=((f51 k b a).bind fun d=>(cond (!d) (some (-1)) (some c)))
def akH (k:Nat) (F:aks) (b:Int) (a:Int) (c:Bool):Option Int:=(cond c (some 2) (cond (b == 15) (cond (a != 1) (akR k F a (a != 3)) (akR k F a false)) ((f50 k ).bind fun d=>(ae4 (mget qI b d) (ak6 k F a [] 0) (fun q_=>match q_ with | .mk e f=>(ak6 k F a e f))))))
def ahd (k:Nat) (F:aks) (a:Int) (b:Int) (c:Bool):Option Int:=(cond c (some (-1)) (cond (a == 9) (akH k F a b (a == 9)) (akH k F a b (a == 10))))
def aoX (k:Nat) (F:aks):aal→(List Int)→Option Int:=fun e b =>
 match e,b with
 | .mk a t u f d,b=>(cond (a == 1) (some 1) (cond (a == 2) (some 2) (cond (a == 3) (some 3) (cond (a == 4) ((idxO b f).bind fun g=>(some g)) ((idxO d 0).bind fun q_=>match q_ with | .mk h i j l m=>((F.f33 (aal.mk h i j l m) b).bind fun c=>(cond (c == (-1)) (ahd k F a c true) (cond ((d.length:Int) == 2) ((idxO d 1).bind fun q_=>match q_ with | .mk n o p q r=>((F.f33 (aal.mk n o p q r) b).bind fun s=>(ahd k F a c (s != c)))) (ahd k F a c false)))))))))
def ani (k0:Nat):Nat→aks
 | 0=>{ f33:=fun _ _=>none }
 | k + 1=>{ f33:=aoX k0 (ani k0 k) }
def f33 (k:Nat):aal→(List Int)→Option Int:=(ani k k).f33
def ag8 (k:Nat) (b:(List Int)) (c:(List Int)):LE→Nat→Option Bool
 | [],a=>(some true)
 | (.mk d e f g h) :: i,a=>((idxO c (a:Int)).bind fun j=>((f33 k (aal.mk d e f g h) b).bind fun l=>(cond (l != j) (some false) ((ag8 k b c i) (a + 1)))))
def api (k:Nat):aak→LE→(List Int)→Option Bool:=fun c a b =>
 match c,a,b with
 | .mk (.mk e) (.mk f g h i j l) d,a,b=>(ag8 k d b a 0)
def f84 (k:Nat):aak→LE→(List Int)→Option Bool:=api k
def asZ (k:Nat):Option (List (Int × (List Int))):=(some (mput qI 26 [6] (mput qI 21 [2] (mput qI 20 [2] (mput qI 15 [3] (mput qI 22 [1] (mput qI 29 [1] (mput qI 25 [1] (mput qI 8 [1] (mput qI 7 [1] (mput qI 12 [1] (mput qI 10 [4,1] (mput qI 11 [4] (mput qI 6 [4] (mput qI 16 [5] (mput qI 5 [5] ([]:List (Int × (List Int)))))))))))))))))))
def f85 (k:Nat):Option (List (Int × (List Int))):=asZ k
structure adK where
 f36:aak→LS→Option (aak × Bool)
 f57:aak→aag→Option (aak × Bool)
def agv (k:Nat) (F:adK)  : LS→Nat→LF→BA→LP→Int→Bool→Int→LS→(List Int)→Option (aak × Bool)
 | [],i,a,b,c,d,e,f,g,h=>(some ((aak.mk (aaa.mk a) (aaf.mk b c d e f g) h),true))
 | (.mk s t u v w x y z A B C) :: D,i,a,b,c,d,e,f,g,h=>((F.f57 (aak.mk (aaa.mk a) (aaf.mk b c d e f g) h) (aag.mk s t u v w x y z A B C)).bind fun q_=>match q_ with | (.mk (.mk j) (.mk l m n o p q) r,G)=>(cond (!G) (some ((aak.mk (aaa.mk j) (aaf.mk l m n o p q) r),false)) ((agv k F D) (i + 1) j l m n o p q r)))
def arz (k:Nat) (F:adK):aak→LS→Option (aak × Bool):=fun b a =>
 match b,a with
 | .mk (.mk c) (.mk d e f g h i) j,a=>(agv k F a 0 c d e f g h i j)
def aic (k:Nat) (F:adK) (a:Bool) (b:LF) (c:BA) (d:LP) (e:Int) (f:Bool) (g:Int) (h:LS) (i:List Int):Option (aak × Bool):=(some ((aak.mk (aaa.mk b) (aaf.mk c d e f g h) i),a))
def aiv (k:Nat) (F:adK) (i:LF) (j:BA) (l:LP) (m:Int) (n:Bool) (o:Int) (p:LS) (q:Nat) (r:LS) (s:List Int) (nx1:Nat→LF→BA→LP→Int→Bool→Int→LS→(List Int)→Option (aak × Bool)):Option (aak × Bool):=((F.f36 (aak.mk (aaa.mk i) (aaf.mk j l m n o p) s) r).bind fun q_=>match q_ with | (.mk (.mk a) (.mk b c d e f g) h,t)=>(cond (!t) (some ((aak.mk (aaa.mk a) (aaf.mk b c d e f g) h),false)) (nx1 (q + 1) a b c d e f g h)))
def ahp (k:Nat) (F:adK) (b:LF) (c:BA) (d:LP) (e:Int) (f:Bool) (g:Int) (h:LS) (a:List Int) (i:Nat) (m:BA) (j:Int) (l:LS) (nx1:Nat→LF→BA→LP→Int→Bool→Int→LS→(List Int)→Option (aak × Bool)):Option (aak × Bool):=(cond (!seq m ⟨#[]⟩) ((idxO a j).bind fun n=>(aiv k F b c d e f g h i l (a.set j.toNat 1) nx1)) (aiv k F b c d e f g h i l a nx1))
def acV (k:Nat) (F:adK) (i:LS) (j:LS) (l:LS):LC→Nat→LF→BA→LP→Int→Bool→Int→LS→(List Int)→Option (aak × Bool)
 | [],m,a,b,c,d,e,f,g,h=>((F.f36 (aak.mk (aaa.mk a) (aaf.mk b c d e f g) h) i).bind fun q_=>match q_ with | (.mk (.mk n) (.mk o p q r s t) u,O)=>(cond O ((F.f36 (aak.mk (aaa.mk n) (aaf.mk o p q r s t) u) j).bind fun q_=>match q_ with | (.mk (.mk v) (.mk w x y z A B) C,S)=>(cond S ((F.f36 (aak.mk (aaa.mk v) (aaf.mk w x y z A B) C) l).bind fun q_=>match q_ with | (.mk (.mk U) (.mk V W X Y Z ab) ac,ad)=>(aic k F ad U V W X Y Z ab ac)) (aic k F false v w x y z A B C))) (aic k F false n o p q r s t u)))
 | (.mk ae D G I J) :: N,m,a,b,c,d,e,f,g,h=>(ae4 (mget qI ae (mput qI 3 [1] (mput qI 2 [4,1] (mput qI 1 [4] ([]:List (Int × (List Int))))))) ((f84 k (aak.mk (aaa.mk a) (aaf.mk b c d e f g) h) I []).bind fun af=>(cond (!af) (some ((aak.mk (aaa.mk a) (aaf.mk b c d e f g) h),false)) (ahp k F a b c d e f g h m D G J (acV k F i j l N)))) (fun ag=>((f84 k (aak.mk (aaa.mk a) (aaf.mk b c d e f g) h) I ag).bind fun ah=>(cond (!ah) (some ((aak.mk (aaa.mk a) (aaf.mk b c d e f g) h),false)) (ahp k F a b c d e f g h m D G J (acV k F i j l N))))))
def ald (k:Nat) (F:adK) (a:LF) (b:BA) (c:LP) (d:Int) (e:Bool) (f:Int) (g:LS) (h:LS) (i:LS) (j:LS) (l:LC) (m:List Int):Option (aak × Bool):=(acV k F h i j l 0 a b c d e f g m)
def agU (k:Nat) (F:adK) (b:LF) (c:BA) (d:LP) (e:Int) (f:Bool) (g:Int) (h:LS) (a:(List Int)) (o:BA) (i:Int) (j:LS) (l:LS) (m:LS) (n:LC) (p:Int) (q:Bool):Option (aak × Bool):=(cond q (some ((aak.mk (aaa.mk b) (aaf.mk c d e f g h) a),false)) (cond (!seq o ⟨#[]⟩) ((idxO a i).bind fun r=>(ald k F b c d e f g h j l m n (a.set i.toNat p))) (ald k F b c d e f g h j l m n a)))
def ale (k:Nat) (F:adK) (a:LF) (b:BA) (c:LP) (d:Int) (e:Bool) (f:Int) (g:LS) (h:(List Int)) (i:BA) (j:Int) (q:LE) (l:LS) (m:LS) (n:LS) (o:LC) (p:Int) (r:List Int) (s:Bool):Option (aak × Bool):=(cond s ((f84 k (aak.mk (aaa.mk a) (aaf.mk b c d e f g) h) q r).bind fun t=>(agU k F a b c d e f g h i j l m n o p (!t))) (agU k F a b c d e f g h i j l m n o p false))
def aek (k:Nat) (F:adK) (a:LF) (b:BA) (c:LP) (d:Int) (e:Bool) (f:Int) (g:LS) (h:(List Int)) (r:Int) (i:BA) (j:Int) (l:LE) (m:LS) (n:LS) (o:LS) (p:LC) (q:Int):Option (aak × Bool):=((f85 k ).bind fun s=>(ae4 (mget qI r s) (ale k F a b c d e f g h i j l m n o p q [] false) (fun t=>(ale k F a b c d e f g h i j l m n o p q t true))))
def afX (k:Nat) (F:adK) (b:LF) (c:BA) (d:LP) (e:Int) (f:Bool) (g:Int) (h:LS) (i:(List Int)) (a:Int) (j:BA) (l:Int) (m:LE) (n:LS) (o:LS) (p:LS) (q:LC) (r:Int):Option (aak × Bool):=(cond (a == 28) (aek k F b c d e f g h i a j l m n o p q 1) (aek k F b c d e f g h i a j l m n o p q r))
def ahA (k:Nat) (F:adK) (a:LF) (b:BA) (c:LP) (d:Int) (e:Bool) (f:Int) (g:LS) (h:(List Int)) (i:Int) (j:BA) (l:Int) (m:LE) (n:LS) (o:LS) (p:LS) (q:LC) (r:Bool):Option (aak × Bool):=(cond r (some ((aak.mk (aaa.mk a) (aaf.mk b c d e f g) h),false)) (afX k F a b c d e f g h i j l m n o p q 5))
def agq (k:Nat) (F:adK) (a:LF) (b:BA) (c:LP) (d:Int) (e:Bool) (f:Int) (g:LS) (h:(List Int)) (i:Int) (j:BA) (l:Int) (m:LE) (n:LS) (o:LS) (p:LS) (q:LC) (r:Int) (s:Bool):Option (aak × Bool):=(cond s (some ((aak.mk (aaa.mk a) (aaf.mk b c d e f g) h),false)) (cond (i == 4) (cond (r != 1) (ahA k F a b c d e f g h i j l m n o p q (r != 0)) (ahA k F a b c d e f g h i j l m n o p q false)) (afX k F a b c d e f g h i j l m n o p q r)))
def aez (k:Nat) (F:adK) (b:LF) (c:BA) (d:LP) (e:Int) (f:Bool) (g:Int) (h:LS) (i:(List Int)) (a:Int) (j:BA) (m:Int) (s:Int) (l:LE) (n:LS) (o:LS) (p:LS) (q:LC) (t:Bool):Option (aak × Bool):=(cond t ((idxO b s).bind fun q_=>match q_ with | .mk u v r w x y=>((f26 k (aaf.mk u v r w x y)).bind fun z=>((f84 k (aak.mk (aaa.mk b) (aaf.mk c d e f g h) i) l z).bind fun A=>(cond (!A) (agq k F b c d e f g h i a j m l n o p q r true) (cond (a == 3) (cond (!seq j ⟨#[]⟩) (agq k F b c d e f g h i a j m l n o p q r (r == 0)) (agq k F b c d e f g h i a j m l n o p q r false)) (agq k F b c d e f g h i a j m l n o p q r false)))))) (cond (a == 7) (aek k F b c d e f g h i a j m l n o p q 4) (cond (a == 8) (aek k F b c d e f g h i a j m l n o p q 6) (cond (a == 24) (aek k F b c d e f g h i a j m l n o p q 3) (aek k F b c d e f g h i a j m l n o p q 1)))))
def am8 (k:Nat) (F:adK):aak→aag→Option (aak × Bool):=fun t u =>
 match t,u with
 | .mk (.mk d) (.mk e f c g h i) a,.mk b m l Y r Z j n o p q=>(cond (b == 1) ((idxO j 0).bind fun q_=>match q_ with | .mk v w x y z=>((f33 k (aal.mk v w x y z) a).bind fun s=>(cond (s == (-1)) (some ((aak.mk (aaa.mk d) (aaf.mk e f c g h i) a),false)) (aek k F d e f c g h i a b m l j n o p q s)))) (cond (b == 14) ((idxO j 0).bind fun q_=>match q_ with | .mk A B C D G=>((f33 k (aal.mk A B C D G) a).bind fun I=>(cond (I == (-1)) (some ((aak.mk (aaa.mk d) (aaf.mk e f c g h i) a),false)) (aek k F d e f c g h i a b m l j n o p q 1)))) (cond (b == 2) ((idxO j 0).bind fun q_=>match q_ with | .mk J N O S U=>((idxO a l).bind fun V=>((f33 k (aal.mk J N O S U) a).bind fun W=>(some ((aak.mk (aaa.mk d) (aaf.mk e f c g h i) a),(W == V)))))) (cond (b == 17) ((f84 k (aak.mk (aaa.mk d) (aaf.mk e f c g h i) a) j [c]).bind fun X=>(some ((aak.mk (aaa.mk d) (aaf.mk e f c g h i) a),X))) (cond (b == 3) (aez k F d e f c g h i a b m l r j n o p q (b == 3)) (cond (b == 4) (aez k F d e f c g h i a b m l r j n o p q (b == 4)) (aez k F d e f c g h i a b m l r j n o p q (b == 28))))))))
def agB (k0:Nat):Nat→adK
 | 0=>{ f36:=fun _ _=>none,f57:=fun _ _=>none }
 | k + 1=>{ f36:=arz k0 (agB k0 k),f57:=am8 k0 (agB k0 k) }
def f36 (k:Nat):aak→LS→Option (aak × Bool):=(agB k k).f36
def f57 (k:Nat):aak→aag→Option (aak × Bool):=(agB k k).f57
def air (k:Nat) (b:LF) (a:Int) (c:List (List Int)):Option (aaa × (List (List Int)) × Int):=(cond (a != 0) (some ((aaa.mk []),[],a)) (some ((aaa.mk b),c,0)))
def ain (k:Nat) (c:LF) (a:List (List Int)) (d:Nat) (b:Int) (e:List Int) (nx1:Nat→Int→(List (List Int))→Option (aaa × (List (List Int)) × Int)):Option (aaa × (List (List Int)) × Int):=(cond (b != 0) (air k c b a) (aaW (decide ((a.length + 1) * 24 ≤ 140737488355328)) (nx1 (d + 1) b (a ++ [e]))))
def akx (k:Nat) (a:LF) (e:Int) (b:List (List Int)) (c:Nat) (d:(List Int)) (f:Bool) (nx1:Nat→Int→(List (List Int))→Option (aaa × (List (List Int)) × Int)):Option (aaa × (List (List Int)) × Int):=(cond f (ain k a b c 26 d nx1) (ain k a b c e d nx1))
def amP (k:Nat) (a:LF) (e:Int) (b:List (List Int)) (c:Nat) (g:Int) (f:LS) (h:LF) (i:BA) (j:LP) (l:Int) (m:Bool) (n:Int) (o:LS) (p:List Int) (nx1:Nat→Int→(List (List Int))→Option (aaa × (List (List Int)) × Int)):Option (aaa × (List (List Int)) × Int):=((f36 k (aak.mk (aaa.mk h) (aaf.mk i j l m n o) p) f).bind fun q_=>match q_ with | (.mk (.mk s) (.mk t u v w x y) d,q)=>(cond (!q) (ain k a b c 23 d nx1) (cond (g != 0) ((f24 k f).bind fun r=>(akx k a e b c d (!r) nx1)) (akx k a e b c d false nx1))))
def aeA (k:Nat) (c:LF):LF→Nat→Int→(List (List Int))→Option (aaa × (List (List Int)) × Int)
 | [],h,d,e=>(air k c d e)
 | (.mk i a f j b g) :: m,h,d,e=>((f26 k (aaf.mk i a f j b g)).bind fun l=>(aaW (decide (0 ≤ (w64 (b - (a.length:Int)))∧((l.length:Int) + (w64 (b - (a.length:Int)))) * ((8:Nat):Int) ≤ 140737488355328)) (amP k c d e h f g c i a f j b g (l ++ List.replicate (w64 (b - (a.length:Int))).toNat (0:Int)) (aeA k c m))))
def aqf (k:Nat):aaa→Option (aaa × (List (List Int)) × Int):=fun d =>
 match d with
 | .mk e=>((f34 k (aaa.mk e)).bind fun q_=>match q_ with | (.mk f,b)=>(cond (b != 0) (some ((aaa.mk []),[],b)) ((f35 k (aaa.mk f)).bind fun q_=>match q_ with | (.mk c,a)=>(cond (a != 0) (some ((aaa.mk []),[],a)) (aeA k c c 0 a ([]:List (List Int)))))))
def f21 (k:Nat):aaa→Option (aaa × (List (List Int)) × Int):=aqf k
def aij (k:Nat) (b:Int) (c:(List (List Int))) (a:Int):Option ((List Int) × Int):=(cond (a != 0) (some ([],a)) ((idxO c b).bind fun d=>(some (d,0))))
def ahm (k:Nat) (a:Int) (b:(List (List Int))) (c:Int) (d:Bool):Option ((List Int) × Int):=(cond d (aij k a b 2) (aij k a b c))
def aol (k:Nat):aaa→Int→Option ((List Int) × Int):=fun d a =>
 match d,a with
 | .mk e,a=>((f21 k (aaa.mk e)).bind fun q_=>match q_ with | (.mk f,b,c)=>(cond (c == 0) (cond (decide (a < 0)) (ahm k a b c true) (ahm k a b c (decide (a ≥ (b.length:Int))))) (ahm k a b c false)))
def f15 (k:Nat):aaa→Int→Option ((List Int) × Int):=aol k
def akK (k:Nat) (a:Bool):Option Bool:=(some a)
def akN (k:Nat) (a:Bool):Option Bool:=(some a)
def al8 (k:Nat) (a:Bool):Option Bool:=(some a)
def ala (k:Nat) (a:Bool):Option Bool:=(some a)
def akk (k:Nat) (b:Int) (a:Int) (c:BA) (d:Bool):Option Bool:=(cond d (cond (((b == b && (a == a && seq c ⟨#[]⟩))) == true) (cond (decide (a ≥ 1)) (ala k (decide (a ≤ 1000000000000))) (ala k false)) (ala k false)) (some false))
def arZ (k:Nat):aaH→Option Bool:=fun d =>
 match d with
 | .mk a b c=>(cond (a == 0) (some (((a == 0 && (b == 0 && seq c ⟨#[]⟩))) == true)) (cond (a == 1) (cond (((a == a && (b == b && seq c ⟨#[]⟩))) == true) (cond (decide (b ≥ (-1000000000000))) (akK k (decide (b ≤ 1000000000000))) (akK k false)) (akK k false)) (cond (a == 2) (cond (((a == a && (b == b && seq c ⟨#[]⟩))) == true) (cond (b == 0) (akN k true) (akN k (b == 1))) (akN k false)) (cond (a == 3) ((f66 k c).bind fun e=>(cond (b == 0) (al8 k ((cond e (0:Int) 2) == 0)) (al8 k false))) (cond (a == 4) (akk k a b c (a == 4)) (cond (a == 5) (akk k a b c (a == 5)) (akk k a b c (a == 6))))))))
def f27 (k:Nat):aaH→Option Bool:=arZ k
def agY (k:Nat) (a:Nat) (b:Bool) (nx1:Nat→Option Int):Option Int:=(cond b (some 23) (nx1 (a + 1)))
def adw (k:Nat) (b:(List Int)):List aaH→Nat→Option Int
 | [],a=>(some 0)
 | (.mk c e f) :: d,a=>((f27 k (aaH.mk c e f)).bind fun g=>(cond (!g) (agY k a true (adw k b d)) ((idxO b (a:Int)).bind fun h=>(agY k a (c != h) (adw k b d)))))
def ak0 (k:Nat) (c:Int) (a:(List aaH)) (d:LF) (e:Bool):Option Int:=(cond e (some 2) ((idxO d c).bind fun q_=>match q_ with | .mk f g h i j l=>((f26 k (aaf.mk f g h i j l)).bind fun b=>(cond ((b.length:Int) != (a.length:Int)) (some 24) (adw k b a 0)))))
def aqi (k:Nat):aaa→Int→(List aaH)→Option Int:=fun e a b =>
 match e,a,b with
 | .mk f,a,b=>((f21 k (aaa.mk f)).bind fun q_=>match q_ with | (.mk c,g,d)=>(cond (d != 0) (some d) (cond (decide (a < 0)) (ak0 k a b c true) (ak0 k a b c (decide (a ≥ (c.length:Int)))))))
def f17 (k:Nat):aaa→Int→(List aaH)→Option Int:=aqi k
structure ao6 where
 f28:LE→Int→Option Int
def amg (k:Nat) (F:ao6) (a:Int):Option Int:=(some a)
def ahR (k:Nat) (F:ao6) (b:Int):LE→Nat→Int→Option Int
 | [],c,a=>(amg k F a)
 | (.mk g h i j d) :: e,c,a=>(cond (decide (a ≤ 2000)) ((F.f28 d (w64 (b + 1))).bind fun f=>((ahR k F b e) (c + 1) (w64 ((w64 (a + 1)) + f)))) (amg k F a))
def anJ (k:Nat) (F:ao6):LE→Int→Option Int:=fun b a=>(cond (decide (a > 60)) (some 4000) (ahR k F a b 0 0))
def alM (k0:Nat):Nat→ao6
 | 0=>{ f28:=fun _ _=>none }
 | k + 1=>{ f28:=anJ k0 (alM k0 k) }
def f28 (k:Nat):LE→Int→Option Int:=(alM k k).f28
structure alU where
 f18:LS→Int→Option Int
def amc (k:Nat) (F:alU) (a:Int):Option Int:=(some a)
def amD (k:Nat) (F:alU) (a:Nat) (b:Int) (nx1:Nat→Int→Option Int):Option Int:=(nx1 (a + 1) b)
def ahJ (k:Nat) (F:alU) (b:Int) (c:Nat) (nx1:Nat→Int→Option Int):LC→Nat→Int→Option Int
 | [],d,a=>(amD k F c a nx1)
 | (.mk j l m e f) :: g,d,a=>(cond (decide (a ≤ 2000)) ((f28 k e (w64 (b + 1))).bind fun h=>((F.f18 f (w64 (b + 1))).bind fun i=>((ahJ k F b c nx1 g) (d + 1) (w64 ((w64 ((w64 (a + 1)) + h)) + i))))) (amD k F c a nx1))
def afq (k:Nat) (F:alU) (a:Int):LS→Nat→Int→Option Int
 | [],c,b=>(amc k F b)
 | (.mk o p q r s t d e f g h) :: i,c,b=>(cond (decide (b ≤ 2000)) ((f28 k d (w64 (a + 1))).bind fun j=>((F.f18 e (w64 (a + 1))).bind fun l=>((F.f18 f (w64 (a + 1))).bind fun m=>((F.f18 g (w64 (a + 1))).bind fun n=>(ahJ k F a c (afq k F a i) h 0 (w64 ((w64 ((w64 ((w64 ((w64 (b + 1)) + j)) + l)) + m)) + n))))))) (amc k F b))
def aoI (k:Nat) (F:alU):LS→Int→Option Int:=fun b a=>(cond (decide (a > 40)) (some 4000) (afq k F a b 0 0))
def akr (k0:Nat):Nat→alU
 | 0=>{ f18:=fun _ _=>none }
 | k + 1=>{ f18:=aoI k0 (akr k0 k) }
def f18 (k:Nat):LS→Int→Option Int:=(akr k k).f18
def apv (k:Nat) (a:Int):Option Bool:=(some (decide (a ≤ 2000)))
def alk (k:Nat)  : LF→Nat→Int→Option Bool
 | [],b,a=>(apv k a)
 | (.mk f g h i j c) :: d,b,a=>(cond (decide (a ≤ 2000)) ((f18 k c 0).bind fun e=>((alk k d) (b + 1) (w64 ((w64 (a + 1)) + e)))) (apv k a))
def f7_b (k:Nat):aaa→Option Bool:=fun a =>
 match a with
 | .mk b=>(alk k b 0 0)
def f7 (k:Nat):aaa→Option Bool:=f7_b k
def as7 (k:Nat):aaa→Option (aaa × Int):=fun a =>
 match a with
 | .mk b=>((f21 k (aaa.mk b)).bind fun q_=>match q_ with | (.mk c,e,d)=>(some ((aaa.mk c),d)))
def f10 (k:Nat):aaa→Option (aaa × Int):=as7 k
def arC (k:Nat):LS→Option aaa:=fun a=>(some (aaa.mk [(aaf.mk ⟨#[109,97,105,110]⟩ [] 0 false 0 []),(aaf.mk ⟨#[102]⟩ [] 1 false 0 [(aag.mk 21 ⟨#[]⟩ 0 ⟨#[]⟩ 0 0 [(aal.mk 2 1 ⟨#[]⟩ 0 [])] a [] [] [])])]))
def f19 (k:Nat):LS→Option aaa:=arC k
def amx (k:Nat) (a:Bool):Option Bool:=(some a)
def ast (k:Nat):Int→Option Bool:=fun a=>(cond (decide (a < 0)) (amx k true) (amx k (decide (a > 6))))
def f30 (k:Nat):Int→Option Bool:=ast k
def adh (k:Nat)  : List Int→Nat→Option Int
 | [],a=>(some (-1))
 | b :: c,a=>((f30 k b).bind fun d=>(cond d (some (a:Int)) ((adh k c) (a + 1))))
def af1 (k:Nat):(List Int)→Option Int:=fun a=>(adh k a 0)
def ama (k:Nat):(List Int)→Option Int:=af1 k
def agi (k:Nat):(List Int)→Option Bool:=fun a=>((ama k a).bind fun b=>(some (decide (b ≥ 0))))
def amb (k:Nat):(List Int)→Option Bool:=agi k
def as1 (k:Nat):aal→Bool→Option Bool:=fun b a =>
 match b,a with
 | .mk c d e f g,a=>((f47 k (aac.mk 0 0 a) (aal.mk c d e f g) 1).bind fun q_=>match q_ with | (.mk i j l,h)=>(some h))
def f31 (k:Nat):aal→Bool→Option Bool:=as1 k
structure afi where
 f32:aal→Int→Option Bool
 f1004841:LE→Int→Option Bool
 f1004932:aal→Int→Option Bool
 f1007390:LE→Unit→Int→Option Bool
 f1007438:aal→Unit→Int→Option Bool
 f1009890:LE→Unit→Int→Option Int
def aii (k:Nat) (F:afi) (a:Bool):Option Bool:=(some a)
def as5 (k:Nat) (F:afi):aal→Int→Option Bool:=fun d a =>
 match d,a with
 | .mk e h i b c,a=>(cond (e != 4) ((F.f1004841 c a).bind fun f=>(aii k F f)) (cond (decide (b ≥ 0)) (cond (decide (b < a)) ((F.f1004841 c a).bind fun g=>(aii k F g)) (aii k F false)) (aii k F false)))
def af7 (k:Nat) (F:afi):LE→Int→Option Bool:=fun a s=>((F.f1007390 a () s).bind fun b=>(some (!b)))
def afZ (k:Nat) (F:afi):aal→Int→Option Bool:=fun a b =>
 match a,b with
 | .mk c d e f g,s=>((F.f32 (aal.mk c d e f g) s).bind fun h=>(some h))
def afG (k:Nat) (F:afi):LE→Unit→Int→Option Bool:=fun a _ sA=>((F.f1009890 a () sA).bind fun b=>(some (decide (b ≥ 0))))
def afS (k:Nat) (F:afi):aal→Unit→Int→Option Bool:=fun a b c =>
 match a,b,c with
 | .mk d e f g h,_,sA=>((F.f1004932 (aal.mk d e f g h) sA).bind fun i=>(some (!i)))
def adq (k:Nat) (F:afi) (sA:Int):LE→Nat→Option Int
 | [],a=>(some (-1))
 | (.mk b c d e f) :: g,a=>((F.f1007438 (aal.mk b c d e f) () sA).bind fun h=>(cond h (some (a:Int)) ((adq k F sA g) (a + 1))))
def afH (k:Nat) (F:afi):LE→Unit→Int→Option Int:=fun a _ sA=>(adq k F sA a 0)
def ac4 (k0:Nat):Nat→afi
 | 0=>{ f32:=fun _ _=>none,f1004841:=fun _ _=>none,f1004932:=fun _ _=>none,f1007390:=fun _ _ _=>none,f1007438:=fun _ _ _=>none,f1009890:=fun _ _ _=>none }
 | k + 1=>{ f32:=as5 k0 (ac4 k0 k),f1004841:=af7 k0 (ac4 k0 k),f1004932:=afZ k0 (ac4 k0 k),f1007390:=afG k0 (ac4 k0 k),f1007438:=afS k0 (ac4 k0 k),f1009890:=afH k0 (ac4 k0 k) }
def f32 (k:Nat):aal→Int→Option Bool:=(ac4 k k).f32
def f1004841 (k:Nat):LE→Int→Option Bool:=(ac4 k k).f1004841
def f1004932 (k:Nat):aal→Int→Option Bool:=(ac4 k k).f1004932
def f1007390 (k:Nat):LE→Unit→Int→Option Bool:=(ac4 k k).f1007390
def f1007438 (k:Nat):aal→Unit→Int→Option Bool:=(ac4 k k).f1007438
def f1009890 (k:Nat):LE→Unit→Int→Option Int:=(ac4 k k).f1009890
def akE (k:Nat) (b:Int) (c:Int) (d:BA) (e:Int) (f:LE) (g:(List Int)) (h:Bool):Option (Int × Int):=(cond h (some (0,2)) ((f33 k (aal.mk b c d e f) g).bind fun a=>(cond (a == (-1)) (some (0,23)) (some (a,0)))))
def aro (k:Nat):aal→(List Int)→Option (Int × Int):=fun g a =>
 match g,a with
 | .mk b c d e f,a=>((amb k a).bind fun h=>((f31 k (aal.mk b c d e f) true).bind fun i=>(cond (!i) (akE k b c d e f a true) ((f32 k (aal.mk b c d e f) (a.length:Int)).bind fun j=>(cond (!j) (akE k b c d e f a true) (akE k b c d e f a h))))))
def f20 (k:Nat):aal→(List Int)→Option (Int × Int):=aro k
def alT (k:Nat) (a:Bool):Option Bool:=(some a)
def f8_b (k:Nat):Option Bool:=((f19 k []).bind fun q_=>match q_ with | .mk a=>((f10 k (aaa.mk a)).bind fun q_=>match q_ with | (.mk g,b)=>((f19 k [(aag.mk 18 ⟨#[]⟩ 0 ⟨#[]⟩ 0 0 [] [] [] [] [])]).bind fun q_=>match q_ with | .mk c=>((f10 k (aaa.mk c)).bind fun q_=>match q_ with | (.mk h,d)=>((f20 k (aal.mk 11 0 ⟨#[]⟩ 0 [(aal.mk 1 0 ⟨#[]⟩ 0 []),(aal.mk 4 0 ⟨#[120]⟩ 1 [])]) [3,1]).bind fun q_=>match q_ with | (e,f)=>(cond (b == 0) (cond (d == 26) (cond (f == 0) (cond (e == 2) (alT k true) (alT k false)) (alT k false)) (alT k false)) (alT k false)))))))
def f8 (k:Nat):Option Bool:=f8_b k
def f9_b (k:Nat):Int→Int→Option Int:=fun b a=>(aaW (decide (¬ (IntKind.u64.wrap a)=0)) (some (w64 ((IntKind.u64.wrap b).tmod (IntKind.u64.wrap a)))))
def f9 (k:Nat):Int→Int→Option Int:=f9_b k
def anq (k:Nat) (a:Bool):Option Bool:=(some a)
def aod (k:Nat) (a:Bool):Option Bool:=(some a)
def amT (k:Nat) (a:Bool):Option Bool:=(some a)
def anh (k:Nat) (c:LF) (d:Int) (a:LP) (b:List aaH):Option Bool:=((f17 k (aaa.mk c) d b).bind fun e=>(cond (e == 23) (aaW (decide (0 ≤ (w64 ((a.length:Int) - 1))∧(w64 ((a.length:Int) - 1)) ≤ (b.length:Int))) ((f17 k (aaa.mk c) d (b.take (w64 ((a.length:Int) - 1)).toNat)).bind fun f=>(cond (f == 24) ((f8 k ).bind fun g=>(amT k g)) (amT k false)))) (amT k false)))
def aoK (k:Nat) (a:List aaH) (b:Nat) (c:Int) (d:Int) (nx1:Nat→(List aaH)→Option Bool):Option Bool:=(aaW (decide ((a.length + 1) * 32 ≤ 140737488355328)) (nx1 (b + 1) (a ++ [(aaH.mk c d ⟨#[]⟩)])))
def ahl (k:Nat) (b:LF) (g:Int) (c:Int) (h:(List Int)) (d:LP):LP→Nat→(List aaH)→Option Bool
 | [],e,a=>((f17 k (aaa.mk b) c a).bind fun n=>(cond (n != 0) (some false) (cond ((d.length:Int) == 0) ((f17 k (aaa.mk b) c [(aaH.mk 0 0 ⟨#[]⟩)]).bind fun o=>(cond (o == 24) ((f8 k ).bind fun p=>(aod k p)) (aod k false))) ((f9 k g (d.length:Int)).bind fun f=>((idxO a f).bind fun q_=>match q_ with | .mk i q l=>(cond (i == 1) (anh k b c d ((a.set f.toNat (aaH.mk i (-1) l)).set f.toNat (aaH.mk 1 0 ⟨#[120]⟩))) (anh k b c d (a.set f.toNat (aaH.mk i (-1) l)))))))))
 | (.mk r s) :: m,e,a=>((idxO h (e:Int)).bind fun j=>(cond (decide (j > 3)) (aoK k a e j 1 (ahl k b g c h d m)) (aoK k a e j 0 (ahl k b g c h d m))))
def am0 (k:Nat) (a:LF) (d:Int) (b:Int) (e:(List Int)) (f:Int) (g:Bool):Option Bool:=(cond g (cond (f != 0) ((f8 k ).bind fun h=>(anq k h)) (anq k false)) ((idxO a b).bind fun q_=>match q_ with | .mk i c j l m n=>(ahl k a d b e c c 0 ([]:List aaH))))
def alX (k:Nat) (a:LF) (f:Int) (e:Int) (g:Bool):Option Bool:=(cond g ((f8 k ).bind fun h=>(some h)) ((f9 k f (a.length:Int)).bind fun b=>((f15 k (aaa.mk a) b).bind fun q_=>match q_ with | (c,d)=>(cond (d != 0) (am0 k a e b c d true) ((idxO a b).bind fun q_=>match q_ with | .mk j i l m n o=>(am0 k a e b c d (decide ((c.length:Int) < (i.length:Int)))))))))
def f6_b (k:Nat):aaa→Int→Int→Option Bool:=fun d a b =>
 match d,a,b with
 | .mk c,a,b=>((f7 k (aaa.mk c)).bind fun e=>(cond (!e) (alX k c a b true) (alX k c a b ((c.length:Int) == 0))))
def f6 (k:Nat):aaa→Int→Int→Option Bool:=f6_b k
def aj9 (X:aag→Option (List LS)):Prop:=∀ {K w b c a},X b=some a→GK K→aaj K b c→ SR K K w w [] []→Calls Tryz.prog 92 #[.agg c.toArray] w (Ret (fun v_ w_=>∃ K_ Ar0 cr0,v_=sl Ar0 a cr0∧SR K K_ w w_ [] []∧RSl LS (RSlE aag (fun K=>(aaj K)) 11 184 K_) 1 24 K_ Ar0 cr0 a))
def acz (X:LS→Option Bool):Prop:=∀ {K w a b c d},X a=some d→GK K→tS K b c a→ SR K K w w [] []→Calls Tryz.prog 63 #[sl b a c] w (Ret (fun v_ w_=>∃ K_,v_=.bool d∧SR K K_ w w_ [] []))
def acE (X:aag→Option Bool):Prop:=∀ {K w a b c},X a=some c→GK K→aaj K a b→ SR K K w w [] []→Calls Tryz.prog 90 #[.agg b.toArray] w (Ret (fun v_ w_=>∃ K_,v_=.bool c∧SR K K_ w w_ [] []))
def abc (X:LS→Option Bool):Prop:=∀ {K w a b c d},X a=some d→GK K→tS K b c a→ SR K K w w [] []→Calls Tryz.prog 42 #[sl b a c,.func (.func 90) #[] #[]] w (Ret (fun v_ w_=>∃ K_,v_=.bool d∧SR K K_ w w_ [] []))
def aa6 (X:LS→Option Int):Prop:=∀ {K w a b c d},X a=some d→GK K→tS K b c a→ SR K K w w [] []→Calls Tryz.prog 62 #[sl b a c,.func (.func 90) #[] #[]] w (Ret (fun v_ w_=>∃ K_,v_=iI d∧SR K K_ w w_ [] []))
def abe (X:(List LS)→Option Bool):Prop:=∀ {K w a b c d},X a=some d→GK K→RSl LS (RSlE aag (fun K=>(aaj K)) 11 184 K) 1 24 K b c a→ SR K K w w [] []→Calls Tryz.prog 91 #[sl b a c,.func (.func 63) #[] #[]] w (Ret (fun v_ w_=>∃ K_,v_=.bool d∧SR K K_ w w_ [] []))
def abd (X:(List LS)→Option Int):Prop:=∀ {K w a b c d},X a=some d→GK K→RSl LS (RSlE aag (fun K=>(aaj K)) 11 184 K) 1 24 K b c a→ SR K K w w [] []→Calls Tryz.prog 107 #[sl b a c,.func (.func 63) #[] #[]] w (Ret (fun v_ w_=>∃ K_,v_=iI d∧SR K K_ w w_ [] []))
def abY (X:LS→Option Bool):Prop:=∀ {K w a b c d},X a=some d→GK K→tS K b c a→ SR K K w w [] []→Calls Tryz.prog 24 #[sl b a c] w (Ret (fun v_ w_=>∃ K_,v_=.bool d∧SR K K_ w w_ [] []))
def ab1 (X:aag→Option Bool):Prop:=∀ {K w a b c},X a=some c→GK K→aaj K a b→ SR K K w w [] []→Calls Tryz.prog 43 #[.agg b.toArray] w (Ret (fun v_ w_=>∃ K_,v_=.bool c∧SR K K_ w w_ [] []))
def abZ (X:aaz→Option Bool):Prop:=∀ {K w a b c},X a=some c→GK K→aaI K a b→ SR K K w w [] []→Calls Tryz.prog 65 #[.agg b.toArray] w (Ret (fun v_ w_=>∃ K_,v_=.bool c∧SR K K_ w w_ [] []))
def aaR (X:LS→Option Bool):Prop:=∀ {K w a b c d},X a=some d→GK K→tS K b c a→ SR K K w w [] []→Calls Tryz.prog 42 #[sl b a c,.func (.func 43) #[] #[]] w (Ret (fun v_ w_=>∃ K_,v_=.bool d∧SR K K_ w w_ [] []))
def aaU (X:LS→Option Int):Prop:=∀ {K w a b c d},X a=some d→GK K→tS K b c a→ SR K K w w [] []→Calls Tryz.prog 62 #[sl b a c,.func (.func 43) #[] #[]] w (Ret (fun v_ w_=>∃ K_,v_=iI d∧SR K K_ w w_ [] []))
def aaT (X:LC→Option Bool):Prop:=∀ {K w a b c d},X a=some d→GK K→tC K b c a→ SR K K w w [] []→Calls Tryz.prog 64 #[sl b a c,.func (.func 65) #[] #[]] w (Ret (fun v_ w_=>∃ K_,v_=.bool d∧SR K K_ w w_ [] []))
def aaQ (X:LC→Unit→Option Bool):Prop:=∀ {K w a b c g bs d},X a ()=some d→GK K→tC K b c a→ (fun E:Ents=>SR K K w w E E→Calls Tryz.prog 93 #[sl b a c,.func (.func 94) #[] #[.pointer (some ⟨g,0,none⟩)]] w (Ret (fun v_ w_=>∃ K_,v_=.bool d∧SR K K_ w w_ E E))) [.box bs g #[.func (.func 65) #[] #[]] 111]
def aaS (X:aaz→Unit→Option Bool):Prop:=∀ {K w a b g bs c},X a ()=some c→GK K→aaI K a b→ (fun E:Ents=>SR K K w w E E→Calls Tryz.prog 94 #[.agg b.toArray,.pointer (some ⟨g,0,none⟩)] w (Ret (fun v_ w_=>∃ K_,v_=.bool c∧SR K K_ w w_ E E))) [.box bs g #[.func (.func 65) #[] #[]] 111]
def aaP (X:LC→Unit→Option Int):Prop:=∀ {K w a b c g bs d},X a ()=some d→GK K→tC K b c a→ (fun E:Ents=>SR K K w w E E→Calls Tryz.prog 108 #[sl b a c,.func (.func 94) #[] #[.pointer (some ⟨g,0,none⟩)]] w (Ret (fun v_ w_=>∃ K_,v_=iI d∧SR K K_ w w_ E E))) [.box bs g #[.func (.func 65) #[] #[]] 111]
def ajQ (X:aaf→Option (List Int)):Prop:=∀ {K w b c a},X b=some a→GK K→aav K b c→ SR K K w w [] []→Calls Tryz.prog 26 #[.agg c.toArray] w (Ret (fun v_ w_=>∃ K_ Ar0 cr0 yr0,v_=sl Ar0 a cr0∧SR K K_ w w_ [] [eW (zz w) Ar0 a cr0 3 1 yr0]∧Reps (RInt .i64) 1 a yr0∧a.length * 8 ≤ mB))
def agL (X:Bool→Int→Option (Except Int Unit)):Prop:=∀ {K w a b res_},X a b=some res_→GK K→ SR K K w w [] []→Calls Tryz.prog 77 #[.bool a,iI b] w (RetP (fun v_ w_=>∃ K_,res_=.ok ()∧v_=.tuple #[]∧SR K K_ w w_ [] []) (fun v_ w_=>∃ c_ K_,res_=.error c_∧v_=.iface 118 (.agg #[iI c_])∧SR K K_ w w_ [] []))
def ahc (X:Option (List (Int × aaC))):Prop:=∀ {K w a},X =some a→GK K→ SR K K w w [] []→Calls Tryz.prog 148 #[] w (Ret (fun v_ w_=>∃ K_ br0 er0 cr0,v_=.map (some br0)∧SR K K_ w w_ [] [.mp (zz w) br0 er0 cr0]∧MapR kI (VAgg (aaD K_)) a er0.toList))
def aiD (X:Int→Int→Int→Option Bool):Prop:=∀ {K w a b c d},X a b c=some d→GK K→ SR K K w w [] []→Calls Tryz.prog 69 #[iI a,iI b,iI c] w (Ret (fun v_ w_=>∃ K_,v_=.bool d∧SR K K_ w w_ [] []))
def ag5 (X:aag→Option Bool):Prop:=∀ {K w a b c},X a=some c→GK K→aaj K a b→ SR K K w w [] []→Calls Tryz.prog 149 #[.agg b.toArray] w (Ret (fun v_ w_=>∃ K_,v_=.bool c∧SR K K_ w w_ [] []))
def ajI (X:aac→Int→Option (aac × Bool)):Prop:=∀ {K w g bs a b c d e f h i},X (aac.mk a b c) d=some ((aac.mk e f h),i)→GK K→ (fun E:Ents=>SR K K w w E E→Calls Tryz.prog 68 #[.pointer (some ⟨g,0,none⟩),iI d] w (Ret (fun v_ w_=>∃ K_,v_=.bool i∧SR K K_ w w_ E [.box bs g #[iI e,iI f,.bool h] 95]))) [.box bs g #[iI a,iI b,.bool c] 95]
def ahe (X:Int→Option Bool):Prop:=∀ {K w a b},X a=some b→GK K→ SR K K w w [] []→Calls Tryz.prog 115 #[.int .u8 a] w (Ret (fun v_ w_=>∃ K_,v_=.bool b∧SR K K_ w w_ [] []))
def ahP (X:Int→Option Bool):Prop:=∀ {K w a b},X a=some b→GK K→ SR K K w w [] []→Calls Tryz.prog 116 #[.int .u8 a] w (Ret (fun v_ w_=>∃ K_,v_=.bool b∧SR K K_ w w_ [] []))
def aj7 (X:BA→Option Bool):Prop:=∀ {K w a b},X a=some b→GK K→a.size ≤ mB→ SR K K w w [] []→Calls Tryz.prog 96 #[.string a] w (Ret (fun v_ w_=>∃ K_,v_=.bool b∧SR K K_ w w_ [] []))
def ag6 (X:LB→BA→Option Int):Prop:=∀ {K w a c d b e},X a b=some e→GK K→RSl BA RStr 1 16 K c d a→b.size ≤ mB→ SR K K w w [] []→Calls Tryz.prog 134 #[sl c a d,.string b] w (Ret (fun v_ w_=>∃ K_,v_=iI e∧SR K K_ w w_ [] []))
def ag7 (X:LB→BA→Option Bool):Prop:=∀ {K w a c d b e},X a b=some e→GK K→RSl BA RStr 1 16 K c d a→b.size ≤ mB→ SR K K w w [] []→Calls Tryz.prog 117 #[sl c a d,.string b] w (Ret (fun v_ w_=>∃ K_,v_=.bool e∧SR K K_ w w_ [] []))
def akv (X:Option LB):Prop:=∀ {K w a},X =some a→GK K→ SR K K w w [] []→Calls Tryz.prog 118 #[] w (Ret (fun v_ w_=>∃ K_ Ar0 cr0,v_=sl Ar0 a cr0∧SR K K_ w w_ [] []∧RSl BA RStr 1 16 K_ Ar0 cr0 a))
def ajT (X:BA→Option Bool):Prop:=∀ {K w a b},X a=some b→GK K→a.size ≤ mB→ SR K K w w [] []→Calls Tryz.prog 97 #[.string a] w (Ret (fun v_ w_=>∃ K_,v_=.bool b∧SR K K_ w w_ [] []))
def ajF (X:BA→Option Bool):Prop:=∀ {K w a b},X a=some b→GK K→a.size ≤ mB→ SR K K w w [] []→Calls Tryz.prog 71 #[.string a] w (Ret (fun v_ w_=>∃ K_,v_=.bool b∧SR K K_ w w_ [] []))
def agP (X:BA→Option Bool):Prop:=∀ {K w a b},X a=some b→GK K→a.size ≤ mB→ SR K K w w [] []→Calls Tryz.prog 66 #[.string a] w (Ret (fun v_ w_=>∃ K_,v_=.bool b∧SR K K_ w w_ [] []))
def amQ (X:BA→Option Bool):Prop:=∀ {K w a b},X a=some b→GK K→a.size ≤ mB→ SR K K w w [] []→Calls Tryz.prog 70 #[.string a] w (Ret (fun v_ w_=>∃ K_,v_=.bool b∧SR K K_ w w_ [] []))
def aeg (X:aac→aal→Int→Option (aac × Bool)):Prop:=∀ {K w g bs a b c d e f h i j k},X (aac.mk a b c) d f=some ((aac.mk h i j),k)→GK K→aam K d e→ (fun E:Ents=>SR K K w w E E→Calls Tryz.prog 47 #[.pointer (some ⟨g,0,none⟩),.agg e.toArray,iI f] w (Ret (fun v_ w_=>∃ K_,v_=.bool k∧SR K K_ w w_ E [.box bs g #[iI h,iI i,.bool j] 95]))) [.box bs g #[iI a,iI b,.bool c] 95]
def ad8 (X:aac→LE→Int→Option (aac × Bool)):Prop:=∀ {K w g bs a b c d e f h i j k l},X (aac.mk a b c) d h=some ((aac.mk i j k),l)→GK K→tE K e f d→ (fun E:Ents=>SR K K w w E E→Calls Tryz.prog 72 #[.pointer (some ⟨g,0,none⟩),sl e d f,iI h] w (Ret (fun v_ w_=>∃ K_,v_=.bool l∧SR K K_ w w_ E [.box bs g #[iI i,iI j,.bool k] 95]))) [.box bs g #[iI a,iI b,.bool c] 95]
def acW (X:aac→LS→Int→Option (aac × Bool)):Prop:=∀ {K w g bs a b c d e f h i j k l},X (aac.mk a b c) d h=some ((aac.mk i j k),l)→GK K→tS K e f d→ (fun E:Ents=>SR K K w w E E→Calls Tryz.prog 119 #[.pointer (some ⟨g,0,none⟩),sl e d f,iI h] w (Ret (fun v_ w_=>∃ K_,v_=.bool l∧SR K K_ w w_ E [.box bs g #[iI i,iI j,.bool k] 95]))) [.box bs g #[iI a,iI b,.bool c] 95]
def acS (X:aac→aag→Int→Option (aac × Bool)):Prop:=∀ {K w g bs a b c d e f h i j k},X (aac.mk a b c) d f=some ((aac.mk h i j),k)→GK K→aaj K d e→ (fun E:Ents=>SR K K w w E E→Calls Tryz.prog 136 #[.pointer (some ⟨g,0,none⟩),.agg e.toArray,iI f] w (Ret (fun v_ w_=>∃ K_,v_=.bool k∧SR K K_ w w_ E [.box bs g #[iI h,iI i,.bool j] 95]))) [.box bs g #[iI a,iI b,.bool c] 95]
def acT (X:aac→aaz→Int→Option (aac × Bool)):Prop:=∀ {K w g bs a b c d e f h i j k},X (aac.mk a b c) d f=some ((aac.mk h i j),k)→GK K→aaI K d e→ (fun E:Ents=>SR K K w w E E→Calls Tryz.prog 150 #[.pointer (some ⟨g,0,none⟩),.agg e.toArray,iI f] w (Ret (fun v_ w_=>∃ K_,v_=.bool k∧SR K K_ w w_ E [.box bs g #[iI h,iI i,.bool j] 95]))) [.box bs g #[iI a,iI b,.bool c] 95]
def aiU (X:aac→aaa→Option (aac × Bool)):Prop:=∀ {K w g bs a b c d e f h i j},X (aac.mk a b c) d=some ((aac.mk f h i),j)→GK K→aah K d e→ (fun E:Ents=>SR K K w w E E→Calls Tryz.prog 99 #[.pointer (some ⟨g,0,none⟩),.agg e.toArray] w (Ret (fun v_ w_=>∃ K_,v_=.bool j∧SR K K_ w w_ E [.box bs g #[iI f,iI h,.bool i] 95]))) [.box bs g #[iI a,iI b,.bool c] 95]
def agH (X:aaa→Bool→Option Bool):Prop:=∀ {K w a b c d},X a c=some d→GK K→aah K a b→ SR K K w w [] []→Calls Tryz.prog 78 #[.agg b.toArray,.bool c] w (Ret (fun v_ w_=>∃ K_,v_=.bool d∧SR K K_ w w_ [] []))
def akU (X:LP→Option LP):Prop:=∀ {K w a c d b},X a=some b→GK K→tP K c d a→ SR K K w w [] []→Calls Tryz.prog 100 #[sl c a d] w (Ret (fun v_ w_=>∃ K_ Ar0 cr0,v_=sl Ar0 b cr0∧SR K K_ w w_ [] []∧tP K_ Ar0 cr0 b))
def aha (X:aal→Option Int):Prop:=∀ {K w a b c},X a=some c→GK K→aam K a b→ SR K K w w [] []→Calls Tryz.prog 120 #[.agg b.toArray] w (Ret (fun v_ w_=>∃ K_,v_=iI c∧SR K K_ w w_ [] []))
def abF (X:LE→Option LE):Prop:=∀ {K w a c d b},X a=some b→GK K→tE K c d a→ SR K K w w [] []→Calls Tryz.prog 122 #[sl c a d,.func (.func 120) #[] #[]] w (Ret (fun v_ w_=>∃ K_ Ar0 cr0,v_=sl Ar0 b cr0∧SR K K_ w w_ [] []∧tE K_ Ar0 cr0 b))
def abN (X:aal→Option aal):Prop:=∀ {K w a b c},X a=some c→GK K→aam K a b→ SR K K w w [] []→Calls Tryz.prog 137 #[.agg b.toArray,.func (.func 120) #[] #[]] w (Ret (fun v_ w_=>∃ K_ csr0,v_=.agg csr0.toArray∧SR K K_ w w_ [] []∧aam K_ c csr0))
def ahF (X:aal→Option Int):Prop:=∀ {K w a b c},X a=some c→GK K→aam K a b→ SR K K w w [] []→Calls Tryz.prog 121 #[.agg b.toArray] w (Ret (fun v_ w_=>∃ K_,v_=iI c∧SR K K_ w w_ [] []))
def abL (X:LE→Option LE):Prop:=∀ {K w a c d b},X a=some b→GK K→tE K c d a→ SR K K w w [] []→Calls Tryz.prog 122 #[sl c a d,.func (.func 121) #[] #[]] w (Ret (fun v_ w_=>∃ K_ Ar0 cr0,v_=sl Ar0 b cr0∧SR K K_ w w_ [] []∧tE K_ Ar0 cr0 b))
def abG (X:aal→Option aal):Prop:=∀ {K w a b c},X a=some c→GK K→aam K a b→ SR K K w w [] []→Calls Tryz.prog 137 #[.agg b.toArray,.func (.func 121) #[] #[]] w (Ret (fun v_ w_=>∃ K_ csr0,v_=.agg csr0.toArray∧SR K K_ w w_ [] []∧aam K_ c csr0))
def ad1 (X:LS→Bool→Option LS):Prop:=∀ {K w a c d e b},X a e=some b→GK K→tS K c d a→ SR K K w w [] []→Calls Tryz.prog 101 #[sl c a d,.bool e] w (Ret (fun v_ w_=>∃ K_ Ar0 cr0,v_=sl Ar0 b cr0∧SR K K_ w w_ [] []∧tS K_ Ar0 cr0 b))
def ai1 (X:aaa→Bool→Option aaa):Prop:=∀ {K w a b c d},X a c=some d→GK K→aah K a b→ SR K K w w [] []→Calls Tryz.prog 79 #[.agg b.toArray,.bool c] w (Ret (fun v_ w_=>∃ K_ csr0,v_=.agg csr0.toArray∧SR K K_ w w_ [] []∧aah K_ d csr0))
def aj3 (X:aaa→Option (Except Int aaa)):Prop:=∀ {K w a b res_},X a=some res_→GK K→aah K a b→ SR K K w w [] []→Calls Tryz.prog 54 #[.agg b.toArray] w (RetP (fun v_ w_=>∃ c K_ csr0,res_=.ok c∧v_=.agg csr0.toArray∧SR K K_ w w_ [] []∧aah K_ c csr0) (fun v_ w_=>∃ c_ K_,res_=.error c_∧v_=.iface 118 (.agg #[iI c_])∧SR K K_ w w_ [] []))
def aef (X:aaa→aaa→Option (Except Int (aaa × aaa))):Prop:=∀ {K w g bs a b c gA bsA sA_0 AsA_0 csA_0 res_},X (aaa.mk a) (aaa.mk sA_0)=some res_→GK K→tF K b c a→tF K AsA_0 csA_0 sA_0→ (fun E:Ents=>SR K K w w E E→Calls Tryz.prog 53 #[.pointer (some ⟨g,0,none⟩),.pointer (some ⟨gA,0,none⟩)] w (RetP (fun v_ w_=>∃ d zA_0 K_ Az_0 cz_0 AzA_0 czA_0,res_=.ok ((aaa.mk d),(aaa.mk zA_0))∧v_=.tuple #[]∧SR K K_ w w_ E [.box bs g #[sl Az_0 d cz_0] 24,.box bsA gA #[sl AzA_0 zA_0 czA_0] 24]∧tF K_ Az_0 cz_0 d∧tF K_ AzA_0 czA_0 zA_0) (fun v_ w_=>∃ c_ K_,res_=.error c_∧v_=.iface 118 (.agg #[iI c_])∧SR K K_ w w_ E E))) [.box bs g #[sl b a c] 24,.box bsA gA #[sl AsA_0 sA_0 csA_0] 24]
def afn (X:aaa→aaa→Option (aaa × aaa × Int)):Prop:=∀ {K w g bs a b c gA bsA sA_0 AsA_0 csA_0 d zA_0 e},X (aaa.mk a) (aaa.mk sA_0)=some ((aaa.mk d),(aaa.mk zA_0),e)→GK K→tF K b c a→tF K AsA_0 csA_0 sA_0→ (fun E:Ents=>SR K K w w E E→Calls Tryz.prog 52 #[.func (.func 53) #[] #[.pointer (some ⟨g,0,none⟩),.pointer (some ⟨gA,0,none⟩)]] w (Ret (fun v_ w_=>∃ K_ Az_0 cz_0 AzA_0 czA_0,v_=iI e∧SR K K_ w w_ E [.box bs g #[sl Az_0 d cz_0] 24,.box bsA gA #[sl AzA_0 zA_0 czA_0] 24]∧tF K_ Az_0 cz_0 d∧tF K_ AzA_0 czA_0 zA_0))) [.box bs g #[sl b a c] 24,.box bsA gA #[sl AsA_0 sA_0 csA_0] 24]
def ajV (X:aaa→Option (aaa × Int)):Prop:=∀ {K w a b c d},X a=some (c,d)→GK K→aah K a b→ SR K K w w [] []→Calls Tryz.prog 34 #[.agg b.toArray] w (Ret (fun v_ w_=>∃ K_ csr0,v_=.tuple #[.agg csr0.toArray,iI d]∧SR K K_ w w_ [] []∧aah K_ c csr0))
def aei (X:aaf→aaf→Option Bool):Prop:=∀ {K w l m g bs a b d e f h i c j k n},X l (aaf.mk a b f h i c)=some n→GK K→aav K l m→a.size ≤ mB→tP K d e b→tS K j k c→ (fun E:Ents=>SR K K w w E E→Calls Tryz.prog 82 #[.agg m.toArray,.pointer (some ⟨g,0,none⟩)] w (Ret (fun v_ w_=>∃ K_,v_=.bool n∧SR K K_ w w_ E E))) [.box bs g (aF a d b e f h i j c k) 42]
def aeh (X:LF→aaf→Option Int):Prop:=∀ {K w l m n g bs a b d e f h i c j k o},X l (aaf.mk a b f h i c)=some o→GK K→tF K m n l→a.size ≤ mB→tP K d e b→tS K j k c→ (fun E:Ents=>SR K K w w E E→Calls Tryz.prog 103 #[sl m l n,.func (.func 82) #[] #[.pointer (some ⟨g,0,none⟩)]] w (Ret (fun v_ w_=>∃ K_,v_=iI o∧SR K K_ w w_ E E))) [.box bs g (aF a d b e f h i j c k) 42]
def ac6 (X:LF→aaf→Option Bool):Prop:=∀ {K w l m n g bs a b d e f h i c j k o},X l (aaf.mk a b f h i c)=some o→GK K→tF K m n l→a.size ≤ mB→tP K d e b→tS K j k c→ (fun E:Ents=>SR K K w w E E→Calls Tryz.prog 81 #[sl m l n,.func (.func 82) #[] #[.pointer (some ⟨g,0,none⟩)]] w (Ret (fun v_ w_=>∃ K_,v_=.bool o∧SR K K_ w w_ E E))) [.box bs g (aF a d b e f h i j c k) 42]
def ahB (X:aab→BA→Option (Int × Bool)):Prop:=∀ {K w g bs br h l m i j n o p q r k s t a c d u b e f v x y z A},X (aab.mk (aaa.mk h) (aaf.mk i j p q r k) a b x) y=some (z,A)→GK K→tF K l m h→i.size ≤ mB→tP K n o j→tS K s t k→Reps RStr 1 a u→a.length * 16 ≤ mB→StkR kS VInt b v→b.length * 8 ≤ mB→br ≤ (zz w)→y.size ≤ mB→ (fun E:Ents=>SR K K w w E E→Calls Tryz.prog 123 #[.pointer (some ⟨g,0,none⟩),.string y] w (Ret (fun v_ w_=>∃ K_,v_=.tuple #[iI z,.bool A]∧SR K K_ w w_ E E))) [.box bs g (aR l h m i n j o p q r s k t c a d e b f x) 154,eW br c a d 9 1 u,eK br e b f 151 v]
def ag0 (X:aab→BA→Option (Except Int (aab × Int))):Prop:=∀ {K w g bs br h n o i j p q r s t k u v a c d x b e f y z A res_},X (aab.mk (aaa.mk h) (aaf.mk i j r s t k) a b z) A=some res_→GK K→tF K n o h→i.size ≤ mB→tP K p q j→tS K u v k→Reps RStr 1 a x→a.length * 16 ≤ mB→StkR kS VInt b y→b.length * 8 ≤ mB→br ≤ (zz w)→A.size ≤ mB→ (fun E:Ents=>SR K K w w E E→Calls Tryz.prog 104 #[.pointer (some ⟨g,0,none⟩),.string A] w (RetP (fun v_ w_=>∃ B C D I J N G l m O S K_ Az_0_0 cz_0_0 Az_1_1 cz_1_1 Az_1_5 cz_1_5 Az_2 cz_2 yz_2 Az_3 cz_3 yz_3,res_=.ok ((aab.mk (aaa.mk B) (aaf.mk C D I J N G) l m O),S)∧v_=iI S∧SR K K_ w w_ E [.box bs g (aR Az_0_0 B cz_0_0 C Az_1_1 D cz_1_1 I J N Az_1_5 G cz_1_5 Az_2 l cz_2 Az_3 m cz_3 O) 154,eW br Az_2 l cz_2 9 1 yz_2,eK br Az_3 m cz_3 151 yz_3]∧tF K_ Az_0_0 cz_0_0 B∧C.size ≤ mB∧tP K_ Az_1_1 cz_1_1 D∧tS K_ Az_1_5 cz_1_5 G∧Reps RStr 1 l yz_2∧l.length * 16 ≤ mB∧StkR kS VInt m yz_3∧m.length * 8 ≤ mB) (fun v_ w_=>∃ c_ K_,res_=.error c_∧v_=.iface 118 (.agg #[iI c_])∧SR K K_ w w_ E []))) [.box bs g (aR n h o i p j q r s t u k v c a d e b f z) 154,eW br c a d 9 1 x,eK br e b f 151 y]
def aee (X:aal→aab→Option (Except Int Int)):Prop:=∀ {K w y z gr bsr g bs br h l m i j n o p q r k s t a c d u b e f v x res_},X y (aab.mk (aaa.mk h) (aaf.mk i j p q r k) a b x)=some res_→GK K→aam K y z→tF K l m h→i.size ≤ mB→tP K n o j→tS K s t k→Reps RStr 1 a u→a.length * 16 ≤ mB→StkR kS VInt b v→b.length * 8 ≤ mB→br ≤ (zz w)→ (fun E:Ents=>SR K K w w E E→Calls Tryz.prog 138 #[.agg z.toArray,.pointer (some ⟨gr,0,none⟩)] w (RetP (fun v_ w_=>∃ A K_,res_=.ok A∧v_=iI A∧SR K K_ w w_ E E) (fun v_ w_=>∃ c_ K_,res_=.error c_∧v_=.iface 118 (.agg #[iI c_])∧SR K K_ w w_ E []))) [.box bsr gr #[.pointer (some ⟨g,0,none⟩)] 150,.box bs g (aR l h m i n j o p q r s k t c a d e b f x) 154,eW br c a d 9 1 u,eK br e b f 151 v]
def abM (X:LE→aab→Option (Except Int LE)):Prop:=∀ {K w y A B gr bsr g bs br h l m i j n o p q r k s t a c d u b e f v x res_},X y (aab.mk (aaa.mk h) (aaf.mk i j p q r k) a b x)=some res_→GK K→tE K A B y→tF K l m h→i.size ≤ mB→tP K n o j→tS K s t k→Reps RStr 1 a u→a.length * 16 ≤ mB→StkR kS VInt b v→b.length * 8 ≤ mB→br ≤ (zz w)→ (fun E:Ents=>SR K K w w E E→Calls Tryz.prog 122 #[sl A y B,.func (.func 138) #[] #[.pointer (some ⟨gr,0,none⟩)]] w (RetP (fun v_ w_=>∃ z K_ Ar0 cr0,res_=.ok z∧v_=sl Ar0 z cr0∧SR K K_ w w_ E E∧tE K_ Ar0 cr0 z) (fun v_ w_=>∃ c_ K_,res_=.error c_∧v_=.iface 118 (.agg #[iI c_])∧SR K K_ w w_ E []))) [.box bsr gr #[.pointer (some ⟨g,0,none⟩)] 150,.box bs g (aR l h m i n j o p q r s k t c a d e b f x) 154,eW br c a d 9 1 u,eK br e b f 151 v]
def abK (X:aal→aab→Option (Except Int aal)):Prop:=∀ {K w y z gr bsr g bs br h l m i j n o p q r k s t a c d u b e f v x res_},X y (aab.mk (aaa.mk h) (aaf.mk i j p q r k) a b x)=some res_→GK K→aam K y z→tF K l m h→i.size ≤ mB→tP K n o j→tS K s t k→Reps RStr 1 a u→a.length * 16 ≤ mB→StkR kS VInt b v→b.length * 8 ≤ mB→br ≤ (zz w)→ (fun E:Ents=>SR K K w w E E→Calls Tryz.prog 137 #[.agg z.toArray,.func (.func 138) #[] #[.pointer (some ⟨gr,0,none⟩)]] w (RetP (fun v_ w_=>∃ A K_ csr0,res_=.ok A∧v_=.agg csr0.toArray∧SR K K_ w w_ E E∧aam K_ A csr0) (fun v_ w_=>∃ c_ K_,res_=.error c_∧v_=.iface 118 (.agg #[iI c_])∧SR K K_ w w_ E []))) [.box bsr gr #[.pointer (some ⟨g,0,none⟩)] 150,.box bs g (aR l h m i n j o p q r s k t c a d e b f x) 154,eW br c a d 9 1 u,eK br e b f 151 v]
def agT (X:aab→LE→Option (Except Int LE)):Prop:=∀ {K w g bs br h l m i j n o p q r k s t a c d u b e f v x y A B res_},X (aab.mk (aaa.mk h) (aaf.mk i j p q r k) a b x) y=some res_→GK K→tF K l m h→i.size ≤ mB→tP K n o j→tS K s t k→Reps RStr 1 a u→a.length * 16 ≤ mB→StkR kS VInt b v→b.length * 8 ≤ mB→br ≤ (zz w)→tE K A B y→ (fun E:Ents=>SR K K w w E E→Calls Tryz.prog 124 #[.pointer (some ⟨g,0,none⟩),sl A y B] w (RetP (fun v_ w_=>∃ z K_ Ar0 cr0,res_=.ok z∧v_=sl Ar0 z cr0∧SR K K_ w w_ E E∧tE K_ Ar0 cr0 z) (fun v_ w_=>∃ c_ K_,res_=.error c_∧v_=.iface 118 (.agg #[iI c_])∧SR K K_ w w_ E []))) [.box bs g (aR l h m i n j o p q r s k t c a d e b f x) 154,eW br c a d 9 1 u,eK br e b f 151 v]
def ad4 (X:aaf→aag→Option Bool):Prop:=∀ {K w x y gr bsr g bs i a j b k l c m n d o p e q r f s t h u v z},X x (aag.mk i a j b k l c d e f h)=some z→GK K→aav K x y→a.size ≤ mB→b.size ≤ mB→tE K m n c→tS K o p d→tS K q r e→tS K s t f→tC K u v h→ (fun E:Ents=>SR K K w w E E→Calls Tryz.prog 139 #[.agg y.toArray,.pointer (some ⟨gr,0,none⟩)] w (Ret (fun v_ w_=>∃ K_,v_=.bool z∧SR K K_ w w_ E E))) [.box bsr gr #[.pointer (some ⟨g,0,none⟩)] 180,.box bs g (aS i a j b k l m c n o d p q e r s f t u h v) 37]
def ad6 (X:LF→aag→Option Int):Prop:=∀ {K w x y z gr bsr g bs i a j b k l c m n d o p e q r f s t h u v A},X x (aag.mk i a j b k l c d e f h)=some A→GK K→tF K y z x→a.size ≤ mB→b.size ≤ mB→tE K m n c→tS K o p d→tS K q r e→tS K s t f→tC K u v h→ (fun E:Ents=>SR K K w w E E→Calls Tryz.prog 103 #[sl y x z,.func (.func 139) #[] #[.pointer (some ⟨gr,0,none⟩)]] w (Ret (fun v_ w_=>∃ K_,v_=iI A∧SR K K_ w w_ E E))) [.box bsr gr #[.pointer (some ⟨g,0,none⟩)] 180,.box bs g (aS i a j b k l m c n o d p q e r s f t u h v) 37]
def agZ (X:aab→aag→Option (Except Int (aab × aag))):Prop:=∀ {K w g bs br h n o i j p q r s t k u v a c d x b e f y z gA bsA sA_0 sA_1 sA_2 sA_3 sA_4 sA_5 sA_6 AsA_6 csA_6 sA_7 AsA_7 csA_7 sA_8 AsA_8 csA_8 sA_9 AsA_9 csA_9 sA_10 AsA_10 csA_10 res_},X (aab.mk (aaa.mk h) (aaf.mk i j r s t k) a b z) (aag.mk sA_0 sA_1 sA_2 sA_3 sA_4 sA_5 sA_6 sA_7 sA_8 sA_9 sA_10)=some res_→GK K→tF K n o h→i.size ≤ mB→tP K p q j→tS K u v k→Reps RStr 1 a x→a.length * 16 ≤ mB→StkR kS VInt b y→b.length * 8 ≤ mB→br ≤ (zz w)→sA_1.size ≤ mB→sA_3.size ≤ mB→tE K AsA_6 csA_6 sA_6→tS K AsA_7 csA_7 sA_7→tS K AsA_8 csA_8 sA_8→tS K AsA_9 csA_9 sA_9→tC K AsA_10 csA_10 sA_10→ (fun E:Ents=>SR K K w w E E→Calls Tryz.prog 126 #[.pointer (some ⟨g,0,none⟩),.pointer (some ⟨gA,0,none⟩)] w (RetP (fun v_ w_=>∃ A B C G I J D l m N zA_0 zA_1 zA_2 zA_3 zA_4 zA_5 zA_6 zA_7 zA_8 zA_9 zA_10 K_ Az_0_0 cz_0_0 Az_1_1 cz_1_1 Az_1_5 cz_1_5 Az_2 cz_2 yz_2 Az_3 cz_3 yz_3 AzA_6 czA_6 AzA_7 czA_7 AzA_8 czA_8 AzA_9 czA_9 AzA_10 czA_10,res_=.ok ((aab.mk (aaa.mk A) (aaf.mk B C G I J D) l m N),(aag.mk zA_0 zA_1 zA_2 zA_3 zA_4 zA_5 zA_6 zA_7 zA_8 zA_9 zA_10))∧v_=.tuple #[]∧SR K K_ w w_ E [.box bs g (aR Az_0_0 A cz_0_0 B Az_1_1 C cz_1_1 G I J Az_1_5 D cz_1_5 Az_2 l cz_2 Az_3 m cz_3 N) 154,eW br Az_2 l cz_2 9 1 yz_2,eK br Az_3 m cz_3 151 yz_3,.box bsA gA (aS zA_0 zA_1 zA_2 zA_3 zA_4 zA_5 AzA_6 zA_6 czA_6 AzA_7 zA_7 czA_7 AzA_8 zA_8 czA_8 AzA_9 zA_9 czA_9 AzA_10 zA_10 czA_10) 37]∧tF K_ Az_0_0 cz_0_0 A∧B.size ≤ mB∧tP K_ Az_1_1 cz_1_1 C∧tS K_ Az_1_5 cz_1_5 D∧Reps RStr 1 l yz_2∧l.length * 16 ≤ mB∧StkR kS VInt m yz_3∧m.length * 8 ≤ mB∧zA_1.size ≤ mB∧zA_3.size ≤ mB∧tE K_ AzA_6 czA_6 zA_6∧tS K_ AzA_7 czA_7 zA_7∧tS K_ AzA_8 czA_8 zA_8∧tS K_ AzA_9 czA_9 zA_9∧tC K_ AzA_10 czA_10 zA_10) (fun v_ w_=>∃ c_ K_,res_=.error c_∧v_=.iface 118 (.agg #[iI c_])∧SR K K_ w w_ E []))) [.box bs g (aR n h o i p j q r s t u k v c a d e b f z) 154,eW br c a d 9 1 x,eK br e b f 151 y,.box bsA gA (aS sA_0 sA_1 sA_2 sA_3 sA_4 sA_5 AsA_6 sA_6 csA_6 AsA_7 sA_7 csA_7 AsA_8 sA_8 csA_8 AsA_9 sA_9 csA_9 AsA_10 sA_10 csA_10) 37]
def ab3 (X:aab→aag→Option (Except Int (aab × aag))):Prop:=∀ {K w g bs br h n o i j p q r s t k u v a c d x b e f y z G I res_},X (aab.mk (aaa.mk h) (aaf.mk i j r s t k) a b z) G=some res_→GK K→tF K n o h→i.size ≤ mB→tP K p q j→tS K u v k→Reps RStr 1 a x→a.length * 16 ≤ mB→StkR kS VInt b y→b.length * 8 ≤ mB→br ≤ (zz w)→aaj K G I→ (fun E:Ents=>SR K K w w E E→Calls Tryz.prog 105 #[.pointer (some ⟨g,0,none⟩),.agg I.toArray] w (RetP (fun v_ w_=>∃ A B C J N O D l m S U K_ Az_0_0 cz_0_0 Az_1_1 cz_1_1 Az_1_5 cz_1_5 Az_2 cz_2 yz_2 Az_3 cz_3 yz_3 csr0,res_=.ok ((aab.mk (aaa.mk A) (aaf.mk B C J N O D) l m S),U)∧v_=.agg csr0.toArray∧SR K K_ w w_ E [.box bs g (aR Az_0_0 A cz_0_0 B Az_1_1 C cz_1_1 J N O Az_1_5 D cz_1_5 Az_2 l cz_2 Az_3 m cz_3 S) 154,eW br Az_2 l cz_2 9 1 yz_2,eK br Az_3 m cz_3 151 yz_3]∧tF K_ Az_0_0 cz_0_0 A∧B.size ≤ mB∧tP K_ Az_1_1 cz_1_1 C∧tS K_ Az_1_5 cz_1_5 D∧Reps RStr 1 l yz_2∧l.length * 16 ≤ mB∧StkR kS VInt m yz_3∧m.length * 8 ≤ mB∧aaj K_ U csr0) (fun v_ w_=>∃ c_ K_,res_=.error c_∧v_=.iface 118 (.agg #[iI c_])∧SR K K_ w w_ E []))) [.box bs g (aR n h o i p j q r s t u k v c a d e b f z) 154,eW br c a d 9 1 x,eK br e b f 151 y]
def aa5 (X:aab→BA→LS→aaz→Option (Except Int (aab × aaz × LS))):Prop:=∀ {K w g bs br h n o i j p q r s t k u v a c d x b e f y z A B N O gA bsA sA_0 sA_1 sA_2 sA_3 AsA_3 csA_3 sA_4 AsA_4 csA_4 res_},X (aab.mk (aaa.mk h) (aaf.mk i j r s t k) a b z) A B (aaz.mk sA_0 sA_1 sA_2 sA_3 sA_4)=some res_→GK K→tF K n o h→i.size ≤ mB→tP K p q j→tS K u v k→Reps RStr 1 a x→a.length * 16 ≤ mB→StkR kS VInt b y→b.length * 8 ≤ mB→br ≤ (zz w)→A.size ≤ mB→tS K N O B→sA_1.size ≤ mB→tE K AsA_3 csA_3 sA_3→tS K AsA_4 csA_4 sA_4→ (fun E:Ents=>SR K K w w E E→Calls Tryz.prog 125 #[.pointer (some ⟨g,0,none⟩),.string A,sl N B O,.pointer (some ⟨gA,2,none⟩)] w (RetP (fun v_ w_=>∃ C D G S U V I l m W zA_0 zA_1 zA_2 zA_3 zA_4 J K_ Az_0_0 cz_0_0 Az_1_1 cz_1_1 Az_1_5 cz_1_5 Az_2 cz_2 yz_2 Az_3 cz_3 yz_3 AzA_3 czA_3 AzA_4 czA_4 Ar0 cr0,res_=.ok ((aab.mk (aaa.mk C) (aaf.mk D G S U V I) l m W),(aaz.mk zA_0 zA_1 zA_2 zA_3 zA_4),J)∧v_=sl Ar0 J cr0∧SR K K_ w w_ E [.box bs g (aR Az_0_0 C cz_0_0 D Az_1_1 G cz_1_1 S U V Az_1_5 I cz_1_5 Az_2 l cz_2 Az_3 m cz_3 W) 154,eW br Az_2 l cz_2 9 1 yz_2,eK br Az_3 m cz_3 151 yz_3,.box bsA gA (aC' zA_0 zA_1 zA_2 AzA_3 zA_3 czA_3 AzA_4 zA_4 czA_4) 74]∧tF K_ Az_0_0 cz_0_0 C∧D.size ≤ mB∧tP K_ Az_1_1 cz_1_1 G∧tS K_ Az_1_5 cz_1_5 I∧Reps RStr 1 l yz_2∧l.length * 16 ≤ mB∧StkR kS VInt m yz_3∧m.length * 8 ≤ mB∧zA_1.size ≤ mB∧tE K_ AzA_3 czA_3 zA_3∧tS K_ AzA_4 czA_4 zA_4∧tS K_ Ar0 cr0 J) (fun v_ w_=>∃ c_ K_,res_=.error c_∧v_=.iface 118 (.agg #[iI c_])∧SR K K_ w w_ E []))) [.box bs g (aR n h o i p j q r s t u k v c a d e b f z) 154,eW br c a d 9 1 x,eK br e b f 151 y,.box bsA gA (aC' sA_0 sA_1 sA_2 AsA_3 sA_3 csA_3 AsA_4 sA_4 csA_4) 74]
def aa7 (X:aab→BA→LS→aag→Option (Except Int (aab × aag × LS))):Prop:=∀ {K w g bs br h n o i j p q r s t k u v a c d x b e f y z A B N O gA bsA sA_0 sA_1 sA_2 sA_3 sA_4 sA_5 sA_6 AsA_6 csA_6 sA_7 AsA_7 csA_7 sA_8 AsA_8 csA_8 sA_9 AsA_9 csA_9 sA_10 AsA_10 csA_10 res_},X (aab.mk (aaa.mk h) (aaf.mk i j r s t k) a b z) A B (aag.mk sA_0 sA_1 sA_2 sA_3 sA_4 sA_5 sA_6 sA_7 sA_8 sA_9 sA_10)=some res_→GK K→tF K n o h→i.size ≤ mB→tP K p q j→tS K u v k→Reps RStr 1 a x→a.length * 16 ≤ mB→StkR kS VInt b y→b.length * 8 ≤ mB→br ≤ (zz w)→A.size ≤ mB→tS K N O B→sA_1.size ≤ mB→sA_3.size ≤ mB→tE K AsA_6 csA_6 sA_6→tS K AsA_7 csA_7 sA_7→tS K AsA_8 csA_8 sA_8→tS K AsA_9 csA_9 sA_9→tC K AsA_10 csA_10 sA_10→ (fun E:Ents=>SR K K w w E E→Calls Tryz.prog 125 #[.pointer (some ⟨g,0,none⟩),.string A,sl N B O,.pointer (some ⟨gA,2,none⟩)] w (RetP (fun v_ w_=>∃ C D G S U V I l m W zA_0 zA_1 zA_2 zA_3 zA_4 zA_5 zA_6 zA_7 zA_8 zA_9 zA_10 J K_ Az_0_0 cz_0_0 Az_1_1 cz_1_1 Az_1_5 cz_1_5 Az_2 cz_2 yz_2 Az_3 cz_3 yz_3 AzA_6 czA_6 AzA_7 czA_7 AzA_8 czA_8 AzA_9 czA_9 AzA_10 czA_10 Ar0 cr0,res_=.ok ((aab.mk (aaa.mk C) (aaf.mk D G S U V I) l m W),(aag.mk zA_0 zA_1 zA_2 zA_3 zA_4 zA_5 zA_6 zA_7 zA_8 zA_9 zA_10),J)∧v_=sl Ar0 J cr0∧SR K K_ w w_ E [.box bs g (aR Az_0_0 C cz_0_0 D Az_1_1 G cz_1_1 S U V Az_1_5 I cz_1_5 Az_2 l cz_2 Az_3 m cz_3 W) 154,eW br Az_2 l cz_2 9 1 yz_2,eK br Az_3 m cz_3 151 yz_3,.box bsA gA (aS zA_0 zA_1 zA_2 zA_3 zA_4 zA_5 AzA_6 zA_6 czA_6 AzA_7 zA_7 czA_7 AzA_8 zA_8 czA_8 AzA_9 zA_9 czA_9 AzA_10 zA_10 czA_10) 37]∧tF K_ Az_0_0 cz_0_0 C∧D.size ≤ mB∧tP K_ Az_1_1 cz_1_1 G∧tS K_ Az_1_5 cz_1_5 I∧Reps RStr 1 l yz_2∧l.length * 16 ≤ mB∧StkR kS VInt m yz_3∧m.length * 8 ≤ mB∧zA_1.size ≤ mB∧zA_3.size ≤ mB∧tE K_ AzA_6 czA_6 zA_6∧tS K_ AzA_7 czA_7 zA_7∧tS K_ AzA_8 czA_8 zA_8∧tS K_ AzA_9 czA_9 zA_9∧tC K_ AzA_10 czA_10 zA_10∧tS K_ Ar0 cr0 J) (fun v_ w_=>∃ c_ K_,res_=.error c_∧v_=.iface 118 (.agg #[iI c_])∧SR K K_ w w_ E []))) [.box bs g (aR n h o i p j q r s t u k v c a d e b f z) 154,eW br c a d 9 1 x,eK br e b f 151 y,.box bsA gA (aS sA_0 sA_1 sA_2 sA_3 sA_4 sA_5 AsA_6 sA_6 csA_6 AsA_7 sA_7 csA_7 AsA_8 sA_8 csA_8 AsA_9 sA_9 csA_9 AsA_10 sA_10 csA_10) 37]
def abb (X:aab→BA→LS→Option (Except Int (aab × LS))):Prop:=∀ {K w g bs br h n o i j p q r s t k u v a c d x b e f y z A B N O res_},X (aab.mk (aaa.mk h) (aaf.mk i j r s t k) a b z) A B=some res_→GK K→tF K n o h→i.size ≤ mB→tP K p q j→tS K u v k→Reps RStr 1 a x→a.length * 16 ≤ mB→StkR kS VInt b y→b.length * 8 ≤ mB→br ≤ (zz w)→A.size ≤ mB→tS K N O B→ (fun E:Ents=>SR K K w w E E→Calls Tryz.prog 125 #[.pointer (some ⟨g,0,none⟩),.string A,sl N B O,.pointer none] w (RetP (fun v_ w_=>∃ C D G S U V I l m W J K_ Az_0_0 cz_0_0 Az_1_1 cz_1_1 Az_1_5 cz_1_5 Az_2 cz_2 yz_2 Az_3 cz_3 yz_3 Ar0 cr0,res_=.ok ((aab.mk (aaa.mk C) (aaf.mk D G S U V I) l m W),J)∧v_=sl Ar0 J cr0∧SR K K_ w w_ E [.box bs g (aR Az_0_0 C cz_0_0 D Az_1_1 G cz_1_1 S U V Az_1_5 I cz_1_5 Az_2 l cz_2 Az_3 m cz_3 W) 154,eW br Az_2 l cz_2 9 1 yz_2,eK br Az_3 m cz_3 151 yz_3]∧tF K_ Az_0_0 cz_0_0 C∧D.size ≤ mB∧tP K_ Az_1_1 cz_1_1 G∧tS K_ Az_1_5 cz_1_5 I∧Reps RStr 1 l yz_2∧l.length * 16 ≤ mB∧StkR kS VInt m yz_3∧m.length * 8 ≤ mB∧tS K_ Ar0 cr0 J) (fun v_ w_=>∃ c_ K_,res_=.error c_∧v_=.iface 118 (.agg #[iI c_])∧SR K K_ w w_ E []))) [.box bs g (aR n h o i p j q r s t u k v c a d e b f z) 154,eW br c a d 9 1 x,eK br e b f 151 y]
def abg (X:aab→BA→LS→aag→Option (Except Int (aab × aag × LS))):Prop:=∀ {K w g bs br h n o i j p q r s t k u v a c d x b e f y z A B N O gA bsA sA_0 sA_1 sA_2 sA_3 sA_4 sA_5 sA_6 AsA_6 csA_6 sA_7 AsA_7 csA_7 sA_8 AsA_8 csA_8 sA_9 AsA_9 csA_9 sA_10 AsA_10 csA_10 res_},X (aab.mk (aaa.mk h) (aaf.mk i j r s t k) a b z) A B (aag.mk sA_0 sA_1 sA_2 sA_3 sA_4 sA_5 sA_6 sA_7 sA_8 sA_9 sA_10)=some res_→GK K→tF K n o h→i.size ≤ mB→tP K p q j→tS K u v k→Reps RStr 1 a x→a.length * 16 ≤ mB→StkR kS VInt b y→b.length * 8 ≤ mB→br ≤ (zz w)→A.size ≤ mB→tS K N O B→sA_1.size ≤ mB→sA_3.size ≤ mB→tE K AsA_6 csA_6 sA_6→tS K AsA_7 csA_7 sA_7→tS K AsA_8 csA_8 sA_8→tS K AsA_9 csA_9 sA_9→tC K AsA_10 csA_10 sA_10→ (fun E:Ents=>SR K K w w E E→Calls Tryz.prog 127 #[.pointer (some ⟨g,0,none⟩),.string A,sl N B O,.pointer (some ⟨gA,2,none⟩)] w (RetP (fun v_ w_=>∃ C D G S U V I l m W zA_0 zA_1 zA_2 zA_3 zA_4 zA_5 zA_6 zA_7 zA_8 zA_9 zA_10 J K_ Az_0_0 cz_0_0 Az_1_1 cz_1_1 Az_1_5 cz_1_5 Az_2 cz_2 yz_2 Az_3 cz_3 yz_3 AzA_6 czA_6 AzA_7 czA_7 AzA_8 czA_8 AzA_9 czA_9 AzA_10 czA_10 Ar0 cr0,res_=.ok ((aab.mk (aaa.mk C) (aaf.mk D G S U V I) l m W),(aag.mk zA_0 zA_1 zA_2 zA_3 zA_4 zA_5 zA_6 zA_7 zA_8 zA_9 zA_10),J)∧v_=sl Ar0 J cr0∧SR K K_ w w_ E [.box bs g (aR Az_0_0 C cz_0_0 D Az_1_1 G cz_1_1 S U V Az_1_5 I cz_1_5 Az_2 l cz_2 Az_3 m cz_3 W) 154,eW br Az_2 l cz_2 9 1 yz_2,eK br Az_3 m cz_3 151 yz_3,.box bsA gA (aS zA_0 zA_1 zA_2 zA_3 zA_4 zA_5 AzA_6 zA_6 czA_6 AzA_7 zA_7 czA_7 AzA_8 zA_8 czA_8 AzA_9 zA_9 czA_9 AzA_10 zA_10 czA_10) 37]∧tF K_ Az_0_0 cz_0_0 C∧D.size ≤ mB∧tP K_ Az_1_1 cz_1_1 G∧tS K_ Az_1_5 cz_1_5 I∧Reps RStr 1 l yz_2∧l.length * 16 ≤ mB∧StkR kS VInt m yz_3∧m.length * 8 ≤ mB∧zA_1.size ≤ mB∧zA_3.size ≤ mB∧tE K_ AzA_6 czA_6 zA_6∧tS K_ AzA_7 czA_7 zA_7∧tS K_ AzA_8 czA_8 zA_8∧tS K_ AzA_9 czA_9 zA_9∧tC K_ AzA_10 czA_10 zA_10∧tS K_ Ar0 cr0 J) (fun v_ w_=>∃ c_ K_,res_=.error c_∧v_=.iface 118 (.agg #[iI c_])∧SR K K_ w w_ E []))) [.box bs g (aR n h o i p j q r s t u k v c a d e b f z) 154,eW br c a d 9 1 x,eK br e b f 151 y,.box bsA gA (aS sA_0 sA_1 sA_2 sA_3 sA_4 sA_5 AsA_6 sA_6 csA_6 AsA_7 sA_7 csA_7 AsA_8 sA_8 csA_8 AsA_9 sA_9 csA_9 AsA_10 sA_10 csA_10) 37]
def abf (X:aab→BA→LS→Option (Except Int (aab × LS))):Prop:=∀ {K w g bs br h n o i j p q r s t k u v a c d x b e f y z A B N O res_},X (aab.mk (aaa.mk h) (aaf.mk i j r s t k) a b z) A B=some res_→GK K→tF K n o h→i.size ≤ mB→tP K p q j→tS K u v k→Reps RStr 1 a x→a.length * 16 ≤ mB→StkR kS VInt b y→b.length * 8 ≤ mB→br ≤ (zz w)→A.size ≤ mB→tS K N O B→ (fun E:Ents=>SR K K w w E E→Calls Tryz.prog 127 #[.pointer (some ⟨g,0,none⟩),.string A,sl N B O,.pointer none] w (RetP (fun v_ w_=>∃ C D G S U V I l m W J K_ Az_0_0 cz_0_0 Az_1_1 cz_1_1 Az_1_5 cz_1_5 Az_2 cz_2 yz_2 Az_3 cz_3 yz_3 Ar0 cr0,res_=.ok ((aab.mk (aaa.mk C) (aaf.mk D G S U V I) l m W),J)∧v_=sl Ar0 J cr0∧SR K K_ w w_ E [.box bs g (aR Az_0_0 C cz_0_0 D Az_1_1 G cz_1_1 S U V Az_1_5 I cz_1_5 Az_2 l cz_2 Az_3 m cz_3 W) 154,eW br Az_2 l cz_2 9 1 yz_2,eK br Az_3 m cz_3 151 yz_3]∧tF K_ Az_0_0 cz_0_0 C∧D.size ≤ mB∧tP K_ Az_1_1 cz_1_1 G∧tS K_ Az_1_5 cz_1_5 I∧Reps RStr 1 l yz_2∧l.length * 16 ≤ mB∧StkR kS VInt m yz_3∧m.length * 8 ≤ mB∧tS K_ Ar0 cr0 J) (fun v_ w_=>∃ c_ K_,res_=.error c_∧v_=.iface 118 (.agg #[iI c_])∧SR K K_ w w_ E []))) [.box bs g (aR n h o i p j q r s t u k v c a d e b f z) 154,eW br c a d 9 1 x,eK br e b f 151 y]
def agQ (X:aaa→aaf→Option (Except Int (aaf × LB))):Prop:=∀ {K w b c d e res_},X b d=some res_→GK K→aah K b c→aav K d e→ SR K K w w [] []→Calls Tryz.prog 83 #[.agg c.toArray,.agg e.toArray] w (RetP (fun v_ w_=>∃ f a K_ csr0 Ar1 cr1,res_=.ok (f,a)∧v_=.tuple #[.agg csr0.toArray,sl Ar1 a cr1]∧SR K K_ w w_ [] []∧aav K_ f csr0∧RSl BA RStr 1 16 K_ Ar1 cr1 a) (fun v_ w_=>∃ c_ K_,res_=.error c_∧v_=.iface 118 (.agg #[iI c_])∧SR K K_ w w_ [] []))
def ajn (X:aaa→Option (Except Int (aaa × (List LB)))):Prop:=∀ (K:KH) (w:World) (b:aaa) (c:List Value) (res_:(Except Int (aaa × (List LB)))),X b=some res_→GK K→aah K b c→ SR K K w w [] []→Calls Tryz.prog 56 #[.agg c.toArray] w (RetP (fun v_ w_=>∃ d a K_ csr0 Ar1 cr1,res_=.ok (d,a)∧v_=.tuple #[.agg csr0.toArray,sl Ar1 a cr1]∧SR K K_ w w_ [] []∧aah K_ d csr0∧RSl LB (RSlE BA (fun K=>RStr) 1 16 K_) 1 24 K_ Ar1 cr1 a) (fun v_ w_=>∃ c_ K_,res_=.error c_∧v_=.iface 118 (.agg #[iI c_])∧SR K K_ w w_ [] []))
def aec (X:aaa→aaa→Option (Except Int (aaa × aaa))):Prop:=∀ {K w g bs a b c gA bsA sA_0 AsA_0 csA_0 res_},X (aaa.mk a) (aaa.mk sA_0)=some res_→GK K→tF K b c a→tF K AsA_0 csA_0 sA_0→ (fun E:Ents=>SR K K w w E E→Calls Tryz.prog 55 #[.pointer (some ⟨g,0,none⟩),.pointer (some ⟨gA,0,none⟩)] w (RetP (fun v_ w_=>∃ d zA_0 K_ Az_0 cz_0 AzA_0 czA_0,res_=.ok ((aaa.mk d),(aaa.mk zA_0))∧v_=.tuple #[]∧SR K K_ w w_ E [.box bs g #[sl Az_0 d cz_0] 24,.box bsA gA #[sl AzA_0 zA_0 czA_0] 24]∧tF K_ Az_0 cz_0 d∧tF K_ AzA_0 czA_0 zA_0) (fun v_ w_=>∃ c_ K_,res_=.error c_∧v_=.iface 118 (.agg #[iI c_])∧SR K K_ w w_ E E))) [.box bs g #[sl b a c] 24,.box bsA gA #[sl AsA_0 sA_0 csA_0] 24]
def afv (X:aaa→aaa→Option (aaa × aaa × Int)):Prop:=∀ {K w g bs a b c gA bsA sA_0 AsA_0 csA_0 d zA_0 e},X (aaa.mk a) (aaa.mk sA_0)=some ((aaa.mk d),(aaa.mk zA_0),e)→GK K→tF K b c a→tF K AsA_0 csA_0 sA_0→ (fun E:Ents=>SR K K w w E E→Calls Tryz.prog 52 #[.func (.func 55) #[] #[.pointer (some ⟨g,0,none⟩),.pointer (some ⟨gA,0,none⟩)]] w (Ret (fun v_ w_=>∃ K_ Az_0 cz_0 AzA_0 czA_0,v_=iI e∧SR K K_ w w_ E [.box bs g #[sl Az_0 d cz_0] 24,.box bsA gA #[sl AzA_0 zA_0 czA_0] 24]∧tF K_ Az_0 cz_0 d∧tF K_ AzA_0 czA_0 zA_0))) [.box bs g #[sl b a c] 24,.box bsA gA #[sl AsA_0 sA_0 csA_0] 24]
def akd (X:aaa→Option (aaa × Int)):Prop:=∀ {K w a b c d},X a=some (c,d)→GK K→aah K a b→ SR K K w w [] []→Calls Tryz.prog 35 #[.agg b.toArray] w (Ret (fun v_ w_=>∃ K_ csr0,v_=.tuple #[.agg csr0.toArray,iI d]∧SR K K_ w w_ [] []∧aah K_ c csr0))
def ai2 (X:Option (List (Int × aaB))):Prop:=∀ {K w a},X =some a→GK K→ SR K K w w [] []→Calls Tryz.prog 50 #[] w (Ret (fun v_ w_=>∃ K_ br0 er0 cr0,v_=.map (some br0)∧SR K K_ w w_ [] [.mp (zz w) br0 er0 cr0]∧MapR kI (VAgg (aap K_)) a er0.toList))
def aiL (X:(List Int)→Int→Option Int):Prop:=∀ {K w a b c d e},X a d=some e→GK K→RSl Int (RInt .i64) 1 8 K b c a→ SR K K w w [] []→Calls Tryz.prog 75 #[sl b a c,iI d] w (Ret (fun v_ w_=>∃ K_,v_=iI e∧SR K K_ w w_ [] []))
def ajY (X:(List Int)→Int→Option Bool):Prop:=∀ {K w a b c d e},X a d=some e→GK K→RSl Int (RInt .i64) 1 8 K b c a→ SR K K w w [] []→Calls Tryz.prog 51 #[sl b a c,iI d] w (Ret (fun v_ w_=>∃ K_,v_=.bool e∧SR K K_ w w_ [] []))
def aeZ (X:aal→(List Int)→Option Int):Prop:=∀ {K w b c a d e f},X b a=some f→GK K→aam K b c→RSl Int (RInt .i64) 1 8 K d e a→ SR K K w w [] []→Calls Tryz.prog 33 #[.agg c.toArray,sl d a e] w (Ret (fun v_ w_=>∃ K_,v_=iI f∧SR K K_ w w_ [] []))
def ajh (X:aak→LE→(List Int)→Option Bool):Prop:=∀ {K w g bs br d i j e f k l m n o h p q a b c r s u v t x y z},X (aak.mk (aaa.mk d) (aaf.mk e f m n o h) a) s t=some z→GK K→tF K i j d→e.size ≤ mB→tP K k l f→tS K p q h→Reps (RInt .i64) 1 a r→a.length * 8 ≤ mB→br ≤ (zz w)→tE K u v s→RSl Int (RInt .i64) 1 8 K x y t→ (fun E:Ents=>SR K K w w E E→Calls Tryz.prog 84 #[.pointer (some ⟨g,0,none⟩),sl u s v,sl x t y] w (Ret (fun v_ w_=>∃ K_,v_=.bool z∧SR K K_ w w_ E E))) [.box bs g #[sl i d j,.string e,sl k f l,iI m,.bool n,iI o,sl p h q,sl b a c] 82,eW br b a c 3 1 r]
def ai3 (X:Option (List (Int × (List Int)))):Prop:=∀ {K w a},X =some a→GK K→ SR K K w w [] []→Calls Tryz.prog 85 #[] w (Ret (fun v_ w_=>∃ K_ br0 er0 cr0,v_=.map (some br0)∧SR K K_ w w_ [] [.mp (zz w) br0 er0 cr0]∧MapR kI (VSl Int (RInt .i64) 1 8 K_) a er0.toList))
def aed (X:aak→LS→Option (aak × Bool)):Prop:=∀ {K w g bs br e j k f h l m n o p i q r a b c s t z A u v x B C D y d G},X (aak.mk (aaa.mk e) (aaf.mk f h n o p i) a) t=some ((aak.mk (aaa.mk u) (aaf.mk v x B C D y) d),G)→GK K→tF K j k e→f.size ≤ mB→tP K l m h→tS K q r i→Reps (RInt .i64) 1 a s→a.length * 8 ≤ mB→br ≤ (zz w)→tS K z A t→ (fun E:Ents=>SR K K w w E E→Calls Tryz.prog 36 #[.pointer (some ⟨g,0,none⟩),sl z t A] w (Ret (fun v_ w_=>∃ K_ Az_0_0 cz_0_0 Az_1_1 cz_1_1 Az_1_5 cz_1_5 Az_2 cz_2 yz_2,v_=.bool G∧SR K K_ w w_ E [.box bs g #[sl Az_0_0 u cz_0_0,.string v,sl Az_1_1 x cz_1_1,iI B,.bool C,iI D,sl Az_1_5 y cz_1_5,sl Az_2 d cz_2] 82,eW br Az_2 d cz_2 3 1 yz_2]∧tF K_ Az_0_0 cz_0_0 u∧v.size ≤ mB∧tP K_ Az_1_1 cz_1_1 x∧tS K_ Az_1_5 cz_1_5 y∧Reps (RInt .i64) 1 d yz_2∧d.length * 8 ≤ mB))) [.box bs g #[sl j e k,.string f,sl l h m,iI n,.bool o,iI p,sl q i r,sl b a c] 82,eW br b a c 3 1 s]
def ad3 (X:aak→aag→Option (aak × Bool)):Prop:=∀ {K w g bs br e j k f h l m n o p i q r a b c s y z t u v A B C x d D},X (aak.mk (aaa.mk e) (aaf.mk f h n o p i) a) y=some ((aak.mk (aaa.mk t) (aaf.mk u v A B C x) d),D)→GK K→tF K j k e→f.size ≤ mB→tP K l m h→tS K q r i→Reps (RInt .i64) 1 a s→a.length * 8 ≤ mB→br ≤ (zz w)→aaj K y z→ (fun E:Ents=>SR K K w w E E→Calls Tryz.prog 57 #[.pointer (some ⟨g,0,none⟩),.agg z.toArray] w (Ret (fun v_ w_=>∃ K_ Az_0_0 cz_0_0 Az_1_1 cz_1_1 Az_1_5 cz_1_5 Az_2 cz_2 yz_2,v_=.bool D∧SR K K_ w w_ E [.box bs g #[sl Az_0_0 t cz_0_0,.string u,sl Az_1_1 v cz_1_1,iI A,.bool B,iI C,sl Az_1_5 x cz_1_5,sl Az_2 d cz_2] 82,eW br Az_2 d cz_2 3 1 yz_2]∧tF K_ Az_0_0 cz_0_0 t∧u.size ≤ mB∧tP K_ Az_1_1 cz_1_1 v∧tS K_ Az_1_5 cz_1_5 x∧Reps (RInt .i64) 1 d yz_2∧d.length * 8 ≤ mB))) [.box bs g #[sl j e k,.string f,sl l h m,iI n,.bool o,iI p,sl q i r,sl b a c] 82,eW br b a c 3 1 s]
def aiX (X:aaa→Option (aaa × (List (List Int)) × Int)):Prop:=∀ {K w b c d a e},X b=some (d,a,e)→GK K→aah K b c→ SR K K w w [] []→Calls Tryz.prog 21 #[.agg c.toArray] w (Ret (fun v_ w_=>∃ K_ csr0 Ar1 cr1,v_=.tuple #[.agg csr0.toArray,sl Ar1 a cr1,iI e]∧SR K K_ w w_ [] []∧aah K_ d csr0∧RSl (List Int) (RSlE Int (fun K=>(RInt .i64)) 1 8 K_) 1 24 K_ Ar1 cr1 a))
def aiS (X:aaa→Int→Option ((List Int) × Int)):Prop:=∀ {K w b c d a e},X b d=some (a,e)→GK K→aah K b c→ SR K K w w [] []→Calls Tryz.prog 15 #[.agg c.toArray,iI d] w (Ret (fun v_ w_=>∃ K_ Ar0 cr0,v_=.tuple #[sl Ar0 a cr0,iI e]∧SR K K_ w w_ [] []∧RSl Int (RInt .i64) 1 8 K_ Ar0 cr0 a))
def ajf (X:aaH→Option Bool):Prop:=∀ {K w a b c},X a=some c→GK K→aaJ K a b→ SR K K w w [] []→Calls Tryz.prog 27 #[.agg b.toArray] w (Ret (fun v_ w_=>∃ K_,v_=.bool c∧SR K K_ w w_ [] []))
def aiG (X:aaa→Int→(List aaH)→Option Int):Prop:=∀ {K w b c d a e f g},X b d a=some g→GK K→aah K b c→RSl aaH (aaJ K) 3 32 K e f a→ SR K K w w [] []→Calls Tryz.prog 17 #[.agg c.toArray,iI d,sl e a f] w (Ret (fun v_ w_=>∃ K_,v_=iI g∧SR K K_ w w_ [] []))
def aeW (X:LE→Int→Option Int):Prop:=∀ {K w a b c d e},X a d=some e→GK K→tE K b c a→ SR K K w w [] []→Calls Tryz.prog 28 #[sl b a c,iI d] w (Ret (fun v_ w_=>∃ K_,v_=iI e∧SR K K_ w w_ [] []))
def ae0 (X:LS→Int→Option Int):Prop:=∀ {K w a b c d e},X a d=some e→GK K→tS K b c a→ SR K K w w [] []→Calls Tryz.prog 18 #[sl b a c,iI d] w (Ret (fun v_ w_=>∃ K_,v_=iI e∧SR K K_ w w_ [] []))
def alz (X:aaa→Option Bool):Prop:=∀ {K w a b c},X a=some c→GK K→aah K a b→ SR K K w w [] []→Calls Tryz.prog 7 #[.agg b.toArray] w (Ret (fun v_ w_=>∃ K_,v_=.bool c∧SR K K_ w w_ [] []))
def akc (X:aaa→Option (aaa × Int)):Prop:=∀ {K w a b c d},X a=some (c,d)→GK K→aah K a b→ SR K K w w [] []→Calls Tryz.prog 10 #[.agg b.toArray] w (Ret (fun v_ w_=>∃ K_ csr0,v_=.tuple #[.agg csr0.toArray,iI d]∧SR K K_ w w_ [] []∧aah K_ c csr0))
def ai0 (X:LS→Option aaa):Prop:=∀ {K w a b c d},X a=some d→GK K→tS K b c a→ SR K K w w [] []→Calls Tryz.prog 19 #[sl b a c] w (Ret (fun v_ w_=>∃ K_ csr0,v_=.agg csr0.toArray∧SR K K_ w w_ [] []∧aah K_ d csr0))
def ajs (X:Int→Option Bool):Prop:=∀ {K w a b},X a=some b→GK K→ SR K K w w [] []→Calls Tryz.prog 30 #[iI a] w (Ret (fun v_ w_=>∃ K_,v_=.bool b∧SR K K_ w w_ [] []))
def aea (X:(List Int)→Option Int):Prop:=∀ {K w a b c d},X a=some d→GK K→RSl Int (RInt .i64) 1 8 K b c a→ SR K K w w [] []→Calls Tryz.prog 46 #[sl b a c,.func (.func 30) #[] #[]] w (Ret (fun v_ w_=>∃ K_,v_=iI d∧SR K K_ w w_ [] []))
def aeb (X:(List Int)→Option Bool):Prop:=∀ {K w a b c d},X a=some d→GK K→RSl Int (RInt .i64) 1 8 K b c a→ SR K K w w [] []→Calls Tryz.prog 29 #[sl b a c,.func (.func 30) #[] #[]] w (Ret (fun v_ w_=>∃ K_,v_=.bool d∧SR K K_ w w_ [] []))
def ajr (X:aal→Bool→Option Bool):Prop:=∀ {K w a b c d},X a c=some d→GK K→aam K a b→ SR K K w w [] []→Calls Tryz.prog 31 #[.agg b.toArray,.bool c] w (Ret (fun v_ w_=>∃ K_,v_=.bool d∧SR K K_ w w_ [] []))
def acF (X:aal→Int→Option Bool):Prop:=∀ {K w a b c d},X a c=some d→GK K→aam K a b→ SR K K w w [] []→Calls Tryz.prog 32 #[.agg b.toArray,iI c] w (Ret (fun v_ w_=>∃ K_,v_=.bool d∧SR K K_ w w_ [] []))
def aba (X:LE→Int→Option Bool):Prop:=∀ {K w a b c g bs s d},X a s=some d→GK K→tE K b c a→ (fun E:Ents=>SR K K w w E E→Calls Tryz.prog 48 #[sl b a c,.func (.func 49) #[] #[.pointer (some ⟨g,0,none⟩)]] w (Ret (fun v_ w_=>∃ K_,v_=.bool d∧SR K K_ w w_ E E))) [.box bs g #[iI s] 3]
def aa9 (X:aal→Int→Option Bool):Prop:=∀ {K w a b g bs s c},X a s=some c→GK K→aam K a b→ (fun E:Ents=>SR K K w w E E→Calls Tryz.prog 49 #[.agg b.toArray,.pointer (some ⟨g,0,none⟩)] w (Ret (fun v_ w_=>∃ K_,v_=.bool c∧SR K K_ w w_ E E))) [.box bs g #[iI s] 3]
def aa4 (X:LE→Unit→Int→Option Bool):Prop:=∀ {K w a b c g bs gA bsA sA d},X a () sA=some d→GK K→tE K b c a→ (fun E:Ents=>SR K K w w E E→Calls Tryz.prog 73 #[sl b a c,.func (.func 74) #[] #[.pointer (some ⟨g,0,none⟩)]] w (Ret (fun v_ w_=>∃ K_,v_=.bool d∧SR K K_ w w_ E E))) [.box bs g #[.func (.func 49) #[] #[.pointer (some ⟨gA,0,none⟩)]] 97,.box bsA gA #[iI sA] 3]
def aa8 (X:aal→Unit→Int→Option Bool):Prop:=∀ {K w a b g bs gA bsA sA c},X a () sA=some c→GK K→aam K a b→ (fun E:Ents=>SR K K w w E E→Calls Tryz.prog 74 #[.agg b.toArray,.pointer (some ⟨g,0,none⟩)] w (Ret (fun v_ w_=>∃ K_,v_=.bool c∧SR K K_ w w_ E E))) [.box bs g #[.func (.func 49) #[] #[.pointer (some ⟨gA,0,none⟩)]] 97,.box bsA gA #[iI sA] 3]
def aa3 (X:LE→Unit→Int→Option Int):Prop:=∀ {K w a b c g bs gA bsA sA d},X a () sA=some d→GK K→tE K b c a→ (fun E:Ents=>SR K K w w E E→Calls Tryz.prog 98 #[sl b a c,.func (.func 74) #[] #[.pointer (some ⟨g,0,none⟩)]] w (Ret (fun v_ w_=>∃ K_,v_=iI d∧SR K K_ w w_ E E))) [.box bs g #[.func (.func 49) #[] #[.pointer (some ⟨gA,0,none⟩)]] 97,.box bsA gA #[iI sA] 3]
def ajC (X:aal→(List Int)→Option (Int × Int)):Prop:=∀ {K w b c a d e f g},X b a=some (f,g)→GK K→aam K b c→RSl Int (RInt .i64) 1 8 K d e a→ SR K K w w [] []→Calls Tryz.prog 20 #[.agg c.toArray,sl d a e] w (Ret (fun v_ w_=>∃ K_,v_=.tuple #[iI f,iI g]∧SR K K_ w w_ [] []))
def alJ (X:Option Bool):Prop:=∀ {K w a},X =some a→GK K→ SR K K w w [] []→Calls Tryz.prog 8 #[] w (Ret (fun v_ w_=>∃ K_,v_=.bool a∧SR K K_ w w_ [] []))
def alA (X:Int→Int→Option Int):Prop:=∀ {K w a b c},X a b=some c→GK K→ SR K K w w [] []→Calls Tryz.prog 9 #[iI a,iI b] w (Ret (fun v_ w_=>∃ K_,v_=iI c∧SR K K_ w w_ [] []))
def alo (X:aaa→Int→Int→Option Bool):Prop:=∀ {K w a b c d e},X a c d=some e→GK K→aah K a b→ SR K K w w [] []→Calls Tryz.prog 6 #[.agg b.toArray,iI c,iI d] w (Ret (fun v_ w_=>∃ K_,v_=.bool e∧SR K K_ w w_ [] []))
end Go.Proofs.YtoegpkmhifmamaaGreatDoor
set_option maxRecDepth 100000
set_option maxHeartbeats 20000000
namespace Go.Proofs.YtoegpkmhifmamaaGreatDoor
open Go
theorem apw (k:Nat):aj9 (aqI k):=by
 unfold aj9;intro K wi an a4 a5 h hG ao ap;obtain ⟨r_,hr_,h⟩:=rz h;obtain ⟨aq,ar,au,av,aw,ax,ay,f,g,l,q⟩:=an;obtain ⟨az,aA,A,B,C,D,G,I,Y,Z,rfl,a6,a7,a8,aB,aG,aH,af⟩:=aaj.open ao;refine enter Tryz.func92 rfl (n:=27) rfl ?_;unfold aqI at h;refine sr (bxoC (cs:=(aS aq ar au av aw ax az ay aA A f B C g D G l I Y q Z)) ap rfl rfl (fun ag N=>(m2 nS (wt (sr (fd 7 abp rfl (l1 0 (sl A f B) N abk (fd 8 acq rfl (l1 0 (sl C g D) N abk (fd 9 acJ rfl (l1 0 (sl G l I) N abk (bsl (e:=34) (cells:=#[sl A f B,sl C g D,sl G l I]) (vs:=[(0,sl A f B),(1,sl C g D),(2,sl G l I)]) N rfl (fun w=>by kernel_rfl) (fun a9 aI=>(have ah:=aI.boxrowN (i:=0) (size:=1) (m:=3) rfl rfl (by decide);(m2 (.slice (some ⟨(zz ag),0,none⟩) [f,g,l].length 3) (wt (wp_seq (sr (fd 10 abi rfl (l1 1 (sl Y q Z) ah ael (lS q.length aco (m1 (iI 0) (wt (wp_block (aaA (fun g_ a w=>∃ ai t,∃ (s:Nat),∃ c u x ab,g_=t.length∧a=fr 27 (updL ai [(3,sl u c x),(14,sl Y q Z),(15,iI (q.length:Int)),(16,iI (s:Int))])∧SR K K wi w [] [eW (zz wi) u c x 34 1 ab]∧q.drop s=t∧Reps (RSlE aag (fun K=>(aaj K)) 11 184 K) 1 c ab∧c.length * 24 ≤ mB∧agm k t s c=some r_) q.length ?_ ?_)))))))))))))))))))))))))
 ·exact ⟨_,q,0,[f,g,l],(some ⟨(zz ag),0,none⟩),3,[sl A f B,sl C g D,sl G l I],rfl,fR,(ah.sel [0]),List.drop_zero,⟨[sl A f B],_,rfl,rfl,⟨_,_,rfl,aB⟩,⟨[sl C g D],_,rfl,rfl,⟨_,_,rfl,aG⟩,⟨[sl G l I],_,rfl,rfl,⟨_,_,rfl,aH⟩,(abl (R:=(RSlE aag (fun K=>(aaj K)) 11 184 K)) (size:=1))⟩⟩⟩,(Nat.le_of_ble_eq_true rfl),h⟩
 ·rintro _ _ aJ ⟨ai,t,s,c,u,x,ab,rfl,rfl,ac,J,aj,aK,h⟩;rcases t with _ | ⟨⟨O,S,U,V,d⟩,t⟩
  ·unfold agm at h;refine sr (bcm (r:=false) rfl rfl (congrArg some (aaq J)) (wt (wp_seq (cndF rfl (wp_exit (aaF (aaF (blkX (aae (sr (m1 (sl u c x) (m2 (sl u c x) (wt (wp_ret ?_))))))))))))));obtain ⟨aL,aM,ba,aN⟩:=adr (i:=0) (bytes:=24) (R:=fun K=>(RSlE aag (fun K=>(aaj K)) 11 184 K)) ac rfl (Nat.le_refl _) aj aK (fun hs=>(fun _ _ h=>RSlE.mono (R:=fun K=>(aaj K)) (fun hs _ _ h=>aaj.mono hs h) hs h));cases (oi h).trans hr_;exact aas rfl (resT rfl) ⟨aL,u,x,rfl,aM,aN⟩
  ·unfold agm at h;refine sr (bcm (r:=true) rfl rfl (congrArg some (aar J)) (wt (wp_seq (cndT rfl (wp_skip (aae (wp_seq (wp_block (sr ?_)))))))));obtain ⟨aP,aQ,bb,aT,bd,aU,aV⟩:=(af).row.at_ (aan J);obtain ⟨W,X,y,z,rfl,be,bf,aW⟩:=aaI.open aV;refine idxN (b:=aP) (o:=aQ) (i:=s) aco act rfl aT rfl (aad J) (lD (vC O S U W V X y d z) afO act rfl (fun j v hj=>ac.cell (kr.cell (aU j v hj))) (aC zC.toArray ac aiC (fun bg aX=>(sI 0 (.agg (aC' O S U W V X y d z)) ((aC' O S U W V X y d z)) aX act rfl rfl (fun bh ak=>(wt (wp_region_lit (m1 (sl u c x) (fd 4 ado rfl (l1 0 (sl y d z) ak abk (bsl (e:=34) (cells:=#[sl y d z]) (vs:=[(0,sl y d z)]) ak rfl (aao amr adJ au8 rfl (by decide) (by decide) rfl) (fun bi aY=>?_))))))))))));obtain ⟨al,h⟩:=aaG h;refine apR (R:=(RSlE aag (fun K=>(aaj K)) 11 184 K)) (p:=d) (i:=2) (j:=0) aY rfl rfl amr avw rfl (by decide) rfl rfl aj ⟨_,_,rfl,aW⟩ rfl rfl (Nat.le_refl _) al (by decide) (fun ad ae am aZ a1 a2=>?_);have a3:=p12 a1;exact m2 (.slice ad (c ++ [d]).length ae) (wpList_nil (blkN (aae (wp_region_lit (bar (r:=((s + 1:Nat):Int)) rfl rfl (aaY (aa1 ((af).len) (by decide) (aad J))) (m1 (iI ((s + 1:Nat):Int)) (wt (⟨_,Nat.lt_succ_self _,_,t,s + 1,(c ++ [d]),ad,ae,am,rfl,fR,(a3.sel [1]),aai J,a2,(aaO al),h⟩))))))))
theorem aq2 (k:Nat):aj9 (f92 k):=apw k
theorem aqG (k:Nat) (F:aeK) (IH63:acz F.f63) (IH90:acE F.f90) (IH1004261:abc F.f1004261) (IH1006261:aa6 F.f1006261) (IH1009184:abe F.f1009184) (IH1010784:abd F.f1010784):acz (asn k F):=by
 unfold acz;intro K wi a b c d h hG f e;obtain ⟨r_,hr_,h⟩:=rz h;refine enter Tryz.func63 rfl (n:=5) rfl ?_;unfold asn at h;refine sr (m2 vN (wt (sr (m1 (sl b a c) ?_))));obtain ⟨d,g,h⟩:=ob h;refine cv ([sl b a c,.func (.func 90) #[] #[]]) ats (IH1004261 g (hG.mono kr) f (pt e)) ?_;rintro _ m ⟨i,rfl,j⟩;have l:=ca j e;refine m2 (.bool d) (wt (wp_ret ?_));cases (oi h).trans hr_;exact aas rfl (resT rfl) ⟨i,rfl,l⟩
theorem apy (k:Nat) (F:aeK) (IH63:acz F.f63) (IH90:acE F.f90) (IH1004261:abc F.f1004261) (IH1006261:aa6 F.f1006261) (IH1009184:abe F.f1009184) (IH1010784:abd F.f1010784):acE (aop k F):=by
 unfold acE;intro K wi am aM aN h hG an ao;obtain ⟨r_,hr_,h⟩:=rz h;obtain ⟨b,j,l,m,o,d,p,q,r,s,t⟩:=am;obtain ⟨u,v,x,y,z,A,B,C,D,G,rfl,Y,Z,ab,ac,ad,ae,af⟩:=aaj.open an;refine enter Tryz.func90 rfl (n:=29) rfl ?_;unfold aop at h;refine sr (bxoC (cs:=(aS b j l m o d u p v x q y z r A B s C D t G)) ao rfl rfl (fun aP I=>(m2 vN (wt (wp_seq (aax (fun a w=>∃ ag N,a=fr 29 (updL ag [(1,pp (zz wi) 0),(10,.bool N)])∧SR K K wi w [] [.box (zz wi) (zz wi) (aS b j l m o d u p v x q y z r A B s C D t G) 37]∧akP k F b j l m o d p q r s t N=some r_) ?_ ?_))))))
 ·refine wp_region_lit (fd 0 abv rfl (l1 0 (iI b) I Tya3 (c0 (b == 21) (m1 (.bool (b == 21)) (cd h (fun f h=>?_) (fun f h=>?_))))))
  ·exact o1 6 f (o1 6 f (o1 6 f (m3 true vT (cg f) (wt (⟨_,true,fR,I,h⟩)))))
  ·exact n1 6 f (fd 0 abv rfl (n1 6 f (l1 0 (iI b) I Tya3 (n1 6 f (c0 (b == 28) (m3 false (.bool (b == 28)) (cg f) (wt (⟨_,(b == 28),fR,I,h⟩))))))))
 ·rintro _ aQ ⟨ag,N,rfl,e,h⟩;unfold akP at h;refine cd h (fun O h=>?_) (fun O h=>?_)
  ·refine cT O (sr (m2 vN (wt (wp_ret (aaw ?_)))));cases (oi h).trans hr_;exact aas rfl (resT rfl) ⟨K,rfl,(e.sel [])⟩
  ·refine cF O (wp_skip (aae (aax (fun a w=>∃ ah J S,a=fr 29 (updL ah [(2,.bool S)])∧KH.sub K J∧SR K J wi w [] []∧ahV k F S=some r_) ?_ ?_)))
   ·refine wp_region_lit (fd 0 abv rfl (l1 0 (iI b) e Tya3 (c0 (b == 18) (m1 (.bool (b == 18)) (cd h (fun c h=>?_) (fun c h=>?_))))))
    ·exact o1 14 c (o1 14 c (o1 14 c (o1 14 c (ou 18 (ou 18 (ou 18 (o1 14 c (m3 true vT (cg c) (m1 vT (o0 24 (o0 24 (o0 24 (m3 true vT rfl (m2 vT (wt (⟨_,K,true,fR,kr,(e.sel []),h⟩))))))))))))))))
    ·refine n1 14 c (fd 0 abv rfl (n1 14 c (l1 0 (iI b) e Tya3 (n1 14 c (c0 (b == 6) (n1 14 c (m1 (.bool (b == 6)) (cd h (fun g h=>?_) (fun g h=>?_)))))))))
     ·refine n1 18 g (fd 5 aca rfl (n1 18 g (l1 0 (iI d) e Tya3 (n1 18 g (c0 (d == 1) (n1 14 c (m3 true (.bool (d == 1)) (cg g) (m3 false (.bool (d == 1)) (cg c) (m1 (.bool (d == 1)) (cd h (fun i h=>?_) (fun i h=>?_)))))))))))
      ·exact o1 24 i (o1 24 i (o1 24 i (m3 true vT (cg i) (m2 vT (wt (⟨_,K,true,fR,kr,(e.sel []),h⟩))))))
      ·refine n1 24 i (lN 0 (vS b j l m o d u p v x q y z r A B s C D t G) e ack aaX (n1 24 i ?_));obtain ⟨ap,aq,h⟩:=ob h;refine cv ([.agg (aS b j l m o d u p v x q y z r A B s C D t G)]) at4 ((aq2 k) aq (hG.mono kr) (aaj.intro Y Z ab ac ad ae af) (pt e)) ?_;rintro _ aT ⟨aU,ar,au,rfl,U,av⟩;have ai:=ca U e;refine n1 24 i ?_;obtain ⟨V,aw,h⟩:=ob h;refine cv ([sl ar ap au,.func (.func 63) #[] #[]]) aug (IH1009184 aw (hG.mono U.sub) av (pt ai)) ?_;rintro _ aV ⟨ax,rfl,aj⟩;have ay:=ca aj ai;exact m3 false (.bool V) (cg i) (m2 (.bool V) (wt (⟨_,ax,V,fR,(U.sub.trans aj.sub),(ay.sel []),h⟩)))
     ·refine o1 18 g (o1 18 g (o1 18 g (n1 14 c (m3 false vN (cg g) (m3 false vN (cg c) (m1 vN (n0 24 (lN 0 (vS b j l m o d u p v x q y z r A B s C D t G) e ack aaX (n0 24 ?_)))))))));obtain ⟨az,aA,h⟩:=ob h;refine cv ([.agg (aS b j l m o d u p v x q y z r A B s C D t G)]) at4 ((aq2 k) aA (hG.mono kr) (aaj.intro Y Z ab ac ad ae af) (pt e)) ?_;rintro _ aW ⟨aX,aB,aG,rfl,W,aH⟩;have ak:=ca W e;refine n0 24 ?_;obtain ⟨X,aI,h⟩:=ob h;refine cv ([sl aB az aG,.func (.func 63) #[] #[]]) aug (IH1009184 aI (hG.mono W.sub) aH (pt ak)) ?_;rintro _ aY ⟨aJ,rfl,al⟩;have aK:=ca al ak;exact m3 false (.bool X) rfl (m2 (.bool X) (wt (⟨_,aJ,X,fR,(W.sub.trans al.sub),(aK.sel []),h⟩)))
   ·rintro _ aZ ⟨ah,J,S,rfl,a1,aL,h⟩;unfold ahV at h;refine wp_ret ?_;cases (oi h).trans hr_;exact aas rfl (resT rfl) ⟨J,rfl,aL⟩
theorem aj5 (k:Nat) (F:aeK) (IH63:acz F.f63) (IH90:acE F.f90) (IH1004261:abc F.f1004261) (IH1006261:aa6 F.f1006261) (IH1009184:abe F.f1009184) (IH1010784:abd F.f1010784):abc (afM k F):=by
 unfold abc;intro K wi b c d a h hG f e;obtain ⟨r_,hr_,h⟩:=rz h;refine enter Tryz.func42 rfl (n:=9) rfl ?_;unfold afM at h;refine sr (m2 vN (wt (sr (m1 (sl c b d) (m1 (.func (.func 90) #[] #[]) ?_)))));obtain ⟨a,g,h⟩:=ob h;refine cv ([sl c b d,.func (.func 90) #[] #[]]) atF (IH1006261 g (hG.mono kr) f (pt e)) ?_;rintro _ m ⟨i,rfl,j⟩;have l:=ca j e;refine c0 (decide (a ≥ 0)) (m2 (.bool (decide (a ≥ 0))) (wt (wp_ret ?_)));cases (oi h).trans hr_;exact aas rfl (resT rfl) ⟨i,rfl,l⟩
theorem aiH (k:Nat) (F:aeK) (IH63:acz F.f63) (IH90:acE F.f90) (IH1004261:abc F.f1004261) (IH1006261:aa6 F.f1006261) (IH1009184:abe F.f1009184) (IH1010784:abd F.f1010784):aa6 (af3 k F):=by
 unfold aa6;intro K wi d p q an h hG t ah;obtain ⟨r_,hr_,h⟩:=rz h;refine enter Tryz.func62 rfl (n:=19) rfl ?_;unfold af3 at h;refine sr (m2 (iI 0) (wt (wp_seq (sr (m1 (sl p d q) (lS d.length abA (m1 (iI 0) (wt (wp_block (aaA (fun g_ a w=>∃ u g e,∃ (c:Nat),g_=e.length∧a=fr 19 (updL u [(0,sl p d q),(1,.func (.func 90) #[] #[]),(7,iI (d.length:Int)),(8,iI (c:Int))])∧KH.sub K g∧SR K g wi w [] []∧d.drop c=e∧acd k F e c=some r_) d.length ?_ ?_))))))))))
 ·exact ⟨_,K,d,0,rfl,fR,kr,ah,List.drop_zero,h⟩
 ·rintro _ _ ao ⟨u,g,e,c,rfl,rfl,l,m,f,h⟩;rcases e with _ | ⟨⟨x,y,z,A,B,C,D,G,I,J,N⟩,e⟩
  ·unfold acd at h;refine sr (bcm (r:=false) rfl rfl (congrArg some (aaq f)) (wt (wp_seq (cndF rfl (wp_exit (aaF (aaF (blkX (aae (sr (m2 (iI (-1)) (wt (wp_ret ?_)))))))))))));cases (oi h).trans hr_;exact aas rfl (resT rfl) ⟨g,rfl,m⟩
  ·unfold acd at h;refine sr (bcm (r:=true) rfl rfl (congrArg some (aar f)) (wt (wp_seq (cndT rfl (wp_skip (aae (wp_seq (wp_block (sr (m1 (iI (c:Int)) (m2 (iI (c:Int)) (wt (sr (m1 (.func (.func 90) #[] #[]) (m1 (sl p d q) (m1 (iI (c:Int)) ?_))))))))))))))));obtain ⟨ai,aj,ap,ak,aq,al,O⟩:=((ms t l)).row.at_ (aan f);obtain ⟨S,U,V,W,X,Y,Z,ab,ac,ad,rfl,ar,au,av,aw,ax,ay,az⟩:=aaj.open O;refine idxN (b:=ai) (o:=aj) (i:=c) abA aaX rfl ak rfl (aad f) (lD (vS x y z A B C S D U V G W X I Y Z J ab ac N ad) ack aaX rfl (fun j v hj=>m.cell (kr.cell (al j v hj))) ?_);obtain ⟨aA,am,h⟩:=ob h;refine cv ([.agg (aS x y z A B C S D U V G W X I Y Z J ab ac N ad)]) avO (IH90 am (hG.mono l) O (pt m)) ?_;rintro _ aB ⟨ae,rfl,af⟩;have ag:=ca af m;refine wt (cd h (fun s h=>?_) (fun s h=>?_))
   ·refine cT s (sr (m1 (iI (c:Int)) (m2 (iI (c:Int)) (wt (wp_ret (blkR (aaw (aaw (blkR (aaw ?_))))))))));cases (oi h).trans hr_;exact aas rfl (resT rfl) ⟨ae,rfl,ag⟩
   ·exact cF s (wp_skip (blkN (aae (wp_region_lit (bar (r:=((c + 1:Nat):Int)) rfl rfl (aaY (aa1 (((ms t l)).len) (by decide) (aad f))) (m1 (iI ((c + 1:Nat):Int)) (wt (⟨_,Nat.lt_succ_self _,_,ae,e,c + 1,rfl,fR,(l.trans af.sub),ag,aai f,h⟩))))))))
theorem ajl (k:Nat) (F:aeK) (IH63:acz F.f63) (IH90:acE F.f90) (IH1004261:abc F.f1004261) (IH1006261:aa6 F.f1006261) (IH1009184:abe F.f1009184) (IH1010784:abd F.f1010784):abe (agc k F):=by
 unfold abe;intro K wi b c d a h hG f e;obtain ⟨r_,hr_,h⟩:=rz h;refine enter Tryz.func91 rfl (n:=9) rfl ?_;unfold agc at h;refine sr (m2 vN (wt (sr (m1 (sl c b d) (m1 (.func (.func 63) #[] #[]) ?_)))));obtain ⟨a,g,h⟩:=ob h;refine cv ([sl c b d,.func (.func 63) #[] #[]]) auV (IH1010784 g (hG.mono kr) f (pt e)) ?_;rintro _ m ⟨i,rfl,j⟩;have l:=ca j e;refine c0 (decide (a ≥ 0)) (m2 (.bool (decide (a ≥ 0))) (wt (wp_ret ?_)));cases (oi h).trans hr_;exact aas rfl (resT rfl) ⟨i,rfl,l⟩
theorem ajJ (k:Nat) (F:aeK) (IH63:acz F.f63) (IH90:acE F.f90) (IH1004261:abc F.f1004261) (IH1006261:aa6 F.f1006261) (IH1009184:abe F.f1009184) (IH1010784:abd F.f1010784):abd (afQ k F):=by
 unfold abd;intro K wi d m p U h hG s C;obtain ⟨r_,hr_,h⟩:=rz h;refine enter Tryz.func107 rfl (n:=19) rfl ?_;unfold afQ at h;refine sr (m2 (iI 0) (wt (wp_seq (sr (m1 (sl m d p) (lS d.length amr (m1 (iI 0) (wt (wp_block (aaA (fun g_ a w=>∃ t j e,∃ (c:Nat),g_=e.length∧a=fr 19 (updL t [(0,sl m d p),(1,.func (.func 63) #[] #[]),(7,iI (d.length:Int)),(8,iI (c:Int))])∧KH.sub K j∧SR K j wi w [] []∧d.drop c=e∧acp k F e c=some r_) d.length ?_ ?_))))))))))
 ·exact ⟨_,K,d,0,rfl,fR,kr,C,List.drop_zero,h⟩
 ·rintro _ _ V ⟨t,j,e,c,rfl,rfl,f,l,g,h⟩;rcases e with _ | ⟨u,e⟩
  ·unfold acp at h;refine sr (bcm (r:=false) rfl rfl (congrArg some (aaq g)) (wt (wp_seq (cndF rfl (wp_exit (aaF (aaF (blkX (aae (sr (m2 (iI (-1)) (wt (wp_ret ?_)))))))))))));cases (oi h).trans hr_;exact aas rfl (resT rfl) ⟨j,rfl,l⟩
  ·unfold acp at h;refine sr (bcm (r:=true) rfl rfl (congrArg some (aar g)) (wt (wp_seq (cndT rfl (wp_skip (aae (wp_seq (wp_block (sr (m1 (iI (c:Int)) (m2 (iI (c:Int)) (wt (sr (m1 (.func (.func 63) #[] #[]) (m1 (sl m d p) (m1 (iI (c:Int)) ?_))))))))))))))));obtain ⟨D,G,W,I,X,J,N⟩:=((s.mono f (fun _ _ h=>RSlE.mono (R:=fun K=>(aaj K)) (fun hs _ _ h=>aaj.mono hs h) f h))).row.at_ (aan g);obtain ⟨x,y,rfl,O⟩:=N;refine idxN (b:=D) (o:=G) (i:=c) amr adJ rfl I rfl (aad g) (ld1 (v:=sl x u y) abk rfl (l.cell (kr.cell (J 0 _ rfl))) ?_);obtain ⟨Y,S,h⟩:=ob h;refine cv ([sl x u y]) auK (IH63 S (hG.mono f) O (pt l)) ?_;rintro _ Z ⟨z,rfl,A⟩;have B:=ca A l;refine wt (cd h (fun q h=>?_) (fun q h=>?_))
   ·refine cT q (sr (m1 (iI (c:Int)) (m2 (iI (c:Int)) (wt (wp_ret (blkR (aaw (aaw (blkR (aaw ?_))))))))));cases (oi h).trans hr_;exact aas rfl (resT rfl) ⟨z,rfl,B⟩
   ·exact cF q (wp_skip (blkN (aae (wp_region_lit (bar (r:=((c + 1:Nat):Int)) rfl rfl (aaY (aa1 (((s.mono f (fun _ _ h=>RSlE.mono (R:=fun K=>(aaj K)) (fun hs _ _ h=>aaj.mono hs h) f h))).len) (by decide) (aad g))) (m1 (iI ((c + 1:Nat):Int)) (wt (⟨_,Nat.lt_succ_self _,_,z,e,c + 1,rfl,fR,(f.trans A.sub),B,aai g,h⟩))))))))
theorem ae2 (k0:Nat) : ∀ k,acz (acf k0 k).f63∧acE (acf k0 k).f90∧abc (acf k0 k).f1004261∧aa6 (acf k0 k).f1006261∧abe (acf k0 k).f1009184∧abd (acf k0 k).f1010784:=by
 intro k;induction k with
 | zero=>exact ⟨(by unfold acz; intro _ _ _ _ _ _ h_; cases h_),(by unfold acE; intro _ _ _ _ _ h_; cases h_),(by unfold abc; intro _ _ _ _ _ _ h_; cases h_),(by unfold aa6; intro _ _ _ _ _ _ h_; cases h_),(by unfold abe; intro _ _ _ _ _ _ h_; cases h_),(by unfold abd; intro _ _ _ _ _ _ h_; cases h_)⟩
 | succ k ih=>exact ⟨aqG k0 (acf k0 k) ih.1 ih.2.1 ih.2.2.1 ih.2.2.2.1 ih.2.2.2.2.1 ih.2.2.2.2.2,apy k0 (acf k0 k) ih.1 ih.2.1 ih.2.2.1 ih.2.2.2.1 ih.2.2.2.2.1 ih.2.2.2.2.2,aj5 k0 (acf k0 k) ih.1 ih.2.1 ih.2.2.1 ih.2.2.2.1 ih.2.2.2.2.1 ih.2.2.2.2.2,aiH k0 (acf k0 k) ih.1 ih.2.1 ih.2.2.1 ih.2.2.2.1 ih.2.2.2.2.1 ih.2.2.2.2.2,ajl k0 (acf k0 k) ih.1 ih.2.1 ih.2.2.1 ih.2.2.2.1 ih.2.2.2.2.1 ih.2.2.2.2.2,ajJ k0 (acf k0 k) ih.1 ih.2.1 ih.2.2.1 ih.2.2.2.1 ih.2.2.2.2.1 ih.2.2.2.2.2⟩
theorem at2 (k:Nat):acz (f63 k):=(ae2 k k).1
theorem av7 (k:Nat):acE (f90 k):=(ae2 k k).2.1
theorem asY (k:Nat):abc (f1004261 k):=(ae2 k k).2.2.1
theorem ar7 (k:Nat):aa6 (f1006261 k):=(ae2 k k).2.2.2.1
theorem as6 (k:Nat):abe (f1009184 k):=(ae2 k k).2.2.2.2.1
theorem asK (k:Nat):abd (f1010784 k):=(ae2 k k).2.2.2.2.2
theorem aqe (k:Nat) (F:acQ) (IH24:abY F.f24) (IH43:ab1 F.f43) (IH65:abZ F.f65) (IH1004205:aaR F.f1004205) (IH1006205:aaU F.f1006205) (IH1006449:aaT F.f1006449) (IH1009382:aaQ F.f1009382) (IH1009447:aaS F.f1009447) (IH1010882:aaP F.f1010882):abY (asy k F):=by
 unfold abY;intro K wi a b c d h hG f e;obtain ⟨r_,hr_,h⟩:=rz h;refine enter Tryz.func24 rfl (n:=5) rfl ?_;unfold asy at h;refine sr (m2 vN (wt (sr (m1 (sl b a c) ?_))));obtain ⟨d,g,h⟩:=ob h;refine cv ([sl b a c,.func (.func 43) #[] #[]]) ats (IH1004205 g (hG.mono kr) f (pt e)) ?_;rintro _ m ⟨i,rfl,j⟩;have l:=ca j e;refine m2 (.bool d) (wt (wp_ret ?_));cases (oi h).trans hr_;exact aas rfl (resT rfl) ⟨i,rfl,l⟩
theorem aqL (k:Nat) (F:acQ) (IH24:abY F.f24) (IH43:ab1 F.f43) (IH65:abZ F.f65) (IH1004205:aaR F.f1004205) (IH1006205:aaU F.f1006205) (IH1006449:aaT F.f1006449) (IH1009382:aaQ F.f1009382) (IH1009447:aaS F.f1009447) (IH1010882:aaP F.f1010882):ab1 (aoy k F):=by
 unfold ab1;intro K wi a5 bJ bK h hG a6 a7;obtain ⟨r_,hr_,h⟩:=rz h;obtain ⟨c,al,am,an,ao,l,G,j,t,A,B⟩:=a5;obtain ⟨N,O,m,p,C,D,S,U,V,W,rfl,bL,bM,a8,ac,aN,a9,ba⟩:=aaj.open a6;refine enter Tryz.func43 rfl (n:=80) rfl ?_;unfold aoy at h;refine sr (bxoC (cs:=(aS c al am an ao l N G O m j p C t D S A U V B W)) a7 rfl rfl (fun bN X=>(m2 vN (wt (wp_seq (sr (fd 0 abv rfl (l1 0 (iI c) X Tya3 (wt (wp_block (aax (fun a w=>∃ aP ap,a=fr 80 (updL aP [(1,pp (zz wi) 0),(4,iI c),(5,.bool ap)])∧SR K K wi w [] [.box (zz wi) (zz wi) (aS c al am an ao l N G O m j p C t D S A U V B W) 37]∧ahI k F c l G j t A B ap=some r_) ?_ ?_)))))))))))
 ·refine sr (c0 (c == 17) (m2 (.bool (c == 17)) (wt (cd h (fun aq h=>?_) (fun aq h=>?_)))))
  ·exact cT aq (wp_skip (aae (⟨_,(c == 17),fR,X,h⟩)))
  ·refine cF aq (sr (c0 (c == 15) (m2 (.bool (c == 15)) (wt (cd h (fun ar h=>?_) (fun ar h=>?_))))))
   ·exact cT ar (wp_skip (aae (⟨_,(c == 15),fR,X,h⟩)))
   ·refine cF ar (sr (c0 (c == 18) (m2 (.bool (c == 18)) (wt (cd h (fun au h=>?_) (fun au h=>?_))))))
    ·exact cT au (wp_skip (aae (⟨_,(c == 18),fR,X,h⟩)))
    ·exact cF au (wp_region_lit (c0 (c == 19) (m2 (.bool (c == 19)) (wt (⟨_,(c == 19),fR,X,h⟩)))))
 ·rintro _ bO ⟨aP,ap,rfl,d,h⟩;unfold ahI at h;refine cd h (fun av h=>?_) (fun av h=>?_)
  ·refine cT av (sr (m2 vT (wt (wp_ret (blkR (aaw ?_))))));cases (oi h).trans hr_;exact aas rfl (resT rfl) ⟨K,rfl,(d.sel [])⟩
  ·refine cF av (sr (c0 (c == 20) (m2 (.bool (c == 20)) (wt (cd h (fun aw h=>?_) (fun aw h=>?_))))))
   ·refine cT aw (aax (fun a w=>∃ aQ ad ax,a=fr 80 (updL aQ [(2,.bool ax)])∧KH.sub K ad∧SR K ad wi w [] []∧aix k F ax=some r_) ?_ ?_)
    ·refine wp_region_lit (fd 5 aca rfl (l1 0 (iI l) d Tya3 (c0 (l == 1) (m1 (.bool (l == 1)) (cd h (fun u h=>?_) (fun u h=>?_))))))
     ·refine n1 15 u (fd 7 abp rfl (n1 15 u (l1 0 (sl m j p) d abk (n1 15 u ?_))));obtain ⟨aT,bb,h⟩:=ob h;refine cv ([sl m j p]) aki (IH24 bb (hG.mono kr) ac (pt d)) ?_;rintro _ bP ⟨bd,rfl,Y⟩;have ae:=ca Y d;refine m3 true (.bool aT) (cg u) (m1 (.bool aT) (cd h (fun x h=>?_) (fun x h=>?_)))
      ·refine n1 20 x (fd 8 acq rfl (n1 20 x (l1 0 (sl C t D) ae abk (n1 20 x ?_))));obtain ⟨ay,be,h⟩:=ob h;refine cv ([sl C t D]) aki (IH24 be (hG.mono Y.sub) (ms aN Y.sub) (pt ae)) ?_;rintro _ bQ ⟨bf,rfl,aU⟩;have bg:=ca aU ae;exact m3 true (.bool ay) (cg x) (m2 (.bool ay) (wt (⟨_,bf,ay,fR,(Y.sub.trans aU.sub),(bg.sel []),h⟩)))
      ·exact o1 20 x (o1 20 x (o1 20 x (m3 false vN (cg x) (m2 vN (wt (⟨_,bd,false,fR,Y.sub,(ae.sel []),h⟩))))))
     ·exact o1 15 u (o1 15 u (o1 15 u (m3 false vN (cg u) (m1 vN (o0 20 (o0 20 (o0 20 (m3 false vN rfl (m2 vN (wt (⟨_,K,false,fR,kr,(d.sel []),h⟩)))))))))))
    ·rintro _ bR ⟨aQ,ad,ax,rfl,bS,bh,h⟩;unfold aix at h;refine wp_ret (blkR (aaw ?_));cases (oi h).trans hr_;exact aas rfl (resT rfl) ⟨ad,rfl,bh⟩
   ·refine cF aw (sr (c0 (c == 21) (m2 (.bool (c == 21)) (wt (cd h (fun az h=>?_) (fun az h=>?_))))))
    ·refine cT az (aax (fun a w=>∃ aV af aA,a=fr 80 (updL aV [(2,.bool aA)])∧KH.sub K af∧SR K af wi w [] []∧aig k F aA=some r_) ?_ ?_)
     ·refine wp_region_lit (fd 6 abE rfl (l1 0 (sl N G O) d acb ?_));obtain ⟨⟨aB,ag,bT,bU,bV⟩,Z,h⟩:=ob h;obtain ⟨aW,ah,bW,aX,bX,aY,bi⟩:=(a8).row.at_ (aau Z).1;obtain ⟨bY,bZ,rfl,b0,b1⟩:=aam.open bi;refine idxG (b:=aW) (o:=ah) (i:=0) ab2 abh rfl aX rfl (aau Z).2.1 (aau Z).2.2 (fd (ah + (0:Int).toNat * 5 + 0) aer rfl (ld1 (v:=iI aB) Tya3 rfl (d.cell (kr.cell (aY 0 _ rfl))) (c0 (aB == 2) (m1 (.bool (aB == 2)) (cd h (fun g h=>?_) (fun g h=>?_))))))
      ·refine n1 33 g (fd 6 abE rfl (n1 33 g (l1 0 (sl N G O) d acb (n1 33 g (idxG (b:=aW) (o:=ah) (i:=0) ab2 abh rfl aX rfl (aau Z).2.1 (aau Z).2.2 (n1 33 g (fd (ah + (0:Int).toNat * 5 + 1) afa rfl (n1 33 g (ld1 (v:=iI ag) Tya3 rfl (d.cell (kr.cell (aY 1 _ rfl))) (n1 33 g (c0 (ag == 1) (m3 true (.bool (ag == 1)) (cg g) (m1 (.bool (ag == 1)) (cd h (fun q h=>?_) (fun q h=>?_)))))))))))))))
       ·refine n1 41 q (fd 7 abp rfl (n1 41 q (l1 0 (sl m j p) d abk (n1 41 q ?_))));obtain ⟨ai,bj,h⟩:=ob h;refine cv ([sl m j p]) auK ((at2 k) bj (hG.mono kr) ac (pt d)) ?_;rintro _ b2 ⟨bk,rfl,aZ⟩;have bm:=ca aZ d;exact n1 41 q (uN ai (m3 true (.bool (!ai)) (cg q) (m2 (.bool (!ai)) (wt (⟨_,bk,(!ai),fR,aZ.sub,(bm.sel []),h⟩)))))
       ·exact o1 41 q (o1 41 q (o1 41 q (o1 41 q (m3 false vN (cg q) (m2 vN (wt (⟨_,K,false,fR,kr,(d.sel []),h⟩)))))))
      ·exact o1 33 g (o1 33 g (o1 33 g (o1 33 g (o1 33 g (o1 33 g (m3 false vN (cg g) (m1 vN (o0 41 (o0 41 (o0 41 (o0 41 (m3 false vN rfl (m2 vN (wt (⟨_,K,false,fR,kr,(d.sel []),h⟩)))))))))))))))
     ·rintro _ b3 ⟨aV,af,aA,rfl,b4,bn,h⟩;unfold aig at h;refine wp_ret (blkR (aaw ?_));cases (oi h).trans hr_;exact aas rfl (resT rfl) ⟨af,rfl,bn⟩
    ·refine cF az (aax (fun a w=>∃ a1 aG,a=fr 80 (updL a1 [(1,pp (zz wi) 0),(4,iI c),(47,.bool aG)])∧SR K K wi w [] [.box (zz wi) (zz wi) (aS c al am an ao l N G O m j p C t D S A U V B W) 37]∧aiy k F c l j t A B aG=some r_) ?_ ?_)
     ·refine sr (c0 (c == 23) (m2 (.bool (c == 23)) (wt (cd h (fun aH h=>?_) (fun aH h=>?_)))))
      ·exact cT aH (wp_skip (aae (⟨_,(c == 23),fR,d,h⟩)))
      ·refine cF aH (sr (c0 (c == 25) (m2 (.bool (c == 25)) (wt (cd h (fun aI h=>?_) (fun aI h=>?_))))))
       ·exact cT aI (wp_skip (aae (⟨_,(c == 25),fR,d,h⟩)))
       ·exact cF aI (wp_region_lit (c0 (c == 26) (m2 (.bool (c == 26)) (wt (⟨_,(c == 26),fR,d,h⟩)))))
     ·rintro _ b5 ⟨a1,aG,rfl,s,h⟩;unfold aiy at h;refine cd h (fun aJ h=>?_) (fun aJ h=>?_)
      ·refine cT aJ (sr (fd 7 abp rfl (l1 0 (sl m j p) s abk ?_)));obtain ⟨bo,bp,h⟩:=ob h;refine cv ([sl m j p]) aki (IH24 bp (hG.mono kr) ac (pt s)) ?_;rintro _ b6 ⟨bq,rfl,br⟩;have bs:=ca br s;refine m2 (.bool bo) (wt (wp_ret (blkR (aaw ?_))));cases (oi h).trans hr_;exact aas rfl (resT rfl) ⟨bq,rfl,(bs.sel [])⟩
      ·refine cF aJ (sr (c0 (c == 24) (m2 (.bool (c == 24)) (wt (cd h (fun aK h=>?_) (fun aK h=>?_))))))
       ·refine cT aK (aax (fun a w=>∃ a2 aj aL,a=fr 80 (updL a2 [(2,.bool aL)])∧KH.sub K aj∧SR K aj wi w [] []∧agW k F aL=some r_) ?_ ?_)
        ·refine wp_region_lit (fd 9 acJ rfl (l1 0 (sl S A U) s abk ?_));obtain ⟨bu,bv,h⟩:=ob h;refine cv ([sl S A U]) aki (IH24 bv (hG.mono kr) a9 (pt s)) ?_;rintro _ b7 ⟨bw,rfl,y⟩;have ak:=ca y s;refine m1 (.bool bu) (cd h (fun e h=>?_) (fun e h=>?_))
         ·exact o1 59 e (o1 59 e (o1 59 e (o1 59 e (ou 63 (ou 63 (ou 63 (ou 63 (ou 63 (ou 68 (ou 68 (ou 68 (ou 63 (o1 59 e (m3 true vT (cg e) (m2 vT (wt (⟨_,bw,true,fR,y.sub,(ak.sel []),h⟩)))))))))))))))))
         ·refine n1 59 e (fd 7 abp rfl (n1 59 e (l1 0 (sl m j p) ak abk (n1 59 e ?_))));obtain ⟨bx,bz,h⟩:=ob h;refine cv ([sl m j p]) aki (IH24 bz (hG.mono y.sub) (ms ac y.sub) (pt ak)) ?_;rintro _ b8 ⟨a3,rfl,I⟩;have J:=ca I ak;refine n1 59 e (m1 (.bool bx) (cd h (fun f h=>?_) (fun f h=>?_)))
          ·refine n1 63 f (fd 5 aca rfl (n1 63 f (l1 0 (iI l) J Tya3 (n1 63 f (bbt (r:=(IntKind.i64.wrap (BitVec.ofInt IntKind.i64.bits l &&& BitVec.ofInt IntKind.i64.bits 1).toNat)) rfl rfl rfl (n1 63 f (c0 ((IntKind.i64.wrap (BitVec.ofInt IntKind.i64.bits l &&& BitVec.ofInt IntKind.i64.bits 1).toNat) == 0) (n1 63 f (m1 (.bool ((IntKind.i64.wrap (BitVec.ofInt IntKind.i64.bits l &&& BitVec.ofInt IntKind.i64.bits 1).toNat) == 0)) (cd h (fun z h=>?_) (fun z h=>?_)))))))))))
           ·exact o1 68 z (o1 68 z (o1 68 z (n1 63 f (m3 true vT (cg z) (n1 59 e (m3 true vT (cg f) (m3 false vT (cg e) (m2 vT (wt (⟨_,a3,true,fR,(y.sub.trans I.sub),(J.sel []),h⟩))))))))))
           ·refine n1 68 z (fd 8 acq rfl (n1 68 z (l1 0 (sl C t D) J abk (n1 68 z ?_))));obtain ⟨ab,bA,h⟩:=ob h;refine cv ([sl C t D]) aki (IH24 bA (hG.mono (y.sub.trans I.sub)) (ms aN (y.sub.trans I.sub)) (pt J)) ?_;rintro _ b9 ⟨bB,rfl,a4⟩;have bC:=ca a4 J;exact n1 63 f (m3 false (.bool ab) (cg z) (n1 59 e (m3 true (.bool ab) (cg f) (m3 false (.bool ab) (cg e) (m2 (.bool ab) (wt (⟨_,bB,ab,fR,((y.sub.trans I.sub).trans a4.sub),(bC.sel []),h⟩)))))))
          ·exact o1 63 f (o1 63 f (o1 63 f (o1 63 f (o1 63 f (ou 68 (ou 68 (ou 68 (o1 63 f (n1 59 e (m3 false vN (cg f) (m3 false vN (cg e) (m2 vN (wt (⟨_,a3,false,fR,(y.sub.trans I.sub),(J.sel []),h⟩))))))))))))))
        ·rintro _ cb ⟨a2,aj,aL,rfl,cc,bD,h⟩;unfold agW at h;refine wp_ret (blkR (aaw ?_));cases (oi h).trans hr_;exact aas rfl (resT rfl) ⟨aj,rfl,bD⟩
       ·refine cF aK (sr (c0 (c == 27) (m2 (.bool (c == 27)) (wt (cd h (fun aM h=>?_) (fun aM h=>?_))))))
        ·refine cT aM (sr (fd 10 abi rfl (l1 0 (sl V B W) s ael ?_)));obtain ⟨bE,bF,h⟩:=ob h;refine cv ([sl V B W,.func (.func 65) #[] #[]]) avm (IH1006449 bF (hG.mono kr) ba (pt s)) ?_;rintro _ ce ⟨bG,rfl,bH⟩;have bI:=ca bH s;refine m2 (.bool bE) (wt (wp_ret (blkR (aaw ?_))));cases (oi h).trans hr_;exact aas rfl (resT rfl) ⟨bG,rfl,(bI.sel [])⟩
        ·refine cF aM (wp_skip (blkN (aae (sr (m2 vN (wt (wp_ret ?_)))))));cases (oi h).trans hr_;exact aas rfl (resT rfl) ⟨K,rfl,(s.sel [])⟩
theorem apW (k:Nat) (F:acQ) (IH24:abY F.f24) (IH43:ab1 F.f43) (IH65:abZ F.f65) (IH1004205:aaR F.f1004205) (IH1006205:aaU F.f1006205) (IH1006449:aaT F.f1006449) (IH1009382:aaQ F.f1009382) (IH1009447:aaS F.f1009447) (IH1010882:aaP F.f1010882):abZ (asL k F):=by
 unfold abZ;intro K wi e w x h hG f g;obtain ⟨r_,hr_,h⟩:=rz h;obtain ⟨i,j,l,m,a⟩:=e;obtain ⟨o,p,b,c,rfl,y,z,q⟩:=aaI.open f;refine enter Tryz.func65 rfl (n:=6) rfl ?_;unfold asL at h;refine sr (bxoC (cs:=(aC' i j l o m p b a c)) g rfl rfl (fun A d=>(m2 vN (wt (sr (fd 4 ado rfl (l1 0 (sl b a c) d abk ?_)))))));obtain ⟨r,s,h⟩:=ob h;refine cv ([sl b a c]) aki (IH24 s (hG.mono kr) q (pt d)) ?_;rintro _ B ⟨t,rfl,u⟩;have v:=ca u d;refine m2 (.bool r) (wt (wp_ret ?_));cases (oi h).trans hr_;exact aas rfl (resT rfl) ⟨t,rfl,(v.sel [])⟩
theorem ajX (k:Nat) (F:acQ) (IH24:abY F.f24) (IH43:ab1 F.f43) (IH65:abZ F.f65) (IH1004205:aaR F.f1004205) (IH1006205:aaU F.f1006205) (IH1006449:aaT F.f1006449) (IH1009382:aaQ F.f1009382) (IH1009447:aaS F.f1009447) (IH1010882:aaP F.f1010882):aaR (af9 k F):=by
 unfold aaR;intro K wi b c d a h hG f e;obtain ⟨r_,hr_,h⟩:=rz h;refine enter Tryz.func42 rfl (n:=9) rfl ?_;unfold af9 at h;refine sr (m2 vN (wt (sr (m1 (sl c b d) (m1 (.func (.func 43) #[] #[]) ?_)))));obtain ⟨a,g,h⟩:=ob h;refine cv ([sl c b d,.func (.func 43) #[] #[]]) atF (IH1006205 g (hG.mono kr) f (pt e)) ?_;rintro _ m ⟨i,rfl,j⟩;have l:=ca j e;refine c0 (decide (a ≥ 0)) (m2 (.bool (decide (a ≥ 0))) (wt (wp_ret ?_)));cases (oi h).trans hr_;exact aas rfl (resT rfl) ⟨i,rfl,l⟩
theorem aiQ (k:Nat) (F:acQ) (IH24:abY F.f24) (IH43:ab1 F.f43) (IH65:abZ F.f65) (IH1004205:aaR F.f1004205) (IH1006205:aaU F.f1006205) (IH1006449:aaT F.f1006449) (IH1009382:aaQ F.f1009382) (IH1009447:aaS F.f1009447) (IH1010882:aaP F.f1010882):aaU (af4 k F):=by
 unfold aaU;intro K wi d p q an h hG t ah;obtain ⟨r_,hr_,h⟩:=rz h;refine enter Tryz.func62 rfl (n:=19) rfl ?_;unfold af4 at h;refine sr (m2 (iI 0) (wt (wp_seq (sr (m1 (sl p d q) (lS d.length abA (m1 (iI 0) (wt (wp_block (aaA (fun g_ a w=>∃ u g e,∃ (c:Nat),g_=e.length∧a=fr 19 (updL u [(0,sl p d q),(1,.func (.func 43) #[] #[]),(7,iI (d.length:Int)),(8,iI (c:Int))])∧KH.sub K g∧SR K g wi w [] []∧d.drop c=e∧ab9 k F e c=some r_) d.length ?_ ?_))))))))))
 ·exact ⟨_,K,d,0,rfl,fR,kr,ah,List.drop_zero,h⟩
 ·rintro _ _ ao ⟨u,g,e,c,rfl,rfl,l,m,f,h⟩;rcases e with _ | ⟨⟨x,y,z,A,B,C,D,G,I,J,N⟩,e⟩
  ·unfold ab9 at h;refine sr (bcm (r:=false) rfl rfl (congrArg some (aaq f)) (wt (wp_seq (cndF rfl (wp_exit (aaF (aaF (blkX (aae (sr (m2 (iI (-1)) (wt (wp_ret ?_)))))))))))));cases (oi h).trans hr_;exact aas rfl (resT rfl) ⟨g,rfl,m⟩
  ·unfold ab9 at h;refine sr (bcm (r:=true) rfl rfl (congrArg some (aar f)) (wt (wp_seq (cndT rfl (wp_skip (aae (wp_seq (wp_block (sr (m1 (iI (c:Int)) (m2 (iI (c:Int)) (wt (sr (m1 (.func (.func 43) #[] #[]) (m1 (sl p d q) (m1 (iI (c:Int)) ?_))))))))))))))));obtain ⟨ai,aj,ap,ak,aq,al,O⟩:=((ms t l)).row.at_ (aan f);obtain ⟨S,U,V,W,X,Y,Z,ab,ac,ad,rfl,ar,au,av,aw,ax,ay,az⟩:=aaj.open O;refine idxN (b:=ai) (o:=aj) (i:=c) abA aaX rfl ak rfl (aad f) (lD (vS x y z A B C S D U V G W X I Y Z J ab ac N ad) ack aaX rfl (fun j v hj=>m.cell (kr.cell (al j v hj))) ?_);obtain ⟨aA,am,h⟩:=ob h;refine cv ([.agg (aS x y z A B C S D U V G W X I Y Z J ab ac N ad)]) avP (IH43 am (hG.mono l) O (pt m)) ?_;rintro _ aB ⟨ae,rfl,af⟩;have ag:=ca af m;refine wt (cd h (fun s h=>?_) (fun s h=>?_))
   ·refine cT s (sr (m1 (iI (c:Int)) (m2 (iI (c:Int)) (wt (wp_ret (blkR (aaw (aaw (blkR (aaw ?_))))))))));cases (oi h).trans hr_;exact aas rfl (resT rfl) ⟨ae,rfl,ag⟩
   ·exact cF s (wp_skip (blkN (aae (wp_region_lit (bar (r:=((c + 1:Nat):Int)) rfl rfl (aaY (aa1 (((ms t l)).len) (by decide) (aad f))) (m1 (iI ((c + 1:Nat):Int)) (wt (⟨_,Nat.lt_succ_self _,_,ae,e,c + 1,rfl,fR,(l.trans af.sub),ag,aai f,h⟩))))))))
theorem aiW (k:Nat) (F:acQ) (IH24:abY F.f24) (IH43:ab1 F.f43) (IH65:abZ F.f65) (IH1004205:aaR F.f1004205) (IH1006205:aaU F.f1006205) (IH1006449:aaT F.f1006449) (IH1009382:aaQ F.f1009382) (IH1009447:aaS F.f1009447) (IH1010882:aaP F.f1010882):aaT (age k F):=by
 unfold aaT;intro K wi b c d m h hG f a;obtain ⟨r_,hr_,h⟩:=rz h;refine enter Tryz.func64 rfl (n:=9) rfl ?_;unfold age at h;refine sr (bxoC (cs:=#[.func (.func 65) #[] #[]]) a rfl rfl (fun o a=>(m2 vN (wt (sr (m1 (sl c b d) (mkf (us:=[]) (vs:=[pp (zz wi) 0]) rfl rfl ?_)))))));obtain ⟨e,g,h⟩:=ob h;refine cv ([sl c b d,.func (.func 94) #[] #[pp (zz wi) 0]]) ava (IH1009382 g (hG.mono kr) f (pt a)) ?_;rintro _ p ⟨i,rfl,j⟩;have l:=ca j a;refine uN e (m2 (.bool (!e)) (wt (wp_ret ?_)));cases (oi h).trans hr_;exact aas rfl (resT rfl) ⟨i,rfl,(l.sel [])⟩
theorem aiI (k:Nat) (F:acQ) (IH24:abY F.f24) (IH43:ab1 F.f43) (IH65:abZ F.f65) (IH1004205:aaR F.f1004205) (IH1006205:aaU F.f1006205) (IH1006449:aaT F.f1006449) (IH1009382:aaQ F.f1009382) (IH1009447:aaS F.f1009447) (IH1010882:aaP F.f1010882):aaQ (afN k F):=by
 unfold aaQ;intro K wi b c d g bs a h hG f e;obtain ⟨r_,hr_,h⟩:=rz h;refine enter Tryz.func93 rfl (n:=9) rfl ?_;unfold afN at h;refine sr (m2 vN (wt (sr (m1 (sl c b d) (m1 (.func (.func 94) #[] #[pp g 0]) ?_)))));obtain ⟨a,i,h⟩:=ob h;refine cv ([sl c b d,.func (.func 94) #[] #[pp g 0]]) auP (IH1010882 i (hG.mono kr) f (pt e)) ?_;rintro _ o ⟨j,rfl,l⟩;have m:=ca l e;refine c0 (decide (a ≥ 0)) (m2 (.bool (decide (a ≥ 0))) (wt (wp_ret ?_)));cases (oi h).trans hr_;exact aas rfl (resT rfl) ⟨j,rfl,m⟩
theorem aiN (k:Nat) (F:acQ) (IH24:abY F.f24) (IH43:ab1 F.f43) (IH65:abZ F.f65) (IH1004205:aaR F.f1004205) (IH1006205:aaU F.f1006205) (IH1006449:aaT F.f1006449) (IH1009382:aaQ F.f1009382) (IH1009447:aaS F.f1009447) (IH1010882:aaP F.f1010882):aaS (af6 k F):=by
 unfold aaS;intro K wi p z g bs A h hG q r;obtain ⟨r_,hr_,h⟩:=rz h;obtain ⟨b,c,d,e,f⟩:=p;obtain ⟨i,j,l,m,rfl,s,t,u⟩:=aaI.open q;refine enter Tryz.func94 rfl (n:=8) rfl ?_;unfold af6 at h;refine sr (bxoC (cs:=(aC' b c d i e j l f m)) r rfl rfl (fun B a=>(m2 vN (wt (sr (l1 1 (.func (.func 65) #[] #[]) a atp (lN 0 (vC b c d i e j l f m) a afO act ?_)))))));obtain ⟨o,v,h⟩:=ob h;refine cv ([.agg (aC' b c d i e j l f m)]) au2 (IH65 v (hG.mono kr) (aaI.intro s t u) (pt a)) ?_;rintro _ C ⟨w,rfl,x⟩;have y:=ca x a;refine uN o (m2 (.bool (!o)) (wt (wp_ret ?_)));cases (oi h).trans hr_;exact aas rfl (resT rfl) ⟨w,rfl,(y.sel [1])⟩
theorem ai8 (k:Nat) (F:acQ) (IH24:abY F.f24) (IH43:ab1 F.f43) (IH65:abZ F.f65) (IH1004205:aaR F.f1004205) (IH1006205:aaU F.f1006205) (IH1006449:aaT F.f1006449) (IH1009382:aaQ F.f1009382) (IH1009447:aaS F.f1009447) (IH1010882:aaP F.f1010882):aaP (afW k F):=by
 unfold aaP;intro K wi d q s g bs ac h hG u V;obtain ⟨r_,hr_,h⟩:=rz h;refine enter Tryz.func108 rfl (n:=19) rfl ?_;unfold afW at h;refine sr (m2 (iI 0) (wt (wp_seq (sr (m1 (sl q d s) (lS d.length aco (m1 (iI 0) (wt (wp_block (aaA (fun g_ a w=>∃ x l e,∃ (c:Nat),g_=e.length∧a=fr 19 (updL x [(0,sl q d s),(1,.func (.func 94) #[] #[pp g 0]),(7,iI (d.length:Int)),(8,iI (c:Int))])∧KH.sub K l∧SR K l wi w [.box bs g #[.func (.func 65) #[] #[]] 111] [.box bs g #[.func (.func 65) #[] #[]] 111]∧d.drop c=e∧ab6 k F e c=some r_) d.length ?_ ?_))))))))))
 ·exact ⟨_,K,d,0,rfl,fR,kr,V,List.drop_zero,h⟩
 ·rintro _ _ ad ⟨x,l,e,c,rfl,rfl,m,p,f,h⟩;rcases e with _ | ⟨⟨y,z,A,B,C⟩,e⟩
  ·unfold ab6 at h;refine sr (bcm (r:=false) rfl rfl (congrArg some (aaq f)) (wt (wp_seq (cndF rfl (wp_exit (aaF (aaF (blkX (aae (sr (m2 (iI (-1)) (wt (wp_ret ?_)))))))))))));cases (oi h).trans hr_;exact aas rfl (resT rfl) ⟨l,rfl,p⟩
  ·unfold ab6 at h;refine sr (bcm (r:=true) rfl rfl (congrArg some (aar f)) (wt (wp_seq (cndT rfl (wp_skip (aae (wp_seq (wp_block (sr (m1 (iI (c:Int)) (m2 (iI (c:Int)) (wt (sr (m1 (.func (.func 94) #[] #[pp g 0]) (m1 (sl q d s) (m1 (iI (c:Int)) ?_))))))))))))))));obtain ⟨W,X,ae,Y,af,Z,D⟩:=((mc u m)).row.at_ (aan f);obtain ⟨G,I,J,N,rfl,ag,ah,ai⟩:=aaI.open D;refine idxN (b:=W) (o:=X) (i:=c) aco act rfl Y rfl (aad f) (lD (vC y z A G B I J C N) afO act rfl (fun j v hj=>p.cell (kr.cell (Z j v hj))) ?_);obtain ⟨aj,ab,h⟩:=ob h;refine clV (caps:=#[pp g 0]) (vs:=[.agg (aC' y z A G B I J C N),pp g 0]) rfl avi rfl (IH1009447 ab (hG.mono m) D (pt p)) ?_;rintro _ ak ⟨O,rfl,S⟩;have U:=ca S p;refine wt (cd h (fun t h=>?_) (fun t h=>?_))
   ·refine cT t (sr (m1 (iI (c:Int)) (m2 (iI (c:Int)) (wt (wp_ret (blkR (aaw (aaw (blkR (aaw ?_))))))))));cases (oi h).trans hr_;exact aas rfl (resT rfl) ⟨O,rfl,U⟩
   ·exact cF t (wp_skip (blkN (aae (wp_region_lit (bar (r:=((c + 1:Nat):Int)) rfl rfl (aaY (aa1 (((mc u m)).len) (by decide) (aad f))) (m1 (iI ((c + 1:Nat):Int)) (wt (⟨_,Nat.lt_succ_self _,_,O,e,c + 1,rfl,fR,(m.trans S.sub),U,aai f,h⟩))))))))
theorem ac5 (k0:Nat) : ∀ k,abY (abt k0 k).f24∧ab1 (abt k0 k).f43∧abZ (abt k0 k).f65∧aaR (abt k0 k).f1004205∧aaU (abt k0 k).f1006205∧aaT (abt k0 k).f1006449∧aaQ (abt k0 k).f1009382∧aaS (abt k0 k).f1009447∧aaP (abt k0 k).f1010882:=by
 intro k;induction k with
 | zero=>exact ⟨(by unfold abY; intro _ _ _ _ _ _ h_; cases h_),(by unfold ab1; intro _ _ _ _ _ h_; cases h_),(by unfold abZ; intro _ _ _ _ _ h_; cases h_),(by unfold aaR; intro _ _ _ _ _ _ h_; cases h_),(by unfold aaU; intro _ _ _ _ _ _ h_; cases h_),(by unfold aaT; intro _ _ _ _ _ _ h_; cases h_),(by unfold aaQ; intro _ _ _ _ _ _ _ _ h_; cases h_),(by unfold aaS; intro _ _ _ _ _ _ _ h_; cases h_),(by unfold aaP; intro _ _ _ _ _ _ _ _ h_; cases h_)⟩
 | succ k ih=>exact ⟨aqe k0 (abt k0 k) ih.1 ih.2.1 ih.2.2.1 ih.2.2.2.1 ih.2.2.2.2.1 ih.2.2.2.2.2.1 ih.2.2.2.2.2.2.1 ih.2.2.2.2.2.2.2.1 ih.2.2.2.2.2.2.2.2,aqL k0 (abt k0 k) ih.1 ih.2.1 ih.2.2.1 ih.2.2.2.1 ih.2.2.2.2.1 ih.2.2.2.2.2.1 ih.2.2.2.2.2.2.1 ih.2.2.2.2.2.2.2.1 ih.2.2.2.2.2.2.2.2,apW k0 (abt k0 k) ih.1 ih.2.1 ih.2.2.1 ih.2.2.2.1 ih.2.2.2.2.1 ih.2.2.2.2.2.1 ih.2.2.2.2.2.2.1 ih.2.2.2.2.2.2.2.1 ih.2.2.2.2.2.2.2.2,ajX k0 (abt k0 k) ih.1 ih.2.1 ih.2.2.1 ih.2.2.2.1 ih.2.2.2.2.1 ih.2.2.2.2.2.1 ih.2.2.2.2.2.2.1 ih.2.2.2.2.2.2.2.1 ih.2.2.2.2.2.2.2.2,aiQ k0 (abt k0 k) ih.1 ih.2.1 ih.2.2.1 ih.2.2.2.1 ih.2.2.2.2.1 ih.2.2.2.2.2.1 ih.2.2.2.2.2.2.1 ih.2.2.2.2.2.2.2.1 ih.2.2.2.2.2.2.2.2,aiW k0 (abt k0 k) ih.1 ih.2.1 ih.2.2.1 ih.2.2.2.1 ih.2.2.2.2.1 ih.2.2.2.2.2.1 ih.2.2.2.2.2.2.1 ih.2.2.2.2.2.2.2.1 ih.2.2.2.2.2.2.2.2,aiI k0 (abt k0 k) ih.1 ih.2.1 ih.2.2.1 ih.2.2.2.1 ih.2.2.2.2.1 ih.2.2.2.2.2.1 ih.2.2.2.2.2.2.1 ih.2.2.2.2.2.2.2.1 ih.2.2.2.2.2.2.2.2,aiN k0 (abt k0 k) ih.1 ih.2.1 ih.2.2.1 ih.2.2.2.1 ih.2.2.2.2.1 ih.2.2.2.2.2.1 ih.2.2.2.2.2.2.1 ih.2.2.2.2.2.2.2.1 ih.2.2.2.2.2.2.2.2,ai8 k0 (abt k0 k) ih.1 ih.2.1 ih.2.2.1 ih.2.2.2.1 ih.2.2.2.2.1 ih.2.2.2.2.2.1 ih.2.2.2.2.2.2.1 ih.2.2.2.2.2.2.2.1 ih.2.2.2.2.2.2.2.2⟩
theorem att (k:Nat):abY (f24 k):=(ac5 k k).1
theorem awa (k:Nat):ab1 (f43 k):=(ac5 k k).2.1
theorem av9 (k:Nat):abZ (f65 k):=(ac5 k k).2.2.1
theorem arJ (k:Nat):aaR (f1004205 k):=(ac5 k k).2.2.2.1
theorem arr (k:Nat):aaU (f1006205 k):=(ac5 k k).2.2.2.2.1
theorem arx (k:Nat):aaT (f1006449 k):=(ac5 k k).2.2.2.2.2.1
theorem arI (k:Nat):aaQ (f1009382 k):=(ac5 k k).2.2.2.2.2.2.1
theorem asf (k:Nat):aaS (f1009447 k):=(ac5 k k).2.2.2.2.2.2.2.1
theorem ar3 (k:Nat):aaP (f1010882 k):=(ac5 k k).2.2.2.2.2.2.2.2
theorem aqM (k:Nat):ajQ (apm k):=by
 unfold ajQ;intro K wi S au av h hG U V;obtain ⟨r_,hr_,h⟩:=rz h;obtain ⟨W,f,X,Y,Z,ab⟩:=S;obtain ⟨x,y,ac,ad,rfl,aw,C,ax⟩:=aav.open U;refine enter Tryz.func26 rfl (n:=20) rfl ?_;unfold apm at h;refine sr (bxoC (cs:=(aF W x f y X Y Z ac ab ad)) V rfl rfl (fun ay D=>(m2 nS (wt (sr (m2 nS (wt (wp_seq (sr (fd 1 ac0 rfl (l1 0 (sl x f y) D ah5 (lS f.length agh (m1 (iI 0) (wt (wp_block ?_)))))))))))))));have ae:=D.row_ (zz wi) 3 1;refine aaA (fun g_ a w=>∃ G l,∃ (g:Nat),∃ c m q t,g_=l.length∧a=fr 20 (updL G [(3,sl m c q),(7,sl x f y),(8,iI (f.length:Int)),(9,iI (g:Int))])∧SR K K wi w [] [eW (zz wi) m c q 3 1 t]∧f.drop g=l∧Reps (RInt .i64) 1 c t∧c.length * 8 ≤ mB∧agu k l g c=some r_) f.length ?_ ?_
 ·exact ⟨_,f,0,([]:List Int),none,0,[],rfl,fR,(ae.sel [0]),List.drop_zero,(abl (R:=(RInt .i64)) (size:=1)),(by simp),h⟩
 ·rintro _ _ af ⟨G,l,g,c,m,q,t,rfl,rfl,z,s,I,ag,h⟩;rcases l with _ | ⟨⟨u,d⟩,l⟩
  ·unfold agu at h;refine sr (bcm (r:=false) rfl rfl (congrArg some (aaq s)) (wt (wp_seq (cndF rfl (wp_exit (aaF (aaF (blkX (aae (sr (m1 (sl m c q) (m2 (sl m c q) (wt (wp_ret ?_))))))))))))));cases (oi h).trans hr_;exact aas rfl (resT rfl) ⟨K,m,q,t,rfl,z,I,ag⟩
  ·unfold agu at h;refine sr (bcm (r:=true) rfl rfl (congrArg some (aar s)) (wt (wp_seq (cndT rfl (wp_skip (aae (wp_seq (wp_block (sr ?_)))))))));obtain ⟨ah,ai,az,aj,aA,ak,al⟩:=(C).row.at_ (aan s);obtain ⟨rfl,aB⟩:=aaV.open al;refine idxN (b:=ah) (o:=ai) (i:=g) agh ajH rfl aj rfl (aad s) (lD ([.string u,iI d]) arO ajH rfl (fun j v hj=>z.cell (kr.cell (ak j v hj))) (aC #[sE,iI 0] z arV (fun aG am=>(sI 0 (.agg #[.string u,iI d]) #[.string u,iI d] am ajH rfl rfl (fun aH J=>(wt (wp_region_lit (m1 (sl m c q) (fd 1 aob rfl (l1 0 (iI d) J Tya3 (bsl (e:=3) (cells:=#[iI d]) (vs:=[(0,iI d)]) J rfl (aao abu Tys3 Tyz3 rfl (by decide) (by decide) rfl) (fun aI an=>?_))))))))))));obtain ⟨N,h⟩:=aaG h;refine apR (R:=(RInt .i64)) (p:=d) (i:=2) (j:=0) an rfl rfl abu Tyi3 rfl (by decide) rfl rfl I rfl rfl rfl (Nat.le_refl _) N (by decide) (fun A B O ao ap aq=>?_);have ar:=p12 ap;exact m2 (.slice A (c ++ [d]).length B) (wpList_nil (blkN (aae (wp_region_lit (bar (r:=((g + 1:Nat):Int)) rfl rfl (aaY (aa1 ((C).len) (by decide) (aad s))) (m1 (iI ((g + 1:Nat):Int)) (wt (⟨_,Nat.lt_succ_self _,_,l,g + 1,(c ++ [d]),A,B,O,rfl,fR,(ar.sel [1]),aai s,aq,(aaO N),h⟩))))))))
theorem ahh (k:Nat):ajQ (f26 k):=aqM k
theorem aqq (k:Nat):agL (asR k):=by
 unfold agL;intro K wi c a r_ h hG d;refine enter Tryz.func77 rfl (n:=9) rfl ?_;unfold asR at h;refine sr (m1 (.bool c) (uN c (wt (cd h (fun b h=>?_) (fun b h=>?_)))))
 ·exact cT b (wp_region_lit (m1 (iI a) (bld (cells:=#[iI a]) (vs:=[(0,iI a)]) rfl (fun w=>by kernel_rfl) (mki (v:=.agg #[iI a]) auj rfl (pnc rfl (panE (.inr ⟨_,rfl,a,K,(oi h).symm,rfl,d.sel []⟩)))))))
 ·exact cF b (wp_skip (retP (end0 rfl ⟨K,(oi h).symm,rfl,d⟩)))
theorem ade (k:Nat):agL (f77 k):=aqq k
theorem an9 (k:Nat):ahc (an3 k):=by
 unfold ahc;intro K wi bm h hG a;obtain ⟨r_,hr_,h⟩:=rz h;refine enter Tryz.func148 rfl (n:=32) rfl ?_;unfold an3 at h;refine sr (m2 (.map none) (wt (sr (mkm a (fun bn a=>(bld (cells:=#[iI 1,vN,iI 1,iI 1,vN]) (vs:=[(0,iI 1),(1,vN),(2,iI 1),(3,iI 1),(4,vN)]) rfl (fun w=>by kernel_rfl) (mup_ (kv:=kI) (q:=qI) (R:=(VAgg (aaD K))) (xs:=([]:List (Int × aaC))) (k:=1) (u:=(aaC.mk 1 false 1 1 false)) (uv:=.agg #[iI 1,vN,iI 1,iI 1,vN]) (i:=0) (.inl rfl) a rfl abj (aat Tyk3) keI (ajE (kv:=kI) (R:=(VAgg (aaD K)))) rfl rfl rfl ⟨[iI 1,vN,iI 1,iI 1,vN],rfl,.mk⟩ (fun bo bp bq b c=>(bld (cells:=#[iI 1,vN,iI 1,iI 1,vN]) (vs:=[(0,iI 1),(1,vN),(2,iI 1),(3,iI 1),(4,vN)]) rfl (fun w=>by kernel_rfl) (mup_ (kv:=kI) (q:=qI) (R:=(VAgg (aaD K))) (k:=2) (u:=(aaC.mk 1 false 1 1 false)) (uv:=.agg #[iI 1,vN,iI 1,iI 1,vN]) (i:=0) (.inl rfl) b rfl abj (aat Tyk3) keI c rfl rfl rfl ⟨[iI 1,vN,iI 1,iI 1,vN],rfl,.mk⟩ (fun br bs bu d e=>(bld (cells:=#[iI 2,vT,iI 0,iI 601,vN]) (vs:=[(0,iI 2),(1,vT),(2,iI 0),(3,iI 601),(4,vN)]) rfl (fun w=>by kernel_rfl) (mup_ (kv:=kI) (q:=qI) (R:=(VAgg (aaD K))) (k:=3) (u:=(aaC.mk 2 true 0 601 false)) (uv:=.agg #[iI 2,vT,iI 0,iI 601,vN]) (i:=0) (.inl rfl) d rfl abj (aat Tyk3) keI e rfl rfl rfl ⟨[iI 2,vT,iI 0,iI 601,vN],rfl,.mk⟩ (fun f g j l m=>?_))))))))))))));have o:SR K K wi j [] [.mp (zz wi) (zz wi) f g]:=l;refine bld (cells:=#[iI 2,vT,iI 0,iI 601,vN]) (vs:=[(0,iI 2),(1,vT),(2,iI 0),(3,iI 601),(4,vN)]) rfl (fun w=>by kernel_rfl) (mup_ (kv:=kI) (q:=qI) (R:=(VAgg (aaD K))) (k:=4) (u:=(aaC.mk 2 true 0 601 false)) (uv:=.agg #[iI 2,vT,iI 0,iI 601,vN]) (i:=0) (.inl rfl) o rfl abj (aat Tyk3) keI m rfl rfl rfl ⟨[iI 2,vT,iI 0,iI 601,vN],rfl,.mk⟩ (fun bv bw bx p r=>(bld (cells:=#[iI 2,vN,iI 1,iI 1,vN]) (vs:=[(0,iI 2),(1,vN),(2,iI 1),(3,iI 1),(4,vN)]) rfl (fun w=>by kernel_rfl) (mup_ (kv:=kI) (q:=qI) (R:=(VAgg (aaD K))) (k:=5) (u:=(aaC.mk 2 false 1 1 false)) (uv:=.agg #[iI 2,vN,iI 1,iI 1,vN]) (i:=0) (.inl rfl) p rfl abj (aat Tyk3) keI r rfl rfl rfl ⟨[iI 2,vN,iI 1,iI 1,vN],rfl,.mk⟩ (fun bz bA bB s t=>(bld (cells:=#[iI 2,vN,iI 1,iI 1,vN]) (vs:=[(0,iI 2),(1,vN),(2,iI 1),(3,iI 1),(4,vN)]) rfl (fun w=>by kernel_rfl) (mup_ (kv:=kI) (q:=qI) (R:=(VAgg (aaD K))) (k:=6) (u:=(aaC.mk 2 false 1 1 false)) (uv:=.agg #[iI 2,vN,iI 1,iI 1,vN]) (i:=0) (.inl rfl) s rfl abj (aat Tyk3) keI t rfl rfl rfl ⟨[iI 2,vN,iI 1,iI 1,vN],rfl,.mk⟩ (fun v x y z A=>?_))))))));have B:SR K K wi y [] [.mp (zz wi) (zz wi) v x]:=z;refine bld (cells:=#[iI 1,vN,iI 1,iI 1,vN]) (vs:=[(0,iI 1),(1,vN),(2,iI 1),(3,iI 1),(4,vN)]) rfl (fun w=>by kernel_rfl) (mup_ (kv:=kI) (q:=qI) (R:=(VAgg (aaD K))) (k:=7) (u:=(aaC.mk 1 false 1 1 false)) (uv:=.agg #[iI 1,vN,iI 1,iI 1,vN]) (i:=0) (.inl rfl) B rfl abj (aat Tyk3) keI A rfl rfl rfl ⟨[iI 1,vN,iI 1,iI 1,vN],rfl,.mk⟩ (fun bC bD bE C D=>(bld (cells:=#[iI 1,vN,iI 1,iI 1,vN]) (vs:=[(0,iI 1),(1,vN),(2,iI 1),(3,iI 1),(4,vN)]) rfl (fun w=>by kernel_rfl) (mup_ (kv:=kI) (q:=qI) (R:=(VAgg (aaD K))) (k:=8) (u:=(aaC.mk 1 false 1 1 false)) (uv:=.agg #[iI 1,vN,iI 1,iI 1,vN]) (i:=0) (.inl rfl) C rfl abj (aat Tyk3) keI D rfl rfl rfl ⟨[iI 1,vN,iI 1,iI 1,vN],rfl,.mk⟩ (fun bF bG bH G I=>(bld (cells:=#[iI 1,vN,iI 0,iI 0,vN]) (vs:=[(0,iI 1),(1,vN),(2,iI 0),(3,iI 0),(4,vN)]) rfl (fun w=>by kernel_rfl) (mup_ (kv:=kI) (q:=qI) (R:=(VAgg (aaD K))) (k:=9) (u:=(aaC.mk 1 false 0 0 false)) (uv:=.agg #[iI 1,vN,iI 0,iI 0,vN]) (i:=0) (.inl rfl) G rfl abj (aat Tyk3) keI I rfl rfl rfl ⟨[iI 1,vN,iI 0,iI 0,vN],rfl,.mk⟩ (fun J N O S U=>?_))))))));have V:SR K K wi O [] [.mp (zz wi) (zz wi) J N]:=S;refine bld (cells:=#[iI 0,vN,iI 2,iI 2,vN]) (vs:=[(0,iI 0),(1,vN),(2,iI 2),(3,iI 2),(4,vN)]) rfl (fun w=>by kernel_rfl) (mup_ (kv:=kI) (q:=qI) (R:=(VAgg (aaD K))) (k:=10) (u:=(aaC.mk 0 false 2 2 false)) (uv:=.agg #[iI 0,vN,iI 2,iI 2,vN]) (i:=0) (.inl rfl) V rfl abj (aat Tyk3) keI U rfl rfl rfl ⟨[iI 0,vN,iI 2,iI 2,vN],rfl,.mk⟩ (fun bI bJ bK W X=>(bld (cells:=#[iI 0,vN,iI 1,iI 1,vN]) (vs:=[(0,iI 0),(1,vN),(2,iI 1),(3,iI 1),(4,vN)]) rfl (fun w=>by kernel_rfl) (mup_ (kv:=kI) (q:=qI) (R:=(VAgg (aaD K))) (k:=11) (u:=(aaC.mk 0 false 1 1 false)) (uv:=.agg #[iI 0,vN,iI 1,iI 1,vN]) (i:=0) (.inl rfl) W rfl abj (aat Tyk3) keI X rfl rfl rfl ⟨[iI 0,vN,iI 1,iI 1,vN],rfl,.mk⟩ (fun bL bM bN Y Z=>(bld (cells:=#[iI 0,vN,iI 1,iI 1,vN]) (vs:=[(0,iI 0),(1,vN),(2,iI 1),(3,iI 1),(4,vN)]) rfl (fun w=>by kernel_rfl) (mup_ (kv:=kI) (q:=qI) (R:=(VAgg (aaD K))) (k:=12) (u:=(aaC.mk 0 false 1 1 false)) (uv:=.agg #[iI 0,vN,iI 1,iI 1,vN]) (i:=0) (.inl rfl) Y rfl abj (aat Tyk3) keI Z rfl rfl rfl ⟨[iI 0,vN,iI 1,iI 1,vN],rfl,.mk⟩ (fun ab ac ad ae af=>?_))))))));have ag:SR K K wi ad [] [.mp (zz wi) (zz wi) ab ac]:=ae;refine bld (cells:=#[iI 0,vN,iI 0,iI 0,vN]) (vs:=[]) rfl (fun w=>by kernel_rfl) (mup_ (kv:=kI) (q:=qI) (R:=(VAgg (aaD K))) (k:=13) (u:=(aaC.mk 0 false 0 0 false)) (uv:=.agg #[iI 0,vN,iI 0,iI 0,vN]) (i:=0) (.inl rfl) ag rfl abj (aat Tyk3) keI af rfl rfl rfl ⟨[iI 0,vN,iI 0,iI 0,vN],rfl,.mk⟩ (fun bO bP bQ ah ai=>(bld (cells:=#[iI 0,vN,iI 1,iI 1,vN]) (vs:=[(0,iI 0),(1,vN),(2,iI 1),(3,iI 1),(4,vN)]) rfl (fun w=>by kernel_rfl) (mup_ (kv:=kI) (q:=qI) (R:=(VAgg (aaD K))) (k:=14) (u:=(aaC.mk 0 false 1 1 false)) (uv:=.agg #[iI 0,vN,iI 1,iI 1,vN]) (i:=0) (.inl rfl) ah rfl abj (aat Tyk3) keI ai rfl rfl rfl ⟨[iI 0,vN,iI 1,iI 1,vN],rfl,.mk⟩ (fun bR bS bT aj ak=>(bld (cells:=#[iI 0,vN,iI 1,iI 1,vN]) (vs:=[(0,iI 0),(1,vN),(2,iI 1),(3,iI 1),(4,vN)]) rfl (fun w=>by kernel_rfl) (mup_ (kv:=kI) (q:=qI) (R:=(VAgg (aaD K))) (k:=15) (u:=(aaC.mk 0 false 1 1 false)) (uv:=.agg #[iI 0,vN,iI 1,iI 1,vN]) (i:=0) (.inl rfl) aj rfl abj (aat Tyk3) keI ak rfl rfl rfl ⟨[iI 0,vN,iI 1,iI 1,vN],rfl,.mk⟩ (fun al am an ao ap=>?_))))))));have aq:SR K K wi an [] [.mp (zz wi) (zz wi) al am]:=ao;refine bld (cells:=#[iI 0,vN,iI 1,iI 1,vN]) (vs:=[(0,iI 0),(1,vN),(2,iI 1),(3,iI 1),(4,vN)]) rfl (fun w=>by kernel_rfl) (mup_ (kv:=kI) (q:=qI) (R:=(VAgg (aaD K))) (k:=16) (u:=(aaC.mk 0 false 1 1 false)) (uv:=.agg #[iI 0,vN,iI 1,iI 1,vN]) (i:=0) (.inl rfl) aq rfl abj (aat Tyk3) keI ap rfl rfl rfl ⟨[iI 0,vN,iI 1,iI 1,vN],rfl,.mk⟩ (fun bU bV bW ar au=>(bld (cells:=#[iI 0,vN,iI 0,iI 1,vN]) (vs:=[(0,iI 0),(1,vN),(2,iI 0),(3,iI 1),(4,vN)]) rfl (fun w=>by kernel_rfl) (mup_ (kv:=kI) (q:=qI) (R:=(VAgg (aaD K))) (k:=17) (u:=(aaC.mk 0 false 0 1 false)) (uv:=.agg #[iI 0,vN,iI 0,iI 1,vN]) (i:=0) (.inl rfl) ar rfl abj (aat Tyk3) keI au rfl rfl rfl ⟨[iI 0,vN,iI 0,iI 1,vN],rfl,.mk⟩ (fun bX bY bZ av aw=>(bld (cells:=#[iI 0,vN,iI 0,iI 0,vN]) (vs:=[]) rfl (fun w=>by kernel_rfl) (mup_ (kv:=kI) (q:=qI) (R:=(VAgg (aaD K))) (k:=18) (u:=(aaC.mk 0 false 0 0 false)) (uv:=.agg #[iI 0,vN,iI 0,iI 0,vN]) (i:=0) (.inl rfl) av rfl abj (aat Tyk3) keI aw rfl rfl rfl ⟨[iI 0,vN,iI 0,iI 0,vN],rfl,.mk⟩ (fun ax ay az aA aB=>?_))))))));have aG:SR K K wi az [] [.mp (zz wi) (zz wi) ax ay]:=aA;refine bld (cells:=#[iI 0,vN,iI 0,iI 0,vN]) (vs:=[]) rfl (fun w=>by kernel_rfl) (mup_ (kv:=kI) (q:=qI) (R:=(VAgg (aaD K))) (k:=19) (u:=(aaC.mk 0 false 0 0 false)) (uv:=.agg #[iI 0,vN,iI 0,iI 0,vN]) (i:=0) (.inl rfl) aG rfl abj (aat Tyk3) keI aB rfl rfl rfl ⟨[iI 0,vN,iI 0,iI 0,vN],rfl,.mk⟩ (fun b0 b1 b2 aH aI=>(bld (cells:=#[iI 0,vN,iI 1,iI 1,vT]) (vs:=[(0,iI 0),(1,vN),(2,iI 1),(3,iI 1),(4,vT)]) rfl (fun w=>by kernel_rfl) (mup_ (kv:=kI) (q:=qI) (R:=(VAgg (aaD K))) (k:=20) (u:=(aaC.mk 0 false 1 1 true)) (uv:=.agg #[iI 0,vN,iI 1,iI 1,vT]) (i:=0) (.inl rfl) aH rfl abj (aat Tyk3) keI aI rfl rfl rfl ⟨[iI 0,vN,iI 1,iI 1,vT],rfl,.mk⟩ (fun b3 b4 b5 aJ aK=>(bld (cells:=#[iI 0,vN,iI 1,iI 1,vT]) (vs:=[(0,iI 0),(1,vN),(2,iI 1),(3,iI 1),(4,vT)]) rfl (fun w=>by kernel_rfl) (mup_ (kv:=kI) (q:=qI) (R:=(VAgg (aaD K))) (k:=21) (u:=(aaC.mk 0 false 1 1 true)) (uv:=.agg #[iI 0,vN,iI 1,iI 1,vT]) (i:=0) (.inl rfl) aJ rfl abj (aat Tyk3) keI aK rfl rfl rfl ⟨[iI 0,vN,iI 1,iI 1,vT],rfl,.mk⟩ (fun aL aM aN aP aQ=>?_))))))));have aT:SR K K wi aN [] [.mp (zz wi) (zz wi) aL aM]:=aP;refine bld (cells:=#[iI 0,vN,iI 0,iI 1,vT]) (vs:=[(0,iI 0),(1,vN),(2,iI 0),(3,iI 1),(4,vT)]) rfl (fun w=>by kernel_rfl) (mup_ (kv:=kI) (q:=qI) (R:=(VAgg (aaD K))) (k:=22) (u:=(aaC.mk 0 false 0 1 true)) (uv:=.agg #[iI 0,vN,iI 0,iI 1,vT]) (i:=0) (.inl rfl) aT rfl abj (aat Tyk3) keI aQ rfl rfl rfl ⟨[iI 0,vN,iI 0,iI 1,vT],rfl,.mk⟩ (fun b6 b7 b8 aU aV=>(bld (cells:=#[iI 0,vN,iI 0,iI 0,vT]) (vs:=[(0,iI 0),(1,vN),(2,iI 0),(3,iI 0),(4,vT)]) rfl (fun w=>by kernel_rfl) (mup_ (kv:=kI) (q:=qI) (R:=(VAgg (aaD K))) (k:=23) (u:=(aaC.mk 0 false 0 0 true)) (uv:=.agg #[iI 0,vN,iI 0,iI 0,vT]) (i:=0) (.inl rfl) aU rfl abj (aat Tyk3) keI aV rfl rfl rfl ⟨[iI 0,vN,iI 0,iI 0,vT],rfl,.mk⟩ (fun b9 cb cc aW aX=>(bld (cells:=#[iI 2,vN,iI 0,iI 0,vT]) (vs:=[(0,iI 2),(1,vN),(2,iI 0),(3,iI 0),(4,vT)]) rfl (fun w=>by kernel_rfl) (mup_ (kv:=kI) (q:=qI) (R:=(VAgg (aaD K))) (k:=24) (u:=(aaC.mk 2 false 0 0 true)) (uv:=.agg #[iI 2,vN,iI 0,iI 0,vT]) (i:=0) (.inl rfl) aW rfl abj (aat Tyk3) keI aX rfl rfl rfl ⟨[iI 2,vN,iI 0,iI 0,vT],rfl,.mk⟩ (fun aY aZ a0 a1 a2=>?_))))))));have a3:SR K K wi a0 [] [.mp (zz wi) (zz wi) aY aZ]:=a1;refine bld (cells:=#[iI 1,vN,iI 1,iI 1,vT]) (vs:=[(0,iI 1),(1,vN),(2,iI 1),(3,iI 1),(4,vT)]) rfl (fun w=>by kernel_rfl) (mup_ (kv:=kI) (q:=qI) (R:=(VAgg (aaD K))) (k:=25) (u:=(aaC.mk 1 false 1 1 true)) (uv:=.agg #[iI 1,vN,iI 1,iI 1,vT]) (i:=0) (.inl rfl) a3 rfl abj (aat Tyk3) keI a2 rfl rfl rfl ⟨[iI 1,vN,iI 1,iI 1,vT],rfl,.mk⟩ (fun ce cf ch a4 a5=>(bld (cells:=#[iI 0,vN,iI 1,iI 1,vT]) (vs:=[(0,iI 0),(1,vN),(2,iI 1),(3,iI 1),(4,vT)]) rfl (fun w=>by kernel_rfl) (mup_ (kv:=kI) (q:=qI) (R:=(VAgg (aaD K))) (k:=26) (u:=(aaC.mk 0 false 1 1 true)) (uv:=.agg #[iI 0,vN,iI 1,iI 1,vT]) (i:=0) (.inl rfl) a4 rfl abj (aat Tyk3) keI a5 rfl rfl rfl ⟨[iI 0,vN,iI 1,iI 1,vT],rfl,.mk⟩ (fun ci cj ck a6 a7=>(bld (cells:=#[iI 0,vN,iI 0,iI 0,vN]) (vs:=[]) rfl (fun w=>by kernel_rfl) (mup_ (kv:=kI) (q:=qI) (R:=(VAgg (aaD K))) (k:=27) (u:=(aaC.mk 0 false 0 0 false)) (uv:=.agg #[iI 0,vN,iI 0,iI 0,vN]) (i:=0) (.inl rfl) a6 rfl abj (aat Tyk3) keI a7 rfl rfl rfl ⟨[iI 0,vN,iI 0,iI 0,vN],rfl,.mk⟩ (fun a8 a9 ba bb bd=>?_))))))));have be:SR K K wi ba [] [.mp (zz wi) (zz wi) a8 a9]:=bb;refine bld (cells:=#[iI 1,vT,iI 0,iI 601,vT]) (vs:=[(0,iI 1),(1,vT),(2,iI 0),(3,iI 601),(4,vT)]) rfl (fun w=>by kernel_rfl) (mup_ (kv:=kI) (q:=qI) (R:=(VAgg (aaD K))) (k:=28) (u:=(aaC.mk 1 true 0 601 true)) (uv:=.agg #[iI 1,vT,iI 0,iI 601,vT]) (i:=0) (.inl rfl) be rfl abj (aat Tyk3) keI bd rfl rfl rfl ⟨[iI 1,vT,iI 0,iI 601,vT],rfl,.mk⟩ (fun cl cm cn bf bg=>(bld (cells:=#[iI 0,vN,iI 1,iI 1,vN]) (vs:=[(0,iI 0),(1,vN),(2,iI 1),(3,iI 1),(4,vN)]) rfl (fun w=>by kernel_rfl) (mup_ (kv:=kI) (q:=qI) (R:=(VAgg (aaD K))) (k:=29) (u:=(aaC.mk 0 false 1 1 false)) (uv:=.agg #[iI 0,vN,iI 1,iI 1,vN]) (i:=0) (.inl rfl) bf rfl abj (aat Tyk3) keI bg rfl rfl rfl ⟨[iI 0,vN,iI 1,iI 1,vN],rfl,.mk⟩ (fun bh bi co bj bk=>(m1 (.map (some (zz wi))) (m2 (.map (some (zz wi))) (wt (wp_ret ?_)))))))));cases (oi h).trans hr_;exact aas rfl (resT rfl) ⟨K,(zz wi),bh,bi,rfl,bj,bk⟩
theorem anr (k:Nat):ahc (f148 k):=an9 k
theorem ap8 (k:Nat):aiD (aqj k):=by
 unfold aiD;intro K wi c e d l h hG g;obtain ⟨r_,hr_,h⟩:=rz h;refine enter Tryz.func69 rfl (n:=15) rfl ?_;unfold aqj at h;refine sr (m2 vN (wt (aax (fun a w=>∃ i f,a=fr 15 (updL i [(6,.bool f)])∧SR K K wi w [] []∧akn k f=some r_) ?_ ?_)))
 ·refine wp_region_lit (m1 (iI c) (m1 (iI e) (c0 (decide (c ≥ e)) (m1 (.bool (decide (c ≥ e))) (cd h (fun b h=>?_) (fun b h=>?_))))))
  ·exact n1 10 b (m1 (iI c) (n1 10 b (m1 (iI d) (n1 10 b (c0 (decide (c ≤ d)) (m3 true (.bool (decide (c ≤ d))) (cg b) (m2 (.bool (decide (c ≤ d))) (wt (⟨_,(decide (c ≤ d)),fR,g,h⟩)))))))))
  ·exact o1 10 b (o1 10 b (o1 10 b (m3 false vN (cg b) (m2 vN (wt (⟨_,false,fR,g,h⟩))))))
 ·rintro _ m ⟨i,f,rfl,j,h⟩;unfold akn at h;refine wp_ret ?_;cases (oi h).trans hr_;exact aas rfl (resT rfl) ⟨K,rfl,j⟩
theorem acx (k:Nat):aiD (f69 k):=ap8 k
theorem anC (k:Nat):ag5 (amm k):=by
 unfold ag5;intro K wi aK a7 a8 h hG aL aM;obtain ⟨r_,hr_,h⟩:=rz h;obtain ⟨f,g,S,U,V,b,W,X,j,d,Y⟩:=aK;obtain ⟨Z,ab,ac,ad,D,G,x,y,ae,af,rfl,a9,ba,bb,bd,be,bf,bg⟩:=aaj.open aL;refine enter Tryz.func149 rfl (n:=97) rfl ?_;unfold amm at h;refine sr (bxoC (cs:=(aS f g S U V b Z W ab ac X ad D j G x d y ae Y af)) aM rfl rfl (fun bh c=>(m2 vN (wt (sr (m2 vN (m2 vN (wt (sr (fd 5 aca rfl (l1 0 (iI b) c Tya3 (c0 (b == 0) (m2 (.bool (b == 0)) (wt (aax (fun a w=>∃ au z A v B,a=fr 97 (updL au [(1,pp (zz wi) 0),(3,.bool A),(4,.bool v),(5,.bool B)])∧KH.sub K z∧SR K z wi w [] [.box (zz wi) (zz wi) (aS f g S U V b Z W ab ac X ad D j G x d y ae Y af) 37]∧acL k j d A v B=some r_) ?_ ?_)))))))))))))))
 ·refine sr (fd 0 abv rfl (l1 0 (iI f) c Tya3 (wt (wp_block (sr (c0 (f == 6) (m2 (.bool (f == 6)) (wt (cd h (fun ag h=>?_) (fun ag h=>?_))))))))))
  ·refine cT ag (wp_region_lit (fd 5 aca rfl (l1 0 (iI b) c Tya3 ?_)));obtain ⟨aN,aP,h⟩:=ob h;refine cv ([iI b,iI 0,iI 1]) adN ((acx k) aP (hG.mono kr) (pt c)) ?_;rintro _ bi ⟨ah,rfl,I⟩;have C:=ca I c;refine m1 (.bool aN) (cd h (fun i h=>?_) (fun i h=>?_))
   ·refine n1 16 i (fd 5 aca rfl (n1 16 i (l1 0 (iI b) C Tya3 (n1 16 i (c0 (b == 0) (n1 16 i (m1 (.bool (b == 0)) (cd h (fun t h=>?_) (fun t h=>?_)))))))))
    ·exact o1 20 t (o1 20 t (o1 20 t (n1 16 i (m3 true vT (cg t) (m3 true vT (cg i) (m2 vT (wpList_nil (blkN (aae (⟨_,ah,false,false,true,fR,I.sub,C,h⟩))))))))))
    ·exact n1 20 t (fd 1 ac1 rfl (n1 20 t (l1 0 (.string g) C Tya9 (n1 20 t (bsc (r:=(!seq g ⟨#[]⟩)) rfl rfl rfl (n1 16 i (m3 false (.bool (!seq g ⟨#[]⟩)) (cg t) (m3 true (.bool (!seq g ⟨#[]⟩)) (cg i) (m2 (.bool (!seq g ⟨#[]⟩)) (wpList_nil (blkN (aae (⟨_,ah,false,false,(!seq g ⟨#[]⟩),fR,I.sub,C,h⟩)))))))))))))
   ·exact o1 16 i (o1 16 i (o1 16 i (o1 16 i (ou 20 (ou 20 (ou 20 (o1 16 i (m3 false vN (cg i) (m2 vN (wpList_nil (blkN (aae (⟨_,ah,false,false,false,fR,I.sub,C,h⟩)))))))))))))
  ·refine cF ag (sr (c0 (f == 7) (m2 (.bool (f == 7)) (wt (cd h (fun ai h=>?_) (fun ai h=>?_))))))
   ·refine cT ai (wp_region_lit (fd 5 aca rfl (l1 0 (iI b) c Tya3 ?_)));obtain ⟨av,aQ,h⟩:=ob h;refine cv ([iI b,iI 0,iI 2]) adN ((acx k) aQ (hG.mono kr) (pt c)) ?_;rintro _ bj ⟨aT,rfl,aw⟩;have aU:=ca aw c;exact m2 (.bool av) (wpList_nil (blkN (aae (⟨_,aT,false,false,av,fR,aw.sub,aU,h⟩))))
   ·refine cF ai (sr (c0 (f == 22) (m2 (.bool (f == 22)) (wt (cd h (fun aj h=>?_) (fun aj h=>?_))))))
    ·refine cT aj (wp_region_lit (fd 5 aca rfl (l1 0 (iI b) c Tya3 ?_)));obtain ⟨ax,aV,h⟩:=ob h;refine cv ([iI b,iI 0,iI 1]) adN ((acx k) aV (hG.mono kr) (pt c)) ?_;rintro _ bk ⟨aW,rfl,ay⟩;have aX:=ca ay c;exact m2 (.bool ax) (wpList_nil (blkN (aae (⟨_,aW,false,false,ax,fR,ay.sub,aX,h⟩))))
    ·refine cF aj (sr (c0 (f == 20) (m2 (.bool (f == 20)) (wt (cd h (fun ak h=>?_) (fun ak h=>?_))))))
     ·refine cT ak (sr (fd 5 aca rfl (l1 0 (iI b) c Tya3 ?_)));obtain ⟨az,aY,h⟩:=ob h;refine cv ([iI b,iI 0,iI 1]) adN ((acx k) aY (hG.mono kr) (pt c)) ?_;rintro _ bm ⟨aZ,rfl,aA⟩;have aB:=ca aA c;exact m2 (.bool az) (wt (wp_region_lit (fd 5 aca rfl (l1 0 (iI b) aB Tya3 (c0 (b == 1) (m2 (.bool (b == 1)) (wpList_nil (blkN (aae (⟨_,aZ,(b == 1),false,az,fR,aA.sub,aB,h⟩))))))))))
     ·refine cF ak (sr (c0 (f == 24) (m2 (.bool (f == 24)) (wt (cd h (fun al h=>?_) (fun al h=>?_))))))
      ·refine cT al (aax (fun a w=>∃ aG J N,a=fr 97 (updL aG [(1,pp (zz wi) 0),(5,.bool N)])∧KH.sub K J∧SR K J wi w [] [.box (zz wi) (zz wi) (aS f g S U V b Z W ab ac X ad D j G x d y ae Y af) 37]∧ahu k b j d N=some r_) ?_ ?_)
       ·refine wp_region_lit (fd 5 aca rfl (l1 0 (iI b) c Tya3 ?_));obtain ⟨a1,a2,h⟩:=ob h;refine cv ([iI b,iI 1,iI 3]) adN ((acx k) a2 (hG.mono kr) (pt c)) ?_;rintro _ bn ⟨aH,rfl,am⟩;have O:=ca am c;refine m1 (.bool a1) (cd h (fun e h=>?_) (fun e h=>?_))
        ·exact n1 49 e (fd 1 ac1 rfl (n1 49 e (l1 0 (.string g) O Tya9 (n1 49 e (bsc (r:=(!seq g ⟨#[]⟩)) rfl rfl rfl (n1 49 e (fd 5 aca rfl (n1 49 e (l1 0 (iI b) O Tya3 (n1 49 e (bbt (r:=(IntKind.i64.wrap (BitVec.ofInt IntKind.i64.bits b &&& BitVec.ofInt IntKind.i64.bits 1).toNat)) rfl rfl rfl (n1 49 e (c0 ((IntKind.i64.wrap (BitVec.ofInt IntKind.i64.bits b &&& BitVec.ofInt IntKind.i64.bits 1).toNat) == 1) (n1 49 e (bbo (r:=((!seq g ⟨#[]⟩) == ((IntKind.i64.wrap (BitVec.ofInt IntKind.i64.bits b &&& BitVec.ofInt IntKind.i64.bits 1).toNat) == 1))) Tyo4 rfl rfl rfl (m3 true (.bool ((!seq g ⟨#[]⟩) == ((IntKind.i64.wrap (BitVec.ofInt IntKind.i64.bits b &&& BitVec.ofInt IntKind.i64.bits 1).toNat) == 1))) (cg e) (m2 (.bool ((!seq g ⟨#[]⟩) == ((IntKind.i64.wrap (BitVec.ofInt IntKind.i64.bits b &&& BitVec.ofInt IntKind.i64.bits 1).toNat) == 1))) (wt (⟨_,aH,((!seq g ⟨#[]⟩) == ((IntKind.i64.wrap (BitVec.ofInt IntKind.i64.bits b &&& BitVec.ofInt IntKind.i64.bits 1).toNat) == 1)),fR,am.sub,O,h⟩)))))))))))))))))))
        ·exact o1 49 e (o1 49 e (o1 49 e (o1 49 e (o1 49 e (o1 49 e (o1 49 e (o1 49 e (m3 false vN (cg e) (m2 vN (wt (⟨_,aH,false,fR,am.sub,O,h⟩)))))))))))
       ·rintro _ bo ⟨aG,J,N,rfl,a3,an,h⟩;unfold ahu at h;exact sr (fd 5 aca rfl (l1 0 (iI b) an Tya3 (bbt (r:=(IntKind.i64.wrap (BitVec.ofInt IntKind.i64.bits b &&& BitVec.ofInt IntKind.i64.bits 1).toNat)) rfl rfl rfl (c0 ((IntKind.i64.wrap (BitVec.ofInt IntKind.i64.bits b &&& BitVec.ofInt IntKind.i64.bits 1).toNat) == 1) (m2 (.bool ((IntKind.i64.wrap (BitVec.ofInt IntKind.i64.bits b &&& BitVec.ofInt IntKind.i64.bits 1).toNat) == 1)) (wt (wp_region_lit (fd 5 aca rfl (l1 0 (iI b) an Tya3 (bbt (r:=(IntKind.i64.wrap (BitVec.ofInt IntKind.i64.bits b &&& BitVec.ofInt IntKind.i64.bits 2).toNat)) rfl rfl rfl (c0 ((IntKind.i64.wrap (BitVec.ofInt IntKind.i64.bits b &&& BitVec.ofInt IntKind.i64.bits 2).toNat) == 2) (m2 (.bool ((IntKind.i64.wrap (BitVec.ofInt IntKind.i64.bits b &&& BitVec.ofInt IntKind.i64.bits 2).toNat) == 2)) (wpList_nil (blkN (aae (⟨_,J,((IntKind.i64.wrap (BitVec.ofInt IntKind.i64.bits b &&& BitVec.ofInt IntKind.i64.bits 1).toNat) == 1),((IntKind.i64.wrap (BitVec.ofInt IntKind.i64.bits b &&& BitVec.ofInt IntKind.i64.bits 2).toNat) == 2),N,fR,a3,an,h⟩))))))))))))))))
      ·refine cF al (sr (c0 (f == 28) (m2 (.bool (f == 28)) (wt (cd h (fun ao h=>?_) (fun ao h=>?_))))))
       ·refine cT ao (wp_region_lit (fd 5 aca rfl (l1 0 (iI b) c Tya3 ?_)));obtain ⟨a4,a5,h⟩:=ob h;refine cv ([iI b,iI 0,iI 66]) adN ((acx k) a5 (hG.mono kr) (pt c)) ?_;rintro _ bp ⟨aI,rfl,ap⟩;have aq:=ca ap c;refine m1 (.bool a4) (cd h (fun l h=>?_) (fun l h=>?_))
        ·exact n1 72 l (fd 5 aca rfl (n1 72 l (l1 0 (iI b) aq Tya3 (n1 72 l (bdv (r:=(b.tmod 4)) rfl rfl (by decide) rfl (n1 72 l (c0 (decide ((b.tmod 4) < 3)) (m3 true (.bool (decide ((b.tmod 4) < 3))) (cg l) (m2 (.bool (decide ((b.tmod 4) < 3))) (wpList_nil (blkN (aae (⟨_,aI,false,false,(decide ((b.tmod 4) < 3)),fR,ap.sub,aq,h⟩)))))))))))))
        ·exact o1 72 l (o1 72 l (o1 72 l (o1 72 l (m3 false vN (cg l) (m2 vN (wpList_nil (blkN (aae (⟨_,aI,false,false,false,fR,ap.sub,aq,h⟩)))))))))
       ·exact cF ao (wp_skip (blkN (aae (⟨_,K,false,false,(b == 0),fR,kr,c,h⟩))))
 ·rintro _ bq ⟨au,z,A,v,B,rfl,br,u,h⟩;unfold acL at h;refine aax (fun a w=>∃ aJ ar,a=fr 97 (updL aJ [(2,.bool ar)])∧SR K z wi w [] []∧ad7 k ar=some r_) ?_ ?_
  ·refine wp_region_lit (m1 (.bool B) (m1 (.bool B) (cd h (fun m h=>?_) (fun m h=>?_))))
   ·refine n1 79 m (m1 (.bool A) (n1 79 m (m1 (.bool A) (cd h (fun o h=>?_) (fun o h=>?_)))))
    ·refine o1 81 o (o1 81 o (o1 81 o (o1 81 o (n1 79 m (m3 true vT (cg o) (m3 true vT (cg m) (m1 vT (n0 88 (m1 (.bool v) (n0 88 (m1 (.bool v) (cd h (fun p h=>?_) (fun p h=>?_)))))))))))))
     ·exact o1 90 p (o1 90 p (o1 90 p (o1 90 p (n0 88 (m3 true vT (cg p) (m3 true vT rfl (m2 vT (wt (⟨_,true,fR,(u.sel []),h⟩)))))))))
     ·exact n1 90 p (fd 9 acJ rfl (n1 90 p (l1 0 (sl x d y) u abk (n1 90 p (lS d.length abA (n1 90 p (c0 ((d.length:Int) == 0) (n0 88 (m3 false (.bool ((d.length:Int) == 0)) (cg p) (m3 true (.bool ((d.length:Int) == 0)) rfl (m2 (.bool ((d.length:Int) == 0)) (wt (⟨_,((d.length:Int) == 0),fR,(u.sel []),h⟩)))))))))))))
    ·refine n1 81 o (fd 8 acq rfl (n1 81 o (l1 0 (sl D j G) u abk (n1 81 o (lS j.length abA (n1 81 o (c0 ((j.length:Int) == 0) (n1 79 m (m3 false (.bool ((j.length:Int) == 0)) (cg o) (m3 true (.bool ((j.length:Int) == 0)) (cg m) (m1 (.bool ((j.length:Int) == 0)) (cd h (fun q h=>?_) (fun q h=>?_)))))))))))))
     ·refine n1 88 q (m1 (.bool v) (n1 88 q (m1 (.bool v) (cd h (fun s h=>?_) (fun s h=>?_)))))
      ·exact o1 90 s (o1 90 s (o1 90 s (o1 90 s (n1 88 q (m3 true vT (cg s) (m3 true vT (cg q) (m2 vT (wt (⟨_,true,fR,(u.sel []),h⟩)))))))))
      ·exact n1 90 s (fd 9 acJ rfl (n1 90 s (l1 0 (sl x d y) u abk (n1 90 s (lS d.length abA (n1 90 s (c0 ((d.length:Int) == 0) (n1 88 q (m3 false (.bool ((d.length:Int) == 0)) (cg s) (m3 true (.bool ((d.length:Int) == 0)) (cg q) (m2 (.bool ((d.length:Int) == 0)) (wt (⟨_,((d.length:Int) == 0),fR,(u.sel []),h⟩)))))))))))))
     ·exact o1 88 q (o1 88 q (ou 90 (ou 90 (ou 90 (ou 90 (o1 88 q (m3 false vN (cg q) (m2 vN (wt (⟨_,false,fR,(u.sel []),h⟩))))))))))
   ·exact o1 79 m (o1 79 m (ou 81 (ou 81 (ou 81 (ou 81 (o1 79 m (m3 false vN (cg m) (m1 vN (o0 88 (o0 88 (ou 90 (ou 90 (ou 90 (ou 90 (o0 88 (m3 false vN rfl (m2 vN (wt (⟨_,false,fR,(u.sel []),h⟩)))))))))))))))))))
  ·rintro _ bs ⟨aJ,ar,rfl,a6,h⟩;unfold ad7 at h;refine wp_ret ?_;cases (oi h).trans hr_;exact aas rfl (resT rfl) ⟨z,rfl,a6⟩
theorem alO (k:Nat):ag5 (f149 k):=anC k
theorem apO (k:Nat):ajI (apf k):=by
 unfold ajI;intro K wi g bs c e i d x y z A h hG j;obtain ⟨r_,hr_,h⟩:=rz h;refine enter Tryz.func68 rfl (n:=30) rfl ?_;unfold apf at h;refine sr (m2 vN (wt (sr (m1 (pp g 0) (nilc rfl (fd 0 al3 rfl (l1 0 (iI c) j Tya3 (bar (r:=(w64 (c + 1))) rfl rfl rfl (nilc rfl (fd 0 al3 rfl (sI 0 (iI (w64 (c + 1))) #[iI (w64 (c + 1)),iI e,.bool i] j Tys3 rfl rfl (fun B j=>(wt (sr (m1 (pp g 0) (m1 (pp g 0) (nilc rfl (fd 1 aoa rfl (l1 0 (iI e) j Tya3 (m1 (iI d) (mxb (a:=e) (b:=d) rfl rfl (nilc rfl (fd 1 aoa rfl (sI 0 (iI (imax e d)) #[iI (w64 (c + 1)),iI (imax e d),.bool i] j Tys3 rfl rfl (fun C l=>(wt (aax (fun a w=>∃ o m,a=fr 30 (updL o [(4,.bool m)])∧SR K K wi w [.box bs g #[iI c,iI e,.bool i] 95] [.box bs g #[iI (w64 (c + 1)),iI (imax e d),.bool i] 95]∧akL k c e i d m=some r_) ?_ ?_)))))))))))))))))))))))))))
 ·refine wp_region_lit (m1 (pp g 0) (nilc rfl (fd 0 al3 rfl (l1 0 (iI (w64 (c + 1))) l Tya3 (c0 (decide ((w64 (c + 1)) ≤ 600)) (m1 (.bool (decide ((w64 (c + 1)) ≤ 600))) (cd h (fun f h=>?_) (fun f h=>?_))))))))
  ·exact n1 26 f (m1 (iI d) (n1 26 f (c0 (decide (d ≤ 16)) (m3 true (.bool (decide (d ≤ 16))) (cg f) (m2 (.bool (decide (d ≤ 16))) (wt (⟨_,(decide (d ≤ 16)),fR,l,h⟩)))))))
  ·exact o1 26 f (o1 26 f (m3 false vN (cg f) (m2 vN (wt (⟨_,false,fR,l,h⟩)))))
 ·rintro _ D ⟨o,m,rfl,p,h⟩;unfold akL at h;refine wp_ret ?_;have e_:=(Option.some.inj h).trans hr_;obtain ⟨q,s⟩:=Prod.mk.inj e_;obtain ⟨t,u,v⟩:=aac.mk.inj q;subst t;subst u;subst v;subst s;exact aas rfl (resT rfl) ⟨K,rfl,p⟩
theorem amE (k:Nat):ajI (f68 k):=apO k
theorem aoz (k:Nat):ahe (ams k):=by
 unfold ahe;intro K wi b i h hG e;obtain ⟨r_,hr_,h⟩:=rz h;refine enter Tryz.func115 rfl (n:=9) rfl ?_;unfold ams at h;refine sr (m2 vN (wt (aax (fun a w=>∃ f d,a=fr 9 (updL f [(2,.bool d)])∧SR K K wi w [] []∧ahU k d=some r_) ?_ ?_)))
 ·refine wp_region_lit (m1 (.int .u8 b) (c0 (decide (b ≥ 97)) (m1 (.bool (decide (b ≥ 97))) (cd h (fun c h=>?_) (fun c h=>?_)))))
  ·exact n1 5 c (m1 (.int .u8 b) (n1 5 c (c0 (decide (b ≤ 122)) (m3 true (.bool (decide (b ≤ 122))) (cg c) (m2 (.bool (decide (b ≤ 122))) (wt (⟨_,(decide (b ≤ 122)),fR,e,h⟩)))))))
  ·exact o1 5 c (o1 5 c (m3 false vN (cg c) (m2 vN (wt (⟨_,false,fR,e,h⟩)))))
 ·rintro _ j ⟨f,d,rfl,g,h⟩;unfold ahU at h;refine wp_ret ?_;cases (oi h).trans hr_;exact aas rfl (resT rfl) ⟨K,rfl,g⟩
theorem asr (k:Nat):ahe (f115 k):=aoz k
theorem aoJ (k:Nat):ahP (al5 k):=by
 unfold ahP;intro K wi b i h hG e;obtain ⟨r_,hr_,h⟩:=rz h;refine enter Tryz.func116 rfl (n:=9) rfl ?_;unfold al5 at h;refine sr (m2 vN (wt (aax (fun a w=>∃ f d,a=fr 9 (updL f [(2,.bool d)])∧SR K K wi w [] []∧ahM k d=some r_) ?_ ?_)))
 ·refine wp_region_lit (m1 (.int .u8 b) (c0 (decide (b ≥ 48)) (m1 (.bool (decide (b ≥ 48))) (cd h (fun c h=>?_) (fun c h=>?_)))))
  ·exact n1 5 c (m1 (.int .u8 b) (n1 5 c (c0 (decide (b ≤ 57)) (m3 true (.bool (decide (b ≤ 57))) (cg c) (m2 (.bool (decide (b ≤ 57))) (wt (⟨_,(decide (b ≤ 57)),fR,e,h⟩)))))))
  ·exact o1 5 c (o1 5 c (m3 false vN (cg c) (m2 vN (wt (⟨_,false,fR,e,h⟩)))))
 ·rintro _ j ⟨f,d,rfl,g,h⟩;unfold ahM at h;refine wp_ret ?_;cases (oi h).trans hr_;exact aas rfl (resT rfl) ⟨K,rfl,g⟩
theorem asD (k:Nat):ahP (f116 k):=aoJ k
theorem aqx (k:Nat):aj7 (aqK k):=by
 unfold aj7;intro K wi b S h hG C D;obtain ⟨r_,hr_,h⟩:=rz h;refine enter Tryz.func96 rfl (n:=28) rfl ?_;unfold aqK at h;refine sr (m2 vN (wt (wp_seq (sr (m1 (.string b) (lnT (a:=b) Tyt9 rfl (m1 (iI 0) (wt (wp_block (aaA (fun g_ a w=>∃ u i f,∃ (c:Nat),g_=f.length∧a=fr 28 (updL u [(0,.string b),(5,iI (b.size:Int)),(6,iI (c:Int))])∧KH.sub K i∧SR K i wi w [] []∧b.data.toList.drop c=f∧aeH k b f c=some r_) b.data.toList.length ?_ ?_))))))))))
 ·exact ⟨_,K,b.data.toList,0,rfl,fR,kr,D,List.drop_zero,h⟩
 ·rintro _ _ U ⟨u,i,f,c,rfl,rfl,p,q,g,h⟩;rcases f with _ | ⟨v,f⟩
  ·unfold aeH at h;refine sr (bcm (r:=false) rfl rfl (congrArg some (ahi g)) (wt (wp_seq (cndF rfl (wp_exit (aaF (aaF (blkX (aae (sr (m1 (.string b) (bsc (r:=(!seq b ⟨#[]⟩)) rfl rfl rfl (m2 (.bool (!seq b ⟨#[]⟩)) (wt (wp_ret ?_)))))))))))))));cases (oi h).trans hr_;exact aas rfl (resT rfl) ⟨i,rfl,q⟩
  ·unfold aeH at h;refine sr (bcm (r:=true) rfl rfl (congrArg some (agz g)) (wt (wp_seq (cndT rfl (wp_skip (aae (wp_seq (wp_block (sr (m1 (iI (c:Int)) (m2 (iI (c:Int)) (wt (aax (fun a w=>∃ x j s,a=fr 28 (updL x [(0,.string b),(5,iI (b.size:Int)),(6,iI (c:Int)),(24,.bool s)])∧KH.sub i j∧SR K j wi w [] []∧ah9 k c s (aeH k b f)=some r_) ?_ ?_)))))))))))))
   ·refine wp_region_lit (m1 (.string b) (m1 (iI (c:Int)) (ixN Tyt9 rfl rfl g ?_)));obtain ⟨y,G,h⟩:=ob h;refine cv ([.int .u8 (v.toNat:Int)]) auJ ((asr k) G (hG.mono p) (pt q)) ?_;rintro _ V ⟨z,rfl,l⟩;have m:=ca l q;refine uN y (m1 (.bool (!y)) (cd h (fun d h=>?_) (fun d h=>?_)))
    ·refine n1 14 d (m1 (iI (c:Int)) (n1 14 d (c0 ((c:Int) == 0) (n1 14 d (m1 (.bool ((c:Int) == 0)) (cd h (fun e h=>?_) (fun e h=>?_)))))))
     ·exact o1 17 e (o1 17 e (o1 17 e (o1 17 e (o1 17 e (n1 14 d (m3 true vT (cg e) (m3 true vT (cg d) (wt (⟨_,z,true,fR,l.sub,m,h⟩)))))))))
     ·refine n1 17 e (m1 (.string b) (n1 17 e (m1 (iI (c:Int)) (n1 17 e (ixN Tyt9 rfl rfl g (n1 17 e ?_))))));obtain ⟨o,I,h⟩:=ob h;refine cv ([.int .u8 (v.toNat:Int)]) atu ((asD k) I (hG.mono m.sub) (pt m)) ?_;rintro _ W ⟨J,rfl,A⟩;have N:=ca A m;exact n1 17 e (uN o (n1 14 d (m3 false (.bool (!o)) (cg e) (m3 true (.bool (!o)) (cg d) (wt (⟨_,J,(!o),fR,(l.sub.trans A.sub),N,h⟩))))))
    ·exact o1 14 d (o1 14 d (o1 14 d (ou 17 (ou 17 (ou 17 (ou 17 (ou 17 (o1 14 d (m3 false vN (cg d) (wt (⟨_,z,false,fR,l.sub,m,h⟩)))))))))))
   ·rintro _ X ⟨x,j,s,rfl,O,B,h⟩;unfold ah9 at h;refine cd h (fun t h=>?_) (fun t h=>?_)
    ·refine cT t (sr (m2 vN (wt (wp_ret (blkR (aaw (aaw (blkR (aaw ?_)))))))));cases (oi h).trans hr_;exact aas rfl (resT rfl) ⟨j,rfl,B⟩
    ·exact cF t (wp_skip (blkN (aae (wp_region_lit (bar (r:=((c + 1:Nat):Int)) rfl rfl (aaY (aoQ C g)) (m1 (iI ((c + 1:Nat):Int)) (wt (⟨_,Nat.lt_succ_self _,_,j,f,c + 1,rfl,fR,(p.trans O),B,aai g,h⟩))))))))
theorem auc (k:Nat):aj7 (f96 k):=aqx k
theorem aom (k:Nat):ag6 (amL k):=by
 unfold ag6;intro K wi d l m g C h hG q D u;obtain ⟨r_,hr_,h⟩:=rz h;refine enter Tryz.func134 rfl (n:=19) rfl ?_;unfold amL at h;refine sr (m2 (iI 0) (wt (wp_seq (sr (m1 (sl l d m) (lS d.length aiq (m1 (iI 0) (wt (wp_block (aaA (fun g_ a w=>∃ s e,∃ (c:Nat),g_=e.length∧a=fr 19 (updL s [(0,sl l d m),(1,.string g),(7,iI (d.length:Int)),(8,iI (c:Int))])∧SR K K wi w [] []∧d.drop c=e∧afe k g e c=some r_) d.length ?_ ?_))))))))))
 ·exact ⟨_,d,0,rfl,fR,u,List.drop_zero,h⟩
 ·rintro _ _ G ⟨s,e,c,rfl,rfl,j,f,h⟩;rcases e with _ | ⟨t,e⟩
  ·unfold afe at h;refine sr (bcm (r:=false) rfl rfl (congrArg some (aaq f)) (wt (wp_seq (cndF rfl (wp_exit (aaF (aaF (blkX (aae (sr (m2 (iI (-1)) (wt (wp_ret ?_)))))))))))));cases (oi h).trans hr_;exact aas rfl (resT rfl) ⟨K,rfl,j⟩
  ·unfold afe at h;refine sr (bcm (r:=true) rfl rfl (congrArg some (aar f)) (wt (wp_seq (cndT rfl (wp_skip (aae (wp_seq (wp_block (sr (m1 (iI (c:Int)) (m2 (iI (c:Int)) (wt (sr (m1 (.string g) (m1 (sl l d m) (m1 (iI (c:Int)) ?_))))))))))))))));obtain ⟨x,y,I,z,J,A,B⟩:=(q).row.at_ (aan f);obtain ⟨rfl,N⟩:=B;refine idxN (b:=x) (o:=y) (i:=c) aiq Tys9 rfl z rfl (aad f) (ld1 (v:=.string t) Tya9 rfl (j.cell (kr.cell (A 0 _ rfl))) (bsc (r:=(seq g t)) rfl rfl rfl (wt (cd h (fun p h=>?_) (fun p h=>?_)))))
   ·refine cT p (sr (m1 (iI (c:Int)) (m2 (iI (c:Int)) (wt (wp_ret (blkR (aaw (aaw (blkR (aaw ?_))))))))));cases (oi h).trans hr_;exact aas rfl (resT rfl) ⟨K,rfl,j⟩
   ·exact cF p (wp_skip (blkN (aae (wp_region_lit (bar (r:=((c + 1:Nat):Int)) rfl rfl (aaY (aa1 ((q).len) (by decide) (aad f))) (m1 (iI ((c + 1:Nat):Int)) (wt (⟨_,Nat.lt_succ_self _,_,e,c + 1,rfl,fR,j,aai f,h⟩))))))))
theorem asV (k:Nat):ag6 (f134 k):=aom k
theorem ano (k:Nat):ag7 (aml k):=by
 unfold ag7;intro K wi b c d e a h hG g i f;obtain ⟨r_,hr_,h⟩:=rz h;refine enter Tryz.func117 rfl (n:=9) rfl ?_;unfold aml at h;refine sr (m2 vN (wt (sr (m1 (sl c b d) (m1 (.string e) ?_)))));obtain ⟨a,j,h⟩:=ob h;refine cv ([sl c b d,.string e]) at0 ((asV k) j (hG.mono kr) g i (pt f)) ?_;rintro _ p ⟨l,rfl,m⟩;have o:=ca m f;refine c0 (decide (a ≥ 0)) (m2 (.bool (decide (a ≥ 0))) (wt (wp_ret ?_)));cases (oi h).trans hr_;exact aas rfl (resT rfl) ⟨l,rfl,o⟩
theorem arX (k:Nat):ag7 (f117 k):=ano k
set_option maxRecDepth 100000 in
theorem ags:(Lib.fields ahE.data.toList).map (fun l=>(⟨l.toArray⟩:ByteArray))=adl:=by kernel_rfl
theorem alu : ∀ x ∈ adl,x.size≤mB:=by
 have h:adl.all (fun x=>decide (x.size≤mB))=true:=by kernel_rfl
 intro x hx;simpa using List.all_eq_true.1 h x hx
set_option maxRecDepth 100000 in
theorem ata (k:Nat):akv (f118 k):=by
 unfold akv;intro K wi r0 h hG S0;unfold f118 at h;obtain rfl:=Option.some.inj h;refine enter Tryz.func118 rfl (n:=2) rfl ?_;refine wp_seq ?_;refine wp_region_lit ?_;refine asg (v:=.slice none 0 0) rfl ?_;refine wpList_nil ?_;refine aae ?_;refine wp_seq ?_;refine wp_region_lit ?_;have hlen:(Lib.fields ahE.data.toList).length=adl.length:=by rw [← ags,List.length_map]
 have hmap:(Lib.fields ahE.data.toList).map (fun l=>Value.string ⟨l.toArray⟩)=adl.map Value.string:=by rw [← ags,List.map_map]; rfl
 obtain ⟨K1,S1,hs1,hr1⟩:=S0.texts (xs:=adl) 9 alu (by decide);refine clV (caps:=#[]) (vs:=[.string ahE]) (R:=fun v w'=>v=.slice (some ⟨(zz wi),0,none⟩) adl.length adl.length∧w'=wi.alloc (.cells (adl.map Value.string).toArray 9)) rfl (by kernel_rfl) rfl
  ((Any.strings_Fields_core Tryz.lays157 (by kernel_rfl) ahE wi (by decide) al0 (fun c hc=>S0.cell (hG.1 c hc))).mono (fun e w' h=>⟨_,h.1,by rw [hlen],by rw [h.2,hmap]; rfl⟩)) ?_
 rintro _ _ ⟨rfl,rfl⟩;refine asg (v:=.slice (some ⟨(zz wi),0,none⟩) adl.length adl.length) rfl ?_;refine wpList_nil ?_;refine aae ?_;refine wp_ret ?_;exact aas rfl (resT rfl) ⟨K1,_,_,rfl,S1,hr1⟩
theorem aqw (k:Nat):ajT (apn k):=by
 unfold ajT;intro K wi a b h hG f c;obtain ⟨r_,hr_,h⟩:=rz h;refine enter Tryz.func97 rfl (n:=6) rfl ?_;unfold apn at h;refine sr (m2 vN (wt (sr ?_)));obtain ⟨b,g,h⟩:=ob h;refine cv ([]) atl ((ata k) g (hG.mono kr) (pt c)) ?_;rintro _ s ⟨t,i,j,rfl,d,l⟩;have e:=ca d c;refine m1 (.string a) ?_;obtain ⟨m,o,h⟩:=ob h;refine cv ([sl i b j,.string a]) atr ((arX k) o (hG.mono d.sub) l f (pt e)) ?_;rintro _ u ⟨p,rfl,q⟩;have r:=ca q e;refine m2 (.bool m) (wt (wp_ret ?_));cases (oi h).trans hr_;exact aas rfl (resT rfl) ⟨p,rfl,r⟩
theorem auE (k:Nat):ajT (f97 k):=aqw k
theorem aqv (k:Nat):ajF (apa k):=by
 unfold ajF;intro K wi b y h hG l m;obtain ⟨r_,hr_,h⟩:=rz h;refine enter Tryz.func71 rfl (n:=15) rfl ?_;unfold apa at h;refine sr (m2 vN (wt (aax (fun a w=>∃ o f j,a=fr 15 (updL o [(2,.bool j)])∧KH.sub K f∧SR K f wi w [] []∧ait k j=some r_) ?_ ?_)))
 ·refine wp_region_lit (m1 (.string b) ?_);obtain ⟨r,s,h⟩:=ob h;refine cv ([.string b]) avX ((auc k) s (hG.mono kr) l (pt m)) ?_;rintro _ z ⟨p,rfl,e⟩;have g:=ca e m;refine m1 (.bool r) (cd h (fun c h=>?_) (fun c h=>?_))
  ·refine n1 5 c (m1 (.string b) (n1 5 c (lnT (a:=b) Tyt9 rfl (n1 5 c (c0 (decide ((b.size:Int) ≤ 12)) (m3 true (.bool (decide ((b.size:Int) ≤ 12))) (cg c) (m1 (.bool (decide ((b.size:Int) ≤ 12))) (cd h (fun d h=>?_) (fun d h=>?_)))))))))
   ·refine n1 10 d (m1 (.string b) (n1 10 d ?_));obtain ⟨i,t,h⟩:=ob h;refine cv ([.string b]) avU ((auE k) t (hG.mono e.sub) l (pt g)) ?_;rintro _ A ⟨u,rfl,q⟩;have v:=ca q g;exact n1 10 d (uN i (m3 true (.bool (!i)) (cg d) (m2 (.bool (!i)) (wt (⟨_,u,(!i),fR,(e.sub.trans q.sub),v,h⟩)))))
   ·exact o1 10 d (o1 10 d (o1 10 d (m3 false vN (cg d) (m2 vN (wt (⟨_,p,false,fR,e.sub,g,h⟩))))))
  ·exact o1 5 c (o1 5 c (o1 5 c (m3 false vN (cg c) (m1 vN (o0 10 (o0 10 (o0 10 (m3 false vN rfl (m2 vN (wt (⟨_,p,false,fR,e.sub,g,h⟩)))))))))))
 ·rintro _ B ⟨o,f,j,rfl,C,x,h⟩;unfold ait at h;refine wp_ret ?_;cases (oi h).trans hr_;exact aas rfl (resT rfl) ⟨f,rfl,x⟩
theorem ae8 (k:Nat):ajF (f71 k):=aqv k
theorem apG (k:Nat):agP (as8 k):=by
 unfold agP;intro K wi b t h hG q s;obtain ⟨r_,hr_,h⟩:=rz h;refine enter Tryz.func66 rfl (n:=23) rfl ?_;unfold as8 at h;refine sr (m2 vN (wt (wp_seq (sr (m1 (.string b) (lnT (a:=b) Tyt9 rfl (m1 (iI 0) (wt (wp_block (aaA (fun g_ a w=>∃ m e,∃ (c:Nat),g_=e.length∧a=fr 23 (updL m [(0,.string b),(5,iI (b.size:Int)),(6,iI (c:Int))])∧SR K K wi w [] []∧b.data.toList.drop c=e∧adS k b e c=some r_) b.data.toList.length ?_ ?_))))))))))
 ·exact ⟨_,b.data.toList,0,rfl,fR,s,List.drop_zero,h⟩
 ·rintro _ _ u ⟨m,e,c,rfl,rfl,i,f,h⟩;rcases e with _ | ⟨g,e⟩
  ·unfold adS at h;refine sr (bcm (r:=false) rfl rfl (congrArg some (ahi f)) (wt (wp_seq (cndF rfl (wp_exit (aaF (aaF (blkX (aae (sr (m1 (.string b) (lnT (a:=b) Tyt9 rfl (c0 (decide ((b.size:Int) ≤ 60)) (m2 (.bool (decide ((b.size:Int) ≤ 60))) (wt (wp_ret ?_))))))))))))))));cases (oi h).trans hr_;exact aas rfl (resT rfl) ⟨K,rfl,i⟩
  ·unfold adS at h;refine sr (bcm (r:=true) rfl rfl (congrArg some (agz f)) (wt (wp_seq (cndT rfl (wp_skip (aae (wp_seq (wp_block (sr (m1 (iI (c:Int)) (m2 (iI (c:Int)) (wt (aax (fun a w=>∃ o j,a=fr 23 (updL o [(0,.string b),(5,iI (b.size:Int)),(6,iI (c:Int)),(18,.bool j)])∧SR K K wi w [] []∧ahz k c j (adS k b e)=some r_) ?_ ?_)))))))))))))
   ·refine wp_region_lit (m1 (.string b) (m1 (iI (c:Int)) (ixN Tyt9 rfl rfl f (c0 (decide ((g.toNat:Int) < 32)) (m1 (.bool (decide ((g.toNat:Int) < 32))) (cd h (fun d h=>?_) (fun d h=>?_)))))))
    ·exact o1 13 d (o1 13 d (o1 13 d (o1 13 d (m3 true vT (cg d) (wt (⟨_,true,fR,i,h⟩))))))
    ·exact n1 13 d (m1 (.string b) (n1 13 d (m1 (iI (c:Int)) (n1 13 d (ixN Tyt9 rfl rfl f (n1 13 d (c0 (decide ((g.toNat:Int) > 126)) (m3 false (.bool (decide ((g.toNat:Int) > 126))) (cg d) (wt (⟨_,(decide ((g.toNat:Int) > 126)),fR,i,h⟩))))))))))
   ·rintro _ v ⟨o,j,rfl,p,h⟩;unfold ahz at h;refine cd h (fun l h=>?_) (fun l h=>?_)
    ·refine cT l (sr (m2 vN (wt (wp_ret (blkR (aaw (aaw (blkR (aaw ?_)))))))));cases (oi h).trans hr_;exact aas rfl (resT rfl) ⟨K,rfl,p⟩
    ·exact cF l (wp_skip (blkN (aae (wp_region_lit (bar (r:=((c + 1:Nat):Int)) rfl rfl (aaY (aoQ q f)) (m1 (iI ((c + 1:Nat):Int)) (wt (⟨_,Nat.lt_succ_self _,_,e,c + 1,rfl,fR,p,aai f,h⟩))))))))
theorem ark (k:Nat):agP (f66 k):=apG k
theorem agp (k:Nat) (a:ByteArray) : ∀ (l:List UInt8) (i:Nat),adS k a l i=some true→a.size≤60
 | [],i,h=>by
  unfold adS at h;have:=of_decide_eq_true (Option.some.inj h);omega
 | e :: l,i,h=>by
  unfold adS at h;rcases Bool.eq_false_or_eq_true (decide ((e.toNat:Int) < 32)) with h1 | h1
  ·rw [h1] at h;simp [ahz] at h
  ·rw [h1] at h;simp only [cond_false,ahz] at h;rcases Bool.eq_false_or_eq_true (decide ((e.toNat:Int) > 126)) with h2 | h2
   ·rw [h2] at h;simp at h
   ·rw [h2] at h;exact agp k a l _ h
theorem amG (k:Nat) (h162:agP (f66 k)) {K:KH} {wi:World} {a:ByteArray} {r:Bool} (h:f66 k a=some r) (hG:GK K) (ha:a.size≤mB) (S0:Sx K K wi wi (fun b=>b ∈ Ents.blks []) []) :
  Calls Tryz.prog 45 #[.string a] wi (Ret fun v w'=>∃ (K' : KH) (s:ByteArray),v=.tuple #[.string s,.int .i64 (cond r 0 2)]∧Sx K K' wi w' (fun b=>b ∈ Ents.blks []) []):=by
 refine enter Tryz.func45 rfl (n:=12) rfl ?_;refine wp_seq ?_;refine wp_region_lit ?_;refine asg (v:=.string ⟨#[]⟩) rfl ?_;refine asg (v:=.int .i64 0) rfl ?_;refine wpList_nil ?_;refine aae ?_;refine wp_seq ?_;refine wp_seq ?_;refine wp_region_lit ?_;refine mv (v:=.string a) rfl ?_;refine clV (caps:=#[]) (vs:=[.string a]) rfl (by kernel_rfl) rfl (h162 h hG ha S0) ?_;rintro _ w1 ⟨K1,rfl,T1⟩;refine unot (a:=r) rfl ?_;refine wpList_nil ?_;refine aae ?_;rcases r with _ | _
 ·refine cndT rfl ?_;refine wp_seq ?_;refine wp_region_lit ?_;refine asg (v:=.string ⟨#[]⟩) rfl ?_;refine asg (v:=.int .i64 2) rfl ?_;refine wpList_nil ?_;refine aae ?_;refine wp_ret ?_;refine aaw ?_;exact af8 rfl (resT rfl) (resT rfl) ⟨K1,_,rfl,T1⟩
 ·have hsh:a.size≤60:=agp k a _ _ h;refine cndF rfl ?_;refine wp_skip ?_;refine aae ?_;refine wp_seq ?_;refine wp_region_lit ?_;refine mv (v:=.string a) rfl ?_;have hG1:=hG.mono T1.sub;refine clV (caps:=#[]) (vs:=[.string a,.string ⟨#[92]⟩,.string ⟨#[92,92]⟩]) rfl (by kernel_rfl) rfl (aox T1 hG1 a ⟨#[92]⟩ ⟨#[92,92]⟩ (by omega) (by decide) (by decide)) ?_;rintro _ w2 ⟨s2,rfl,hs2,T2⟩;refine clV (caps:=#[]) (vs:=[.string s2,.string ⟨#[34]⟩,.string ⟨#[92,34]⟩]) rfl (by kernel_rfl) rfl (aox T2 hG1 s2 ⟨#[34]⟩ ⟨#[92,34]⟩ (by omega) (by decide) (by decide)) ?_;rintro _ w3 ⟨s3,rfl,hs3,T3⟩;refine bsa (a:=⟨#[34]⟩) (b:=s3) rfl rfl (by have:(⟨#[34]⟩:ByteArray).size=1:=rfl; omega) ?_;refine bsa (a:=⟨#[34]⟩ ++ s3) (b:=⟨#[34]⟩) rfl rfl (by have:(⟨#[34]⟩:ByteArray).size=1:=rfl; rw [ByteArray.size_append]; omega) ?_;refine asg (v:=.string (⟨#[34]⟩ ++ s3 ++ ⟨#[34]⟩)) rfl ?_;refine asg (v:=.int .i64 0) rfl ?_;refine wpList_nil ?_;refine aae ?_;refine wp_ret ?_;exact af8 rfl (resT rfl) (resT rfl) ⟨K1,_,rfl,T3⟩
theorem atZ (k:Nat):amQ (f70 k):=by
 unfold amQ;intro K wi a0 r0 h hG ha0 S0;unfold f70 at h;refine enter Tryz.func70 rfl (n:=12) rfl ?_;refine wp_seq ?_;refine wp_region_lit ?_;refine asg (v:=.bool false) rfl ?_;refine wpList_nil ?_;refine aae ?_;refine wp_seq ?_;refine wp_region_lit ?_;refine mv (v:=.string a0) rfl ?_;refine clV (caps:=#[]) (vs:=[.string a0]) rfl (by kernel_rfl) rfl (amG k (ark k) h hG ha0 S0) ?_;rintro _ w1 ⟨K1,s1,rfl,T1⟩;refine mv (v:=.tuple #[.string s1,.int .i64 (cond r0 0 2)]) rfl ?_;refine ext (v:=.string s1) rfl rfl ?_;refine ext (v:=.int .i64 (cond r0 0 2)) rfl rfl ?_;refine asg (v:=.string s1) rfl ?_;refine asg (v:=.int .i64 (cond r0 0 2)) rfl ?_;refine wpList_nil ?_;refine aae ?_;refine wp_seq ?_;refine wp_region_lit ?_;refine mv (v:=.int .i64 (cond r0 0 2)) rfl ?_;refine bcm (r:=decide ((cond r0 0 2:Int)=0)) rfl rfl rfl ?_;refine asg (v:=.bool (decide ((cond r0 0 2:Int)=0))) rfl ?_;refine wpList_nil ?_;refine aae ?_;refine wp_ret ?_;exact aas rfl (resT rfl) ⟨K1,by cases r0 <;> rfl,T1⟩
theorem apE (k:Nat) (F:afK) (IH47:aeg F.f47) (IH72:ad8 F.f72):aeg (aoV k F):=by
 unfold aeg;intro K wi g bs I J N a6 bO i bP bQ bR bS h hG a7 a8;obtain ⟨r_,hr_,h⟩:=rz h;obtain ⟨c,d,b,u,f⟩:=a6;obtain ⟨v,x,rfl,aM,a9⟩:=aam.open a7;refine enter Tryz.func47 rfl (n:=107) rfl ?_;unfold aoV at h;refine sr (bxoC (cs:=(aE c d b u v f x)) a8 rfl rfl (fun ba bb=>(m2 vN (wt (wp_seq (aax (fun a w=>∃ aN t m o p ai,a=fr 107 (updL aN [(0,pp g 0),(2,iI i),(4,pp (zz wi) 0),(24,.bool ai)])∧KH.sub K t∧SR K t wi w [.box bs g #[iI I,iI J,.bool N] 95] [.box bs g #[iI m,iI o,.bool p] 95,.box (zz wi) (zz wi) (aE c d b u v f x) 33]∧agl k F c d b f i m o p ai=some r_) ?_ ?_))))))
 ·refine wp_region_lit (m1 (pp g 0) (m1 (iI i) ?_));have aP:=p10 bb;obtain ⟨⟨⟨aj,ak,O⟩,aQ⟩,bd,h⟩:=ob h;refine cv ([pp g 0,iI i]) apA ((amE k) bd (hG.mono kr) (pt aP)) ?_;rintro _ bT ⟨al,rfl,ac⟩;have Y:=ca ac aP;refine uN aQ (m1 (.bool (!aQ)) (cd h (fun j h=>?_) (fun j h=>?_)))
  ·exact o1 13 j (o1 13 j (o1 13 j (o1 13 j (ou 17 (ou 17 (ou 17 (ou 17 (ou 17 (o1 13 j (m3 true vT (cg j) (wt (⟨_,al,aj,ak,O,true,fR,ac.sub,Y,h⟩))))))))))))
  ·refine n1 13 j (fd 3 aeG rfl (n1 13 j (l1 1 (iI u) Y Tya3 (n1 13 j (c0 (u != 0) (n1 13 j (m1 (.bool (u != 0)) (cd h (fun q h=>?_) (fun q h=>?_)))))))))
   ·exact n1 17 q (m1 (pp g 0) (n1 17 q (nilc rfl (n1 17 q (fd 2 ahT rfl (n1 17 q (l1 0 (.bool O) Y Tya4 (n1 17 q (uN O (n1 13 j (m3 true (.bool (!O)) (cg q) (m3 false (.bool (!O)) (cg j) (wt (⟨_,al,aj,ak,O,(!O),fR,ac.sub,Y,h⟩))))))))))))))
   ·exact o1 17 q (o1 17 q (o1 17 q (o1 17 q (o1 17 q (n1 13 j (m3 false vN (cg q) (m3 false vN (cg j) (wt (⟨_,al,aj,ak,O,false,fR,ac.sub,Y,h⟩)))))))))
 ·rintro _ bU ⟨aN,t,m,o,p,ai,rfl,S,e,h⟩;unfold agl at h;refine cd h (fun am h=>?_) (fun am h=>?_)
  ·refine cT am (sr (m2 vN (wt (wp_ret (aaw ?_)))));have e_:=(Option.some.inj h).trans hr_;obtain ⟨be,bf⟩:=Prod.mk.inj e_;obtain ⟨bg,bh,bi⟩:=aac.mk.inj be;subst bg;subst bh;subst bi;subst bf;exact aas rfl (resT rfl) ⟨t,rfl,(e.sel [0])⟩
  ·refine cF am (wp_skip (aae (sr (m2 (iI 0) (wt (sr (m2 vN (wt (aax (fun a w=>∃ aT W U Z,a=fr 107 (updL aT [(0,pp g 0),(2,iI i),(4,pp (zz wi) 0),(7,iI U),(8,.bool Z)])∧KH.sub t W∧SR K W wi w [.box bs g #[iI I,iI J,.bool N] 95] [.box bs g #[iI m,iI o,.bool p] 95,.box (zz wi) (zz wi) (aE c d b u v f x) 33]∧ac2 k F f i m o p U Z=some r_) ?_ ?_)))))))))
   ·refine sr (fd 0 aer rfl (l1 1 (iI c) e Tya3 (wt (wp_block (sr (c0 (c == 1) (m2 (.bool (c == 1)) (wt (cd h (fun an h=>?_) (fun an h=>?_))))))))))
    ·refine cT an (wp_region_lit (fd 1 afa rfl (l1 1 (iI d) e Tya3 ?_)));obtain ⟨bj,bk,h⟩:=ob h;refine cv ([iI d,iI 0,iI 1000000000000]) adN ((acx k) bk (hG.mono S) (pt e)) ?_;rintro _ bV ⟨aU,rfl,ao⟩;have ap:=ca ao e;refine m1 (.bool bj) (cd h (fun y h=>?_) (fun y h=>?_))
     ·exact n1 45 y (fd 2 afh rfl (n1 45 y (l1 1 (.string b) ap Tya9 (n1 45 y (bsc (r:=(seq b ⟨#[]⟩)) rfl rfl rfl (m3 true (.bool (seq b ⟨#[]⟩)) (cg y) (m2 (.bool (seq b ⟨#[]⟩)) (wpList_nil (blkN (aae (⟨_,aU,0,(seq b ⟨#[]⟩),fR,ao.sub,ap,h⟩)))))))))))
     ·exact o1 45 y (o1 45 y (o1 45 y (m3 false vN (cg y) (m2 vN (wpList_nil (blkN (aae (⟨_,aU,0,false,fR,ao.sub,ap,h⟩))))))))
    ·refine cF an (sr (c0 (c == 2) (m2 (.bool (c == 2)) (wt (cd h (fun aq h=>?_) (fun aq h=>?_))))))
     ·refine cT aq (wp_region_lit (fd 1 afa rfl (l1 1 (iI d) e Tya3 ?_)));obtain ⟨bm,bn,h⟩:=ob h;refine cv ([iI d,iI 0,iI 1]) adN ((acx k) bn (hG.mono S) (pt e)) ?_;rintro _ bW ⟨aV,rfl,ar⟩;have au:=ca ar e;refine m1 (.bool bm) (cd h (fun z h=>?_) (fun z h=>?_))
      ·exact n1 55 z (fd 2 afh rfl (n1 55 z (l1 1 (.string b) au Tya9 (n1 55 z (bsc (r:=(seq b ⟨#[]⟩)) rfl rfl rfl (m3 true (.bool (seq b ⟨#[]⟩)) (cg z) (m2 (.bool (seq b ⟨#[]⟩)) (wpList_nil (blkN (aae (⟨_,aV,0,(seq b ⟨#[]⟩),fR,ar.sub,au,h⟩)))))))))))
      ·exact o1 55 z (o1 55 z (o1 55 z (m3 false vN (cg z) (m2 vN (wpList_nil (blkN (aae (⟨_,aV,0,false,fR,ar.sub,au,h⟩))))))))
     ·refine cF aq (sr (c0 (c == 3) (m2 (.bool (c == 3)) (wt (cd h (fun av h=>?_) (fun av h=>?_))))))
      ·refine cT av (wp_region_lit (fd 1 afa rfl (l1 1 (iI d) e Tya3 (c0 (d == 0) (m1 (.bool (d == 0)) (cd h (fun A h=>?_) (fun A h=>?_)))))))
       ·refine n1 65 A (fd 2 afh rfl (n1 65 A (l1 1 (.string b) e Tya9 (n1 65 A ?_))));obtain ⟨aw,bo,h⟩:=ob h;refine cv ([.string b]) avz ((atZ k) bo (hG.mono S) aM (pt e)) ?_;rintro _ bX ⟨bp,rfl,aW⟩;have bq:=ca aW e;exact m3 true (.bool aw) (cg A) (m2 (.bool aw) (wpList_nil (blkN (aae (⟨_,bp,0,aw,fR,aW.sub,bq,h⟩)))))
       ·exact o1 65 A (o1 65 A (o1 65 A (m3 false vN (cg A) (m2 vN (wpList_nil (blkN (aae (⟨_,t,0,false,fR,kr,e,h⟩))))))))
      ·refine cF av (sr (c0 (c == 4) (m2 (.bool (c == 4)) (wt (cd h (fun ax h=>?_) (fun ax h=>?_))))))
       ·refine cT ax (wp_region_lit (fd 1 afa rfl (l1 1 (iI d) e Tya3 (c0 (d == 0) (m1 (.bool (d == 0)) (cd h (fun B h=>?_) (fun B h=>?_)))))))
        ·refine n1 75 B (fd 2 afh rfl (n1 75 B (l1 1 (.string b) e Tya9 (n1 75 B ?_))));obtain ⟨ay,br,h⟩:=ob h;refine cv ([.string b]) ah1 ((ae8 k) br (hG.mono S) aM (pt e)) ?_;rintro _ bY ⟨bu,rfl,aX⟩;have bv:=ca aX e;exact m3 true (.bool ay) (cg B) (m2 (.bool ay) (wpList_nil (blkN (aae (⟨_,bu,0,ay,fR,aX.sub,bv,h⟩)))))
        ·exact o1 75 B (o1 75 B (o1 75 B (m3 false vN (cg B) (m2 vN (wpList_nil (blkN (aae (⟨_,t,0,false,fR,kr,e,h⟩))))))))
       ·refine cF ax (aax (fun a w=>∃ aY az,a=fr 107 (updL aY [(0,pp g 0),(2,iI i),(4,pp (zz wi) 0),(80,.bool az)])∧SR K t wi w [.box bs g #[iI I,iI J,.bool N] 95] [.box bs g #[iI m,iI o,.bool p] 95,.box (zz wi) (zz wi) (aE c d b u v f x) 33]∧akZ k F c d b f i m o p az=some r_) ?_ ?_)
        ·refine sr (c0 (c == 5) (m2 (.bool (c == 5)) (wt (cd h (fun aA h=>?_) (fun aA h=>?_)))))
         ·exact cT aA (wp_skip (aae (⟨_,(c == 5),fR,e,h⟩)))
         ·exact cF aA (wp_region_lit (c0 (c == 6) (m2 (.bool (c == 6)) (wt (⟨_,(c == 6),fR,e,h⟩)))))
        ·rintro _ bZ ⟨aY,az,rfl,V,h⟩;unfold akZ at h;refine cd h (fun aB h=>?_) (fun aB h=>?_)
         ·refine cT aB (aax (fun a w=>∃ aZ ad,a=fr 107 (updL aZ [(0,pp g 0),(2,iI i),(4,pp (zz wi) 0),(8,.bool ad)])∧SR K t wi w [.box bs g #[iI I,iI J,.bool N] 95] [.box bs g #[iI m,iI o,.bool p] 95,.box (zz wi) (zz wi) (aE c d b u v f x) 33]∧akI k F f i m o p ad=some r_) ?_ ?_)
          ·refine wp_region_lit (fd 1 afa rfl (l1 1 (iI d) V Tya3 (c0 (d == 0) (m1 (.bool (d == 0)) (cd h (fun C h=>?_) (fun C h=>?_))))))
           ·exact n1 86 C (fd 2 afh rfl (n1 86 C (l1 1 (.string b) V Tya9 (n1 86 C (bsc (r:=(seq b ⟨#[]⟩)) rfl rfl rfl (m3 true (.bool (seq b ⟨#[]⟩)) (cg C) (m2 (.bool (seq b ⟨#[]⟩)) (wt (⟨_,(seq b ⟨#[]⟩),fR,V,h⟩)))))))))
           ·exact o1 86 C (o1 86 C (o1 86 C (m3 false vN (cg C) (m2 vN (wt (⟨_,false,fR,V,h⟩))))))
          ·rintro _ b0 ⟨aZ,ad,rfl,bw,h⟩;unfold akI at h;exact wp_region_lit (m2 (iI 1) (wpList_nil (blkN (aae (⟨_,t,1,ad,fR,kr,bw,h⟩)))))
         ·refine cF aB (aax (fun a w=>∃ a0 ae af,a=fr 107 (updL a0 [(0,pp g 0),(2,iI i),(4,pp (zz wi) 0),(8,.bool af)])∧KH.sub t ae∧SR K ae wi w [.box bs g #[iI I,iI J,.bool N] 95] [.box bs g #[iI m,iI o,.bool p] 95,.box (zz wi) (zz wi) (aE c d b u v f x) 33]∧aiz k F f i m o p af=some r_) ?_ ?_)
          ·refine wp_region_lit (fd 0 aer rfl (l1 1 (iI c) V Tya3 ?_));obtain ⟨bx,bz,h⟩:=ob h;refine cv ([iI c,iI 7,iI 19]) adN ((acx k) bz (hG.mono S) (pt V)) ?_;rintro _ b1 ⟨aG,rfl,ag⟩;have ab:=ca ag V;refine m1 (.bool bx) (cd h (fun D h=>?_) (fun D h=>?_))
           ·refine n1 30 D (fd 1 afa rfl (n1 30 D (l1 1 (iI d) ab Tya3 (n1 30 D (c0 (d == 0) (m3 true (.bool (d == 0)) (cg D) (m1 (.bool (d == 0)) (cd h (fun G h=>?_) (fun G h=>?_)))))))))
            ·exact n1 35 G (fd 2 afh rfl (n1 35 G (l1 1 (.string b) ab Tya9 (n1 35 G (bsc (r:=(seq b ⟨#[]⟩)) rfl rfl rfl (m3 true (.bool (seq b ⟨#[]⟩)) (cg G) (m2 (.bool (seq b ⟨#[]⟩)) (wt (⟨_,aG,(seq b ⟨#[]⟩),fR,ag.sub,ab,h⟩)))))))))
            ·exact o1 35 G (o1 35 G (o1 35 G (m3 false vN (cg G) (m2 vN (wt (⟨_,aG,false,fR,ag.sub,ab,h⟩))))))
           ·exact o1 30 D (o1 30 D (o1 30 D (m3 false vN (cg D) (m1 vN (o0 35 (o0 35 (o0 35 (m3 false vN rfl (m2 vN (wt (⟨_,aG,false,fR,ag.sub,ab,h⟩)))))))))))
          ·rintro _ b2 ⟨a0,ae,af,rfl,bA,bB,h⟩;unfold aiz at h;exact wp_region_lit (m2 (iI 2) (wpList_nil (blkN (aae (⟨_,ae,2,af,fR,bA,bB,h⟩)))))
   ·rintro _ b3 ⟨aT,W,U,Z,rfl,a3,X,h⟩;unfold ac2 at h;refine aax (fun a w=>∃ a4 ah aH aI aJ aK,a=fr 107 (updL a4 [(6,.bool aH)])∧KH.sub W ah∧SR K ah wi w [.box bs g #[iI I,iI J,.bool N] 95] [.box bs g #[iI aI,iI aJ,.bool aK] 95]∧ahG k F aH aI aJ aK=some r_) ?_ ?_
    ·refine wp_region_lit (m1 (.bool Z) (m1 (.bool Z) (cd h (fun s h=>?_) (fun s h=>?_))))
     ·refine n1 92 s (fd 4 acC rfl (n1 92 s (l1 1 (sl v f x) X acb (n1 92 s (lS f.length ab2 (n1 92 s (m1 (iI U) (n1 92 s (c0 ((f.length:Int) == U) (m3 true (.bool ((f.length:Int) == U)) (cg s) (m1 (.bool ((f.length:Int) == U)) (cd h (fun l h=>?_) (fun l h=>?_)))))))))))))
      ·refine n1 99 l (m1 (pp g 0) (n1 99 l (fd 4 acC rfl (n1 99 l (l1 1 (sl v f x) X acb (n1 99 l (m1 (iI i) (n1 99 l (bar (r:=(w64 (i + 1))) rfl rfl rfl (n1 99 l ?_))))))))));obtain ⟨⟨⟨bC,bD,bE⟩,aL⟩,bF,h⟩:=ob h;refine cv ([pp g 0,sl v f x,iI (w64 (i + 1))]) arG (IH72 bF (hG.mono (S.trans a3)) (me a9 (S.trans a3)) (pt X)) ?_;rintro _ b4 ⟨bG,rfl,a5⟩;have bH:=ca a5 X;exact m3 true (.bool aL) (cg l) (m2 (.bool aL) (wt (⟨_,bG,aL,bC,bD,bE,fR,a5.sub,(bH.sel [0]),h⟩)))
      ·exact o1 99 l (o1 99 l (o1 99 l (o1 99 l (o1 99 l (o1 99 l (m3 false vN (cg l) (m2 vN (wt (⟨_,W,false,m,o,p,fR,kr,(X.sel [0]),h⟩)))))))))
     ·exact o1 92 s (o1 92 s (o1 92 s (o1 92 s (o1 92 s (m3 false vN (cg s) (m1 vN (o0 99 (o0 99 (o0 99 (o0 99 (o0 99 (o0 99 (m3 false vN rfl (m2 vN (wt (⟨_,W,false,m,o,p,fR,kr,(X.sel [0]),h⟩))))))))))))))))
    ·rintro _ b5 ⟨a4,ah,aH,aI,aJ,aK,rfl,b6,bI,h⟩;unfold ahG at h;refine wp_ret ?_;have e_:=(Option.some.inj h).trans hr_;obtain ⟨bJ,bK⟩:=Prod.mk.inj e_;obtain ⟨bL,bM,bN⟩:=aac.mk.inj bJ;subst bL;subst bM;subst bN;subst bK;exact aas rfl (resT rfl) ⟨ah,rfl,bI⟩
theorem apj (k:Nat) (F:afK) (IH47:aeg F.f47) (IH72:ad8 F.f72):ad8 (as9 k F):=by
 unfold ad8;intro K wi g bs D G I d O S y aI aJ aK aL h hG U ac;obtain ⟨r_,hr_,h⟩:=rz h;refine enter Tryz.func72 rfl (n:=21) rfl ?_;unfold as9 at h;refine sr (m2 vN (wt (wp_seq (sr (m1 (sl O d S) (lS d.length ab2 (m1 (iI 0) (wt (wp_block (aaA (fun g_ a w=>∃ V x e,∃ (c:Nat),∃ z A B,g_=e.length∧a=fr 21 (updL V [(0,pp g 0),(2,iI y),(9,sl O d S),(10,iI (d.length:Int)),(11,iI (c:Int))])∧KH.sub K x∧SR K x wi w [.box bs g #[iI D,iI G,.bool I] 95] [.box bs g #[iI z,iI A,.bool B] 95]∧d.drop c=e∧agt k F y e c z A B=some r_) d.length ?_ ?_))))))))))
 ·exact ⟨_,K,d,0,D,G,I,rfl,fR,kr,ac,List.drop_zero,h⟩
 ·rintro _ _ ad ⟨V,x,e,c,z,A,B,rfl,rfl,C,J,f,h⟩;rcases e with _ | ⟨⟨l,m,p,q,s⟩,e⟩
  ·unfold agt at h;refine sr (bcm (r:=false) rfl rfl (congrArg some (aaq f)) (wt (wp_seq (cndF rfl (wp_exit (aaF (aaF (blkX (aae (sr (m2 vT (wt (wp_ret ?_)))))))))))));have e_:=(Option.some.inj h).trans hr_;obtain ⟨ae,af⟩:=Prod.mk.inj e_;obtain ⟨ag,ah,ai⟩:=aac.mk.inj ae;subst ag;subst ah;subst ai;subst af;exact aas rfl (resT rfl) ⟨x,rfl,J⟩
  ·unfold agt at h;refine sr (bcm (r:=true) rfl rfl (congrArg some (aar f)) (wt (wp_seq (cndT rfl (wp_skip (aae (wp_seq (wp_block (sr ?_)))))))));obtain ⟨aj,ak,aM,al,aN,am,an⟩:=((me U C)).row.at_ (aan f);obtain ⟨t,u,rfl,ao,ap⟩:=aam.open an;refine idxN (b:=aj) (o:=ak) (i:=c) ab2 abh rfl al rfl (aad f) (lD (vE l m p q t s u) acr abh rfl (fun j v hj=>J.cell (kr.cell (am j v hj))) (aC zE.toArray J agD (fun aP aq=>(sI 0 (.agg (aE l m p q t s u)) ((aE l m p q t s u)) aq abh rfl rfl (fun ar W=>(wt (sr (m1 (pp g 0) (lN 0 (vE l m p q t s u) W acr abh (m1 (iI y) ?_))))))))));have X:=p10 W;obtain ⟨⟨⟨au,av,aw⟩,ax⟩,ay,h⟩:=ob h;refine cv ([pp g 0,.agg (aE l m p q t s u),iI y]) auo (IH47 ay (hG.mono C) (aam.intro ao ap) (pt X)) ?_;rintro _ aQ ⟨Y,rfl,Z⟩;have ab:=ca Z X;refine uN ax (wt (cd h (fun N h=>?_) (fun N h=>?_)))
   ·refine cT N (sr (m2 vN (wt (wp_ret (blkR (aaw (aaw (blkR (aaw ?_)))))))));have e_:=(Option.some.inj h).trans hr_;obtain ⟨az,aA⟩:=Prod.mk.inj e_;obtain ⟨aB,aG,aH⟩:=aac.mk.inj az;subst aB;subst aG;subst aH;subst aA;exact aas rfl (resT rfl) ⟨Y,rfl,(ab.sel [0])⟩
   ·exact cF N (wp_skip (blkN (aae (wp_region_lit (bar (r:=((c + 1:Nat):Int)) rfl rfl (aaY (aa1 (((me U C)).len) (by decide) (aad f))) (m1 (iI ((c + 1:Nat):Int)) (wt (⟨_,Nat.lt_succ_self _,_,Y,e,c + 1,au,av,aw,rfl,fR,(C.trans Z.sub),(ab.sel [0]),aai f,h⟩))))))))
theorem amq (k0:Nat) : ∀ k,aeg (afd k0 k).f47∧ad8 (afd k0 k).f72:=by
 intro k;induction k with
 | zero=>exact ⟨(by unfold aeg; intro _ _ _ _ _ _ _ _ _ _ _ _ _ _ h_; cases h_),(by unfold ad8; intro _ _ _ _ _ _ _ _ _ _ _ _ _ _ _ h_; cases h_)⟩
 | succ k ih=>exact ⟨apE k0 (afd k0 k) ih.1 ih.2,apj k0 (afd k0 k) ih.1 ih.2⟩
theorem auu (k:Nat):aeg (f47 k):=(amq k k).1
theorem aqU (k:Nat):ad8 (f72 k):=(amq k k).2
theorem aoo (k:Nat) (F:acD) (IH119:acW F.f119) (IH136:acS F.f136) (IH150:acT F.f150):acW (anm k F):=by
 unfold acW;intro K wi g bs ac ad ae d ah ai W a6 a7 a8 a9 h hG aj aq;obtain ⟨r_,hr_,h⟩:=rz h;refine enter Tryz.func119 rfl (n:=21) rfl ?_;unfold anm at h;refine sr (m2 vN (wt (wp_seq (sr (m1 (sl ah d ai) (lS d.length abA (m1 (iI 0) (wt (wp_block (aaA (fun g_ a w=>∃ ak V e,∃ (c:Nat),∃ X Y Z,g_=e.length∧a=fr 21 (updL ak [(0,pp g 0),(2,iI W),(9,sl ah d ai),(10,iI (d.length:Int)),(11,iI (c:Int))])∧KH.sub K V∧SR K V wi w [.box bs g #[iI ac,iI ad,.bool ae] 95] [.box bs g #[iI X,iI Y,.bool Z] 95]∧d.drop c=e∧aeB k F W e c X Y Z=some r_) d.length ?_ ?_))))))))))
 ·exact ⟨_,K,d,0,ac,ad,ae,rfl,fR,kr,aq,List.drop_zero,h⟩
 ·rintro _ _ ar ⟨ak,V,e,c,X,Y,Z,rfl,rfl,ab,af,f,h⟩;rcases e with _ | ⟨⟨l,m,p,q,s,t,u,x,y,z,A⟩,e⟩
  ·unfold aeB at h;refine sr (bcm (r:=false) rfl rfl (congrArg some (aaq f)) (wt (wp_seq (cndF rfl (wp_exit (aaF (aaF (blkX (aae (sr (m2 vT (wt (wp_ret ?_)))))))))))));have e_:=(Option.some.inj h).trans hr_;obtain ⟨au,av⟩:=Prod.mk.inj e_;obtain ⟨aw,ax,ay⟩:=aac.mk.inj au;subst aw;subst ax;subst ay;subst av;exact aas rfl (resT rfl) ⟨V,rfl,af⟩
  ·unfold aeB at h;refine sr (bcm (r:=true) rfl rfl (congrArg some (aar f)) (wt (wp_seq (cndT rfl (wp_skip (aae (wp_seq (wp_block (sr ?_)))))))));obtain ⟨az,aA,ba,aB,bb,aG,aH⟩:=((ms aj ab)).row.at_ (aan f);obtain ⟨B,C,D,G,I,J,N,O,S,U,rfl,aI,aJ,aK,aL,aM,aN,aP⟩:=aaj.open aH;refine idxN (b:=az) (o:=aA) (i:=c) abA aaX rfl aB rfl (aad f) (lD (vS l m p q s t B u C D x G I y J N z O S A U) ack aaX rfl (fun j v hj=>af.cell (kr.cell (aG j v hj))) (aC zS.toArray af adc (fun bd aQ=>(sI 0 (.agg (aS l m p q s t B u C D x G I y J N z O S A U)) ((aS l m p q s t B u C D x G I y J N z O S A U)) aQ aaX rfl rfl (fun aT al=>(wt (sr (m1 (pp g 0) (lN 0 (vS l m p q s t B u C D x G I y J N z O S A U) al ack aaX (m1 (iI W) ?_))))))))));have am:=p10 al;obtain ⟨⟨⟨aU,aV,aW⟩,aX⟩,aY,h⟩:=ob h;refine cv ([pp g 0,.agg (aS l m p q s t B u C D x G I y J N z O S A U),iI W]) atA (IH136 aY (hG.mono ab) (aaj.intro aI aJ aK aL aM aN aP) (pt am)) ?_;rintro _ be ⟨an,rfl,ao⟩;have ap:=ca ao am;refine uN aX (wt (cd h (fun ag h=>?_) (fun ag h=>?_)))
   ·refine cT ag (sr (m2 vN (wt (wp_ret (blkR (aaw (aaw (blkR (aaw ?_)))))))));have e_:=(Option.some.inj h).trans hr_;obtain ⟨aZ,a0⟩:=Prod.mk.inj e_;obtain ⟨a3,a4,a5⟩:=aac.mk.inj aZ;subst a3;subst a4;subst a5;subst a0;exact aas rfl (resT rfl) ⟨an,rfl,(ap.sel [0])⟩
   ·exact cF ag (wp_skip (blkN (aae (wp_region_lit (bar (r:=((c + 1:Nat):Int)) rfl rfl (aaY (aa1 (((ms aj ab)).len) (by decide) (aad f))) (m1 (iI ((c + 1:Nat):Int)) (wt (⟨_,Nat.lt_succ_self _,_,an,e,c + 1,aU,aV,aW,rfl,fR,(ab.trans ao.sub),(ap.sel [0]),aai f,h⟩))))))))
theorem an4 (k:Nat) (F:acD) (IH119:acW F.f119) (IH136:acS F.f136) (IH150:acT F.f150):acS (ak8 k F):=by
 unfold acS;intro K wi g bs aB aG aH dL fM l fN fO fP fQ h hG dM dN;obtain ⟨r_,hr_,h⟩:=rz h;obtain ⟨d,m,V,e,U,ah,u,p,B,C,c⟩:=dL;obtain ⟨W,X,Y,Z,ad,ae,af,ag,x,y,rfl,b9,bH,cb,cc,ce,cf,bY⟩:=aaj.open dM;refine enter Tryz.func136 rfl (n:=192) rfl ?_;unfold ak8 at h;refine sr (bxoC (cs:=(aS d m V e U ah W u X Y p Z ad B ae af C ag x c y)) dN rfl rfl (fun da dO=>(m2 vN (wt (aax (fun a w=>∃ db bZ bI ab s bf bg bd bM,a=fr 192 (updL db [(0,pp g 0),(2,iI l),(4,pp (zz wi) 0),(7,pp bI 0),(8,.bool bM)])∧KH.sub K bZ∧SR K bZ wi w [.box bs g #[iI aB,iI aG,.bool aH] 95] [.box bs g #[iI aB,iI aG,.bool aH] 95,.box (zz wi) (zz wi) (aS d m V e U ah W u X Y p Z ad B ae af C ag x c y) 37,.box (zz wi) bI #[iI ab,.bool s,iI bf,iI bg,.bool bd] 198]∧afg k F aB aG aH d m V e U ah u p B C c l ab s bf bg bd bM=some r_) ?_ ?_)))))
 ·have bN:=dO.drew;refine afx (E:=[3,8]) (F:=FW K [.box (zz wi) (zz wi) (aS d m V e U ah W u X Y p Z ad B ae af C ag x c y) 37,.box bs g #[iI aB,iI aG,.bool aH] 95]) (L:=(lb 10 0)) ymx rfl rfl (kF 1 0 rfl abv rfl (fq [0,1] bN) (tL 2 (iI d) [[3,2],[8,2]] 0 rfl Tya3 (fq [0,1] bN) (ab0 (rs:=[0,7]) (by kernel_rfl) (by decide) (allC ?_ (allC ?_ allN)))))
  ·refine opL (i:=0) rfl ?_;obtain ⟨be,dP,h⟩:=ob h;refine cv ([]) ard ((anr k) dP (hG.mono kr) (pt bN)) ?_;rintro _ ch ⟨bz,fS,fT,fU,rfl,bJ,ci⟩;have dQ:=ca bJ bN;have bO:=dQ.lowerm_ (i:=0) rfl bN.size;refine wb (fwOf (is:=[1,2]) bO bJ.sub rfl) (fun _=>ab0 (rs:=[3,7]) (by kernel_rfl) (by decide) (allC ?_ (allC ?_ allN)))
   ·refine opL (i:=3) rfl ?_;rcases bK:mget qI d be with _ | ⟨D,G,I,J,N⟩
    ·have h:=abT bK h;exact lkN (kv:=kI) (q:=qI) (R:=(VAgg (aaD bz))) (xs:=be) (k:=d) (bO.entAt (i:=0) rfl).1 abj (aat Tyk3) keI ahg ci rfl rfl bK (wt ⟨hE 3,kH 4 (.tuple #[.agg #[iI 0,vN,iI 0,iI 0,vN],vN]) rfl (fun w=>mv_r (v:=.tuple #[.agg #[iI 0,vN,iI 0,iI 0,vN],vN]) rfl) 3 (kH 5 (.agg #[iI 0,vN,iI 0,iI 0,vN]) rfl (fun w=>aex (v:=.agg #[iI 0,vN,iI 0,iI 0,vN]) rfl rfl) 3 (kH 6 vN rfl (fun w=>aex (v:=vN) rfl rfl) 3 (aO 7 rfl (aC #[iI 0,vN,iI 0,iI 0,vN] bO ahg (fun fV dR=>(wt ⟨hE 3,aO 8 rfl (sI 0 (.agg #[iI 0,vN,iI 0,iI 0,vN]) #[iI 0,vN,iI 0,iI 0,vN] dR ail rfl rfl (fun dc b0=>(wt ⟨hE 8,kH 9 vN rfl (fun w=>acM (v:=vN) rfl) 3 (aD (aae (⟨_,bz,(zz ch),0,false,0,0,false,false,fR,bJ.sub,(b0.sel [3,2,0]),h⟩)))⟩)))⟩))))))⟩)
    ·have h:=abS bK h;refine lkS (kv:=kI) (q:=qI) (R:=(VAgg (aaD bz))) (xs:=be) (k:=d) (bO.entAt (i:=0) rfl).1 abj (aat Tyk3) keI ci rfl rfl bK (fun fW dS=>?_);obtain ⟨dd,rfl,b1⟩:=dS;obtain rfl:=aaD.open b1;exact wt ⟨hE 3,kH 4 (.tuple #[.agg #[iI D,.bool G,iI I,iI J,.bool N],vT]) rfl (fun w=>mv_r (v:=.tuple #[.agg #[iI D,.bool G,iI I,iI J,.bool N],vT]) rfl) 3 (kH 5 (.agg #[iI D,.bool G,iI I,iI J,.bool N]) rfl (fun w=>aex (v:=.agg #[iI D,.bool G,iI I,iI J,.bool N]) rfl rfl) 3 (kH 6 vT rfl (fun w=>aex (v:=vT) rfl rfl) 3 (aO 7 rfl (aC #[iI 0,vN,iI 0,iI 0,vN] bO ahg (fun de b2=>(wt ⟨hE 3,aO 8 rfl (sI 0 (.agg #[iI D,.bool G,iI I,iI J,.bool N]) #[iI D,.bool G,iI I,iI J,.bool N] b2 ail rfl rfl (fun fX dT=>(wt ⟨hE 8,kH 9 vT rfl (fun w=>acM (v:=vT) rfl) 3 (aD (aae (⟨_,bz,(zz ch),D,G,I,J,N,true,fR,bJ.sub,(dT.sel [3,2,0]),h⟩)))⟩)))⟩))))))⟩
   ·refine opL (i:=7) rfl (aC #[iI 0,vN,iI 0,iI 0,vN] bO ahg (fun fY b3=>(wb (fwOf (is:=[2,3]) b3 bJ.sub rfl) (fun _=>aO 3 rfl ?_))));rcases bh:mget qI d be with _ | ⟨D,G,I,J,N⟩
    ·have h:=abT bh h;exact lkN (kv:=kI) (q:=qI) (R:=(VAgg (aaD bz))) (xs:=be) (k:=d) (b3.entAt (i:=1) rfl).1 abj (aat Tyk3) keI ahg ci rfl rfl bh (wt ⟨hE 3,kH 4 (.tuple #[.agg #[iI 0,vN,iI 0,iI 0,vN],vN]) rfl (fun w=>mv_r (v:=.tuple #[.agg #[iI 0,vN,iI 0,iI 0,vN],vN]) rfl) 3 (kH 5 (.agg #[iI 0,vN,iI 0,iI 0,vN]) rfl (fun w=>aex (v:=.agg #[iI 0,vN,iI 0,iI 0,vN]) rfl rfl) 3 (kH 6 vN rfl (fun w=>aex (v:=vN) rfl rfl) 3 (aO 8 rfl (sI 0 (.agg #[iI 0,vN,iI 0,iI 0,vN]) #[iI 0,vN,iI 0,iI 0,vN] b3 ail rfl rfl (fun dc b0=>(wt ⟨hE 8,kH 9 vN rfl (fun w=>acM (v:=vN) rfl) 3 (aD (aae (⟨_,bz,(zz ch),0,false,0,0,false,false,fR,bJ.sub,(b0.sel [3,2,0]),h⟩)))⟩))))))⟩)
    ·have h:=abS bh h;refine lkS (kv:=kI) (q:=qI) (R:=(VAgg (aaD bz))) (xs:=be) (k:=d) (b3.entAt (i:=1) rfl).1 abj (aat Tyk3) keI ci rfl rfl bh (fun dU cH=>?_);obtain ⟨dd,rfl,b1⟩:=cH;obtain rfl:=aaD.open b1;exact wt ⟨hE 3,kH 4 (.tuple #[.agg #[iI D,.bool G,iI I,iI J,.bool N],vT]) rfl (fun w=>mv_r (v:=.tuple #[.agg #[iI D,.bool G,iI I,iI J,.bool N],vT]) rfl) 3 (kH 5 (.agg #[iI D,.bool G,iI I,iI J,.bool N]) rfl (fun w=>aex (v:=.agg #[iI D,.bool G,iI I,iI J,.bool N]) rfl rfl) 3 (kH 6 vT rfl (fun w=>aex (v:=vT) rfl rfl) 3 (aO 8 rfl (sI 0 (.agg #[iI D,.bool G,iI I,iI J,.bool N]) #[iI D,.bool G,iI I,iI J,.bool N] b3 ail rfl rfl (fun de b2=>(wt ⟨hE 8,kH 9 vT rfl (fun w=>acM (v:=vT) rfl) 3 (aD (aae (⟨_,bz,(zz ch),D,G,I,J,N,true,fR,bJ.sub,(b2.sel [3,2,0]),h⟩)))⟩))))))⟩
  ·refine opL (i:=7) rfl (aC #[iI 0,vN,iI 0,iI 0,vN] bN ahg (fun fZ cj=>(wb (fq [1,2] cj) (fun _=>aO 0 rfl ?_))));obtain ⟨be,dV,h⟩:=ob h;refine cv ([]) ard ((anr k) dV (hG.mono kr) (pt cj)) ?_;rintro _ f0 ⟨ck,f1,f2,f3,rfl,cl,bK⟩;have dW:=ca cl cj;have b4:=dW.lowerm_ (i:=0) rfl cj.size;refine wb (fwOf (is:=[2,3]) b4 cl.sub rfl) (fun _=>aO 3 rfl ?_);rcases bh:mget qI d be with _ | ⟨D,G,I,J,N⟩
   ·have h:=abT bh h;exact lkN (kv:=kI) (q:=qI) (R:=(VAgg (aaD ck))) (xs:=be) (k:=d) (b4.entAt (i:=0) rfl).1 abj (aat Tyk3) keI ahg bK rfl rfl bh (wt ⟨hE 3,kH 4 (.tuple #[.agg #[iI 0,vN,iI 0,iI 0,vN],vN]) rfl (fun w=>mv_r (v:=.tuple #[.agg #[iI 0,vN,iI 0,iI 0,vN],vN]) rfl) 3 (kH 5 (.agg #[iI 0,vN,iI 0,iI 0,vN]) rfl (fun w=>aex (v:=.agg #[iI 0,vN,iI 0,iI 0,vN]) rfl rfl) 3 (kH 6 vN rfl (fun w=>aex (v:=vN) rfl rfl) 3 (aO 8 rfl (sI 1 (.agg #[iI 0,vN,iI 0,iI 0,vN]) #[iI 0,vN,iI 0,iI 0,vN] b4 ail rfl rfl (fun dc b0=>(wt ⟨hE 8,kH 9 vN rfl (fun w=>acM (v:=vN) rfl) 3 (aD (aae (⟨_,ck,(zz da.drew),0,false,0,0,false,false,fR,cl.sub,(b0.sel [3,2,1]),h⟩)))⟩))))))⟩)
   ·have h:=abS bh h;refine lkS (kv:=kI) (q:=qI) (R:=(VAgg (aaD ck))) (xs:=be) (k:=d) (b4.entAt (i:=0) rfl).1 abj (aat Tyk3) keI bK rfl rfl bh (fun dU cH=>?_);obtain ⟨dd,rfl,b1⟩:=cH;obtain rfl:=aaD.open b1;exact wt ⟨hE 3,kH 4 (.tuple #[.agg #[iI D,.bool G,iI I,iI J,.bool N],vT]) rfl (fun w=>mv_r (v:=.tuple #[.agg #[iI D,.bool G,iI I,iI J,.bool N],vT]) rfl) 3 (kH 5 (.agg #[iI D,.bool G,iI I,iI J,.bool N]) rfl (fun w=>aex (v:=.agg #[iI D,.bool G,iI I,iI J,.bool N]) rfl rfl) 3 (kH 6 vT rfl (fun w=>aex (v:=vT) rfl rfl) 3 (aO 8 rfl (sI 1 (.agg #[iI D,.bool G,iI I,iI J,.bool N]) #[iI D,.bool G,iI I,iI J,.bool N] b4 ail rfl rfl (fun de b2=>(wt ⟨hE 8,kH 9 vT rfl (fun w=>acM (v:=vT) rfl) 3 (aD (aae (⟨_,ck,(zz da.drew),D,G,I,J,N,true,fR,cl.sub,(b2.sel [3,2,1]),h⟩)))⟩))))))⟩
 ·rintro _ f4 ⟨db,bZ,bI,ab,s,bf,bg,bd,bM,rfl,f,cI,h⟩;unfold afg at h;refine wp_seq (aax (fun a w=>∃ df aY bA bB bC cJ,a=fr 192 (updL df [(0,pp g 0),(2,iI l),(4,pp (zz wi) 0),(7,pp bI 0),(48,.bool cJ)])∧KH.sub bZ aY∧SR K aY wi w [.box bs g #[iI aB,iI aG,.bool aH] 95] [.box bs g #[iI bA,iI bB,.bool bC] 95,.box (zz wi) (zz wi) (aS d m V e U ah W u X Y p Z ad B ae af C ag x c y) 37,.box (zz wi) bI #[iI ab,.bool s,iI bf,iI bg,.bool bd] 198]∧adp k F d m e u p B C c l ab s bf bg bd bA bB bC cJ=some r_) ?_ ?_)
  ·refine wp_region_lit (m1 (.bool bM) (uN bM (m1 (.bool (!bM)) (cd h (fun aZ h=>?_) (fun aZ h=>?_)))))
   ·exact o1 21 aZ (o1 21 aZ (o1 21 aZ (o1 21 aZ (m3 true vT (cg aZ) (m1 vT (o0 27 (o0 27 (o0 27 (o0 27 (ou 31 (ou 31 (ou 31 (o0 27 (o0 27 (ou 36 (ou 36 (ou 36 (ou 36 (ou 36 (o0 27 (m3 true vT rfl (m1 vT (o0 44 (o0 44 (o0 44 (m3 true vT rfl (wt (⟨_,bZ,aB,aG,aH,true,fR,kr,cI,h⟩))))))))))))))))))))))))))))
   ·refine n1 21 aZ (m1 (pp g 0) (n1 21 aZ (m1 (iI l) (n1 21 aZ ?_))));obtain ⟨⟨⟨bP,bQ,ak⟩,cK⟩,dX,h⟩:=ob h;refine cv ([pp g 0,iI l]) apA ((amE k) dX (hG.mono f) (pt cI)) ?_;rintro _ f5 ⟨cL,rfl,z⟩;have al:=ca z cI;refine n1 21 aZ (uN cK (m3 false (.bool (!cK)) (cg aZ) (m1 (.bool (!cK)) (cd h (fun O h=>?_) (fun O h=>?_)))))
    ·exact o1 27 O (o1 27 O (o1 27 O (o1 27 O (ou 31 (ou 31 (ou 31 (o1 27 O (o1 27 O (ou 36 (ou 36 (ou 36 (ou 36 (ou 36 (o1 27 O (m3 true vT (cg O) (m1 vT (o0 44 (o0 44 (o0 44 (m3 true vT rfl (wt (⟨_,cL,bP,bQ,ak,true,fR,z.sub,al,h⟩))))))))))))))))))))))
    ·refine n1 27 O (fd 2 adL rfl (n1 27 O (l1 1 (iI V) al Tya3 (n1 27 O (c0 (V != 0) (n1 27 O (m1 (.bool (V != 0)) (cd h (fun bi h=>?_) (fun bi h=>?_)))))))))
     ·refine o1 31 bi (o1 31 bi (o1 31 bi (n1 27 O (m3 true vT (cg bi) (n1 27 O (m1 vT (n0 36 (m1 (pp g 0) (n0 36 (nilc rfl (n0 36 (fd 2 ahT rfl (n0 36 (l1 0 (.bool ak) al Tya4 (n0 36 (uN ak (n1 27 O (m3 true (.bool (!ak)) rfl (m3 false (.bool (!ak)) (cg O) (m1 (.bool (!ak)) (cd h (fun bj h=>?_) (fun bj h=>?_))))))))))))))))))))))
      ·exact o1 44 bj (o1 44 bj (o1 44 bj (m3 true vT (cg bj) (wt (⟨_,cL,bP,bQ,ak,true,fR,z.sub,al,h⟩)))))
      ·refine n1 44 bj (lN 1 (vS d m V e U ah W u X Y p Z ad B ae af C ag x c y) al ack aaX (n1 44 bj ?_));obtain ⟨cM,dY,h⟩:=ob h;refine cv ([.agg (aS d m V e U ah W u X Y p Z ad B ae af C ag x c y)]) anB ((alO k) dY (hG.mono (f.trans z.sub)) (aaj.intro b9 bH (me cb (f.trans z.sub)) (ms cc (f.trans z.sub)) (ms ce (f.trans z.sub)) (ms cf (f.trans z.sub)) (mc bY (f.trans z.sub))) (pt al)) ?_;rintro _ ga ⟨dZ,rfl,dg⟩;have d0:=ca dg al;exact n1 44 bj (uN cM (m3 false (.bool (!cM)) (cg bj) (wt (⟨_,dZ,bP,bQ,ak,(!cM),fR,(z.sub.trans dg.sub),d0,h⟩))))
     ·refine n1 31 bi (fd 4 agV rfl (n1 31 bi (l1 1 (iI U) al Tya3 (n1 31 bi (c0 (U != 0) (n1 27 O (m3 false (.bool (U != 0)) (cg bi) (n1 27 O (m1 (.bool (U != 0)) (cd h (fun aI h=>?_) (fun aI h=>?_)))))))))))
      ·refine n1 36 aI (m1 (pp g 0) (n1 36 aI (nilc rfl (n1 36 aI (fd 2 ahT rfl (n1 36 aI (l1 0 (.bool ak) al Tya4 (n1 36 aI (uN ak (n1 27 O (m3 true (.bool (!ak)) (cg aI) (m3 false (.bool (!ak)) (cg O) (m1 (.bool (!ak)) (cd h (fun bk h=>?_) (fun bk h=>?_)))))))))))))))
       ·exact o1 44 bk (o1 44 bk (o1 44 bk (m3 true vT (cg bk) (wt (⟨_,cL,bP,bQ,ak,true,fR,z.sub,al,h⟩)))))
       ·refine n1 44 bk (lN 1 (vS d m V e U ah W u X Y p Z ad B ae af C ag x c y) al ack aaX (n1 44 bk ?_));obtain ⟨cN,d1,h⟩:=ob h;refine cv ([.agg (aS d m V e U ah W u X Y p Z ad B ae af C ag x c y)]) anB ((alO k) d1 (hG.mono (f.trans z.sub)) (aaj.intro b9 bH (me cb (f.trans z.sub)) (ms cc (f.trans z.sub)) (ms ce (f.trans z.sub)) (ms cf (f.trans z.sub)) (mc bY (f.trans z.sub))) (pt al)) ?_;rintro _ gb ⟨d2,rfl,dh⟩;have d3:=ca dh al;exact n1 44 bk (uN cN (m3 false (.bool (!cN)) (cg bk) (wt (⟨_,d2,bP,bQ,ak,(!cN),fR,(z.sub.trans dh.sub),d3,h⟩))))
      ·refine o1 36 aI (o1 36 aI (o1 36 aI (o1 36 aI (o1 36 aI (n1 27 O (m3 false vN (cg aI) (m3 false vN (cg O) (m1 vN (n0 44 (lN 1 (vS d m V e U ah W u X Y p Z ad B ae af C ag x c y) al ack aaX (n0 44 ?_)))))))))));obtain ⟨cO,d4,h⟩:=ob h;refine cv ([.agg (aS d m V e U ah W u X Y p Z ad B ae af C ag x c y)]) anB ((alO k) d4 (hG.mono (f.trans z.sub)) (aaj.intro b9 bH (me cb (f.trans z.sub)) (ms cc (f.trans z.sub)) (ms ce (f.trans z.sub)) (ms cf (f.trans z.sub)) (mc bY (f.trans z.sub))) (pt al)) ?_;rintro _ gc ⟨d5,rfl,di⟩;have d6:=ca di al;exact n0 44 (uN cO (m3 false (.bool (!cO)) rfl (wt (⟨_,d5,bP,bQ,ak,(!cO),fR,(z.sub.trans di.sub),d6,h⟩))))
  ·rintro _ gd ⟨df,aY,bA,bB,bC,cJ,rfl,S,A,h⟩;unfold adp at h;refine cd h (fun cP h=>?_) (fun cP h=>?_)
   ·refine cT cP (sr (m2 vN (wt (wp_ret (aaw ?_)))));have e_:=(Option.some.inj h).trans hr_;obtain ⟨d7,d8⟩:=Prod.mk.inj e_;obtain ⟨d9,ea,ec⟩:=aac.mk.inj d7;subst d9;subst ea;subst ec;subst d8;exact aas rfl (resT rfl) ⟨aY,rfl,(A.sel [0])⟩
   ·refine cF cP (wp_skip (aae (sr (fd 1 ac1 rfl (l1 1 (.string m) A Tya9 (bsc (r:=(!seq m ⟨#[]⟩)) rfl rfl rfl (m2 (.bool (!seq m ⟨#[]⟩)) (wt (wp_seq (aax (fun a w=>∃ dj b5 cQ,a=fr 192 (updL dj [(0,pp g 0),(2,iI l),(4,pp (zz wi) 0),(7,pp bI 0),(90,.bool cQ)])∧KH.sub aY b5∧SR K b5 wi w [.box bs g #[iI aB,iI aG,.bool aH] 95] [.box bs g #[iI bA,iI bB,.bool bC] 95,.box (zz wi) (zz wi) (aS d m V e U ah W u X Y p Z ad B ae af C ag x c y) 37,.box (zz wi) bI #[iI ab,.bool s,iI bf,iI bg,.bool bd] 198]∧abB k F d u p B C c l bf bg bd bA bB bC cQ=some r_) ?_ ?_))))))))))
    ·refine wp_region_lit (m1 (.bool (!seq m ⟨#[]⟩)) (m1 (.bool (!seq m ⟨#[]⟩)) (cd h (fun an h=>?_) (fun an h=>?_))))
     ·refine n1 53 an (fd 0 aji rfl (n1 53 an (l1 2 (iI ab) A Tya3 (n1 53 an (c0 (ab == 0) (n1 53 an (m1 (.bool (ab == 0)) (cd h (fun a0 h=>?_) (fun a0 h=>?_)))))))))
      ·exact o1 57 a0 (o1 57 a0 (o1 57 a0 (o1 57 a0 (n1 53 an (m3 true vT (cg a0) (m3 true vT (cg an) (m1 vT (o0 64 (o0 64 (o0 64 (ou 67 (ou 67 (ou 67 (o0 64 (m3 true vT rfl (m1 vT (o0 73 (o0 73 (o0 73 (o0 73 (o0 73 (o0 73 (m3 true vT rfl (m1 vT (o0 81 (o0 81 (o0 81 (ou 84 (ou 84 (ou 84 (ou 84 (o0 81 (m3 true vT rfl (wt (⟨_,aY,true,fR,kr,A,h⟩)))))))))))))))))))))))))))))))))))
      ·refine n1 57 a0 (fd 1 ac1 rfl (n1 57 a0 (l1 1 (.string m) A Tya9 (n1 57 a0 ?_))));obtain ⟨cm,ed,h⟩:=ob h;refine cv ([.string m]) ah1 ((ae8 k) ed (hG.mono A.sub) b9 (pt A)) ?_;rintro _ ge ⟨bR,rfl,a3⟩;have ac:=ca a3 A;refine n1 57 a0 (uN cm (n1 53 an (m3 false (.bool (!cm)) (cg a0) (m3 true (.bool (!cm)) (cg an) (m1 (.bool (!cm)) (cd h (fun aJ h=>?_) (fun aJ h=>?_)))))))
       ·exact o1 64 aJ (o1 64 aJ (o1 64 aJ (ou 67 (ou 67 (ou 67 (o1 64 aJ (m3 true vT (cg aJ) (m1 vT (o0 73 (o0 73 (o0 73 (o0 73 (o0 73 (o0 73 (m3 true vT rfl (m1 vT (o0 81 (o0 81 (o0 81 (ou 84 (ou 84 (ou 84 (ou 84 (o0 81 (m3 true vT rfl (wt (⟨_,bR,true,fR,a3.sub,ac,h⟩)))))))))))))))))))))))))))
       ·refine n1 64 aJ (m1 (.bool (!seq m ⟨#[]⟩)) (n1 64 aJ (uN (!seq m ⟨#[]⟩) (n1 64 aJ (m1 (.bool (!(!seq m ⟨#[]⟩))) (cd h (fun bm h=>?_) (fun bm h=>?_)))))))
        ·refine n1 67 bm (fd 0 aji rfl (n1 67 bm (l1 2 (iI ab) ac Tya3 (n1 67 bm (c0 (ab == 1) (n1 64 aJ (m3 true (.bool (ab == 1)) (cg bm) (m3 false (.bool (ab == 1)) (cg aJ) (m1 (.bool (ab == 1)) (cd h (fun ao h=>?_) (fun ao h=>?_)))))))))))
         ·exact o1 73 ao (o1 73 ao (o1 73 ao (o1 73 ao (o1 73 ao (o1 73 ao (m3 true vT (cg ao) (m1 vT (o0 81 (o0 81 (o0 81 (ou 84 (ou 84 (ou 84 (ou 84 (o0 81 (m3 true vT rfl (wt (⟨_,bR,true,fR,a3.sub,ac,h⟩))))))))))))))))))
         ·refine n1 73 ao (fd 3 adE rfl (n1 73 ao (l1 1 (.string e) ac Tya9 (n1 73 ao (bsc (r:=(!seq e ⟨#[]⟩)) rfl rfl rfl (n1 73 ao (fd 1 adu rfl (n1 73 ao (l1 2 (.bool s) ac Tya4 (n1 73 ao (bbo (r:=(!((!seq e ⟨#[]⟩) == s))) Tyo4 rfl rfl rfl (m3 false (.bool (!((!seq e ⟨#[]⟩) == s))) (cg ao) (m1 (.bool (!((!seq e ⟨#[]⟩) == s))) (cd h (fun aK h=>?_) (fun aK h=>?_)))))))))))))))
          ·exact o1 81 aK (o1 81 aK (o1 81 aK (ou 84 (ou 84 (ou 84 (ou 84 (o1 81 aK (m3 true vT (cg aK) (wt (⟨_,bR,true,fR,a3.sub,ac,h⟩))))))))))
          ·refine n1 81 aK (fd 1 adu rfl (n1 81 aK (l1 2 (.bool s) ac Tya4 (n1 81 aK (m1 (.bool s) (cd h (fun a4 h=>?_) (fun a4 h=>?_)))))))
           ·refine n1 84 a4 (fd 3 adE rfl (n1 84 a4 (l1 1 (.string e) ac Tya9 (n1 84 a4 ?_))));obtain ⟨cn,ee,h⟩:=ob h;refine cv ([.string e]) ah1 ((ae8 k) ee (hG.mono ac.sub) bH (pt ac)) ?_;rintro _ gf ⟨ef,rfl,dk⟩;have eg:=ca dk ac;exact n1 84 a4 (uN cn (n1 81 aK (m3 true (.bool (!cn)) (cg a4) (m3 false (.bool (!cn)) (cg aK) (wt (⟨_,ef,(!cn),fR,(a3.sub.trans dk.sub),eg,h⟩))))))
           ·exact o1 84 a4 (o1 84 a4 (o1 84 a4 (o1 84 a4 (n1 81 aK (m3 false vN (cg a4) (m3 false vN (cg aK) (wt (⟨_,bR,false,fR,a3.sub,ac,h⟩))))))))
        ·refine o1 67 bm (o1 67 bm (o1 67 bm (n1 64 aJ (m3 false vN (cg bm) (m3 false vN (cg aJ) (m1 vN (n0 73 (fd 3 adE rfl (n0 73 (l1 1 (.string e) ac Tya9 (n0 73 (bsc (r:=(!seq e ⟨#[]⟩)) rfl rfl rfl (n0 73 (fd 1 adu rfl (n0 73 (l1 2 (.bool s) ac Tya4 (n0 73 (bbo (r:=(!((!seq e ⟨#[]⟩) == s))) Tyo4 rfl rfl rfl (m3 false (.bool (!((!seq e ⟨#[]⟩) == s))) rfl (m1 (.bool (!((!seq e ⟨#[]⟩) == s))) (cd h (fun aL h=>?_) (fun aL h=>?_))))))))))))))))))))))
         ·exact o1 81 aL (o1 81 aL (o1 81 aL (ou 84 (ou 84 (ou 84 (ou 84 (o1 81 aL (m3 true vT (cg aL) (wt (⟨_,bR,true,fR,a3.sub,ac,h⟩))))))))))
         ·refine n1 81 aL (fd 1 adu rfl (n1 81 aL (l1 2 (.bool s) ac Tya4 (n1 81 aL (m1 (.bool s) (cd h (fun a5 h=>?_) (fun a5 h=>?_)))))))
          ·refine n1 84 a5 (fd 3 adE rfl (n1 84 a5 (l1 1 (.string e) ac Tya9 (n1 84 a5 ?_))));obtain ⟨co,eh,h⟩:=ob h;refine cv ([.string e]) ah1 ((ae8 k) eh (hG.mono ac.sub) bH (pt ac)) ?_;rintro _ gg ⟨ei,rfl,dl⟩;have ej:=ca dl ac;exact n1 84 a5 (uN co (n1 81 aL (m3 true (.bool (!co)) (cg a5) (m3 false (.bool (!co)) (cg aL) (wt (⟨_,ei,(!co),fR,(a3.sub.trans dl.sub),ej,h⟩))))))
          ·exact o1 84 a5 (o1 84 a5 (o1 84 a5 (o1 84 a5 (n1 81 aL (m3 false vN (cg a5) (m3 false vN (cg aL) (wt (⟨_,bR,false,fR,a3.sub,ac,h⟩))))))))
     ·refine o1 53 an (o1 53 an (o1 53 an (o1 53 an (ou 57 (ou 57 (ou 57 (ou 57 (o1 53 an (m3 false vN (cg an) (m1 vN (n0 64 (m1 (.bool (!seq m ⟨#[]⟩)) (n0 64 (uN (!seq m ⟨#[]⟩) (n0 64 (m1 (.bool (!(!seq m ⟨#[]⟩))) (cd h (fun bn h=>?_) (fun bn h=>?_))))))))))))))))))
      ·refine n1 67 bn (fd 0 aji rfl (n1 67 bn (l1 2 (iI ab) A Tya3 (n1 67 bn (c0 (ab == 1) (n0 64 (m3 true (.bool (ab == 1)) (cg bn) (m3 false (.bool (ab == 1)) rfl (m1 (.bool (ab == 1)) (cd h (fun ap h=>?_) (fun ap h=>?_)))))))))))
       ·exact o1 73 ap (o1 73 ap (o1 73 ap (o1 73 ap (o1 73 ap (o1 73 ap (m3 true vT (cg ap) (m1 vT (o0 81 (o0 81 (o0 81 (ou 84 (ou 84 (ou 84 (ou 84 (o0 81 (m3 true vT rfl (wt (⟨_,aY,true,fR,kr,A,h⟩))))))))))))))))))
       ·refine n1 73 ap (fd 3 adE rfl (n1 73 ap (l1 1 (.string e) A Tya9 (n1 73 ap (bsc (r:=(!seq e ⟨#[]⟩)) rfl rfl rfl (n1 73 ap (fd 1 adu rfl (n1 73 ap (l1 2 (.bool s) A Tya4 (n1 73 ap (bbo (r:=(!((!seq e ⟨#[]⟩) == s))) Tyo4 rfl rfl rfl (m3 false (.bool (!((!seq e ⟨#[]⟩) == s))) (cg ap) (m1 (.bool (!((!seq e ⟨#[]⟩) == s))) (cd h (fun aM h=>?_) (fun aM h=>?_)))))))))))))))
        ·exact o1 81 aM (o1 81 aM (o1 81 aM (ou 84 (ou 84 (ou 84 (ou 84 (o1 81 aM (m3 true vT (cg aM) (wt (⟨_,aY,true,fR,kr,A,h⟩))))))))))
        ·refine n1 81 aM (fd 1 adu rfl (n1 81 aM (l1 2 (.bool s) A Tya4 (n1 81 aM (m1 (.bool s) (cd h (fun a6 h=>?_) (fun a6 h=>?_)))))))
         ·refine n1 84 a6 (fd 3 adE rfl (n1 84 a6 (l1 1 (.string e) A Tya9 (n1 84 a6 ?_))));obtain ⟨cq,ek,h⟩:=ob h;refine cv ([.string e]) ah1 ((ae8 k) ek (hG.mono A.sub) bH (pt A)) ?_;rintro _ gh ⟨el,rfl,dm⟩;have em:=ca dm A;exact n1 84 a6 (uN cq (n1 81 aM (m3 true (.bool (!cq)) (cg a6) (m3 false (.bool (!cq)) (cg aM) (wt (⟨_,el,(!cq),fR,dm.sub,em,h⟩))))))
         ·exact o1 84 a6 (o1 84 a6 (o1 84 a6 (o1 84 a6 (n1 81 aM (m3 false vN (cg a6) (m3 false vN (cg aM) (wt (⟨_,aY,false,fR,kr,A,h⟩))))))))
      ·refine o1 67 bn (o1 67 bn (o1 67 bn (n0 64 (m3 false vN (cg bn) (m3 false vN rfl (m1 vN (n0 73 (fd 3 adE rfl (n0 73 (l1 1 (.string e) A Tya9 (n0 73 (bsc (r:=(!seq e ⟨#[]⟩)) rfl rfl rfl (n0 73 (fd 1 adu rfl (n0 73 (l1 2 (.bool s) A Tya4 (n0 73 (bbo (r:=(!((!seq e ⟨#[]⟩) == s))) Tyo4 rfl rfl rfl (m3 false (.bool (!((!seq e ⟨#[]⟩) == s))) rfl (m1 (.bool (!((!seq e ⟨#[]⟩) == s))) (cd h (fun aN h=>?_) (fun aN h=>?_))))))))))))))))))))))
       ·exact o1 81 aN (o1 81 aN (o1 81 aN (ou 84 (ou 84 (ou 84 (ou 84 (o1 81 aN (m3 true vT (cg aN) (wt (⟨_,aY,true,fR,kr,A,h⟩))))))))))
       ·refine n1 81 aN (fd 1 adu rfl (n1 81 aN (l1 2 (.bool s) A Tya4 (n1 81 aN (m1 (.bool s) (cd h (fun a7 h=>?_) (fun a7 h=>?_)))))))
        ·refine n1 84 a7 (fd 3 adE rfl (n1 84 a7 (l1 1 (.string e) A Tya9 (n1 84 a7 ?_))));obtain ⟨cr,en,h⟩:=ob h;refine cv ([.string e]) ah1 ((ae8 k) en (hG.mono A.sub) bH (pt A)) ?_;rintro _ gi ⟨eo,rfl,dn⟩;have ep:=ca dn A;exact n1 84 a7 (uN cr (n1 81 aN (m3 true (.bool (!cr)) (cg a7) (m3 false (.bool (!cr)) (cg aN) (wt (⟨_,eo,(!cr),fR,dn.sub,ep,h⟩))))))
        ·exact o1 84 a7 (o1 84 a7 (o1 84 a7 (o1 84 a7 (n1 81 aN (m3 false vN (cg a7) (m3 false vN (cg aN) (wt (⟨_,aY,false,fR,kr,A,h⟩))))))))
    ·rintro _ gj ⟨dj,b5,cQ,rfl,ai,bS,h⟩;unfold abB at h;refine cd h (fun cR h=>?_) (fun cR h=>?_)
     ·refine cT cR (sr (m2 vN (wt (wp_ret (aaw ?_)))));have e_:=(Option.some.inj h).trans hr_;obtain ⟨eq,es⟩:=Prod.mk.inj e_;obtain ⟨et,eu,ew⟩:=aac.mk.inj eq;subst et;subst eu;subst ew;subst es;exact aas rfl (resT rfl) ⟨b5,rfl,(bS.sel [0])⟩
     ·refine cF cR (wp_skip (aae (wp_seq (aax (fun a w=>∃ dp bT cS,a=fr 192 (updL dp [(0,pp g 0),(2,iI l),(4,pp (zz wi) 0),(133,.bool cS)])∧KH.sub b5 bT∧SR K bT wi w [.box bs g #[iI aB,iI aG,.bool aH] 95] [.box bs g #[iI bA,iI bB,.bool bC] 95,.box (zz wi) (zz wi) (aS d m V e U ah W u X Y p Z ad B ae af C ag x c y) 37]∧acv k F u p B C c l bA bB bC cS=some r_) ?_ ?_))))
      ·refine wp_region_lit (fd 6 abE rfl (l1 1 (sl W u X) bS acb (lS u.length ab2 (fd 2 apq rfl (l1 2 (iI bf) bS Tya3 (fd 3 apQ rfl (l1 2 (iI bg) bS Tya3 ?_)))))));obtain ⟨dq,ex,h⟩:=ob h;refine cv ([iI (u.length:Int),iI bf,iI bg]) adN ((acx k) ex (hG.mono bS.sub) (pt bS)) ?_;rintro _ gk ⟨bD,rfl,aj⟩;have t:=ca aj bS;refine uN dq (m1 (.bool (!dq)) (cd h (fun aq h=>?_) (fun aq h=>?_)))
       ·exact o1 100 aq (o1 100 aq (o1 100 aq (o1 100 aq (ou 104 (ou 104 (ou 104 (ou 104 (o1 100 aq (m3 true vT (cg aq) (m1 vT (o0 111 (o0 111 (o0 111 (o0 111 (ou 115 (ou 115 (ou 115 (ou 115 (o0 111 (m3 true vT rfl (m1 vT (o0 122 (o0 122 (o0 122 (o0 122 (ou 126 (ou 126 (ou 126 (ou 126 (ou 126 (o0 122 (m3 true vT rfl (wt (⟨_,bD,true,fR,aj.sub,(t.sel [0,1]),h⟩))))))))))))))))))))))))))))))))))
       ·refine n1 100 aq (fd 4 apX rfl (n1 100 aq (l1 2 (.bool bd) t Tya4 (n1 100 aq (uN bd (n1 100 aq (m1 (.bool (!bd)) (cd h (fun a8 h=>?_) (fun a8 h=>?_)))))))))
        ·refine n1 104 a8 (fd 7 abp rfl (n1 104 a8 (l1 1 (sl Y p Z) t abk (n1 104 a8 (lS p.length abA (n1 104 a8 (c0 (decide ((p.length:Int) > 0)) (n1 100 aq (m3 true (.bool (decide ((p.length:Int) > 0))) (cg a8) (m3 false (.bool (decide ((p.length:Int) > 0))) (cg aq) (m1 (.bool (decide ((p.length:Int) > 0))) (cd h (fun ar h=>?_) (fun ar h=>?_)))))))))))))
         ·exact o1 111 ar (o1 111 ar (o1 111 ar (o1 111 ar (ou 115 (ou 115 (ou 115 (ou 115 (o1 111 ar (m3 true vT (cg ar) (m1 vT (o0 122 (o0 122 (o0 122 (o0 122 (ou 126 (ou 126 (ou 126 (ou 126 (ou 126 (o0 122 (m3 true vT rfl (wt (⟨_,bD,true,fR,aj.sub,(t.sel [0,1]),h⟩)))))))))))))))))))))))
         ·refine n1 111 ar (fd 0 abv rfl (n1 111 ar (l1 1 (iI d) t Tya3 (n1 111 ar (c0 (d != 27) (n1 111 ar (m1 (.bool (d != 27)) (cd h (fun a9 h=>?_) (fun a9 h=>?_)))))))))
          ·refine n1 115 a9 (fd 10 abi rfl (n1 115 a9 (l1 1 (sl x c y) t ael (n1 115 a9 (lS c.length aco (n1 115 a9 (c0 (decide ((c.length:Int) > 0)) (n1 111 ar (m3 true (.bool (decide ((c.length:Int) > 0))) (cg a9) (m3 false (.bool (decide ((c.length:Int) > 0))) (cg ar) (m1 (.bool (decide ((c.length:Int) > 0))) (cd h (fun au h=>?_) (fun au h=>?_)))))))))))))
           ·exact o1 122 au (o1 122 au (o1 122 au (o1 122 au (ou 126 (ou 126 (ou 126 (ou 126 (ou 126 (o1 122 au (m3 true vT (cg au) (wt (⟨_,bD,true,fR,aj.sub,(t.sel [0,1]),h⟩))))))))))))
           ·refine n1 122 au (fd 0 abv rfl (n1 122 au (l1 1 (iI d) t Tya3 (n1 122 au (c0 (d == 27) (n1 122 au (m1 (.bool (d == 27)) (cd h (fun aP h=>?_) (fun aP h=>?_)))))))))
            ·refine n1 126 aP (fd 10 abi rfl (n1 126 aP (l1 1 (sl x c y) t ael (n1 126 aP (lS c.length aco (n1 126 aP ?_))))));obtain ⟨ct,ey,h⟩:=ob h;refine cv ([iI (c.length:Int),iI 1,iI 4]) adN ((acx k) ey (hG.mono t.sub) (pt t)) ?_;rintro _ gl ⟨ez,rfl,dr⟩;have eA:=ca dr t;exact n1 126 aP (uN ct (n1 122 au (m3 true (.bool (!ct)) (cg aP) (m3 false (.bool (!ct)) (cg au) (wt (⟨_,ez,(!ct),fR,(aj.sub.trans dr.sub),(eA.sel [0,1]),h⟩))))))
            ·exact o1 126 aP (o1 126 aP (o1 126 aP (o1 126 aP (o1 126 aP (n1 122 au (m3 false vN (cg aP) (m3 false vN (cg au) (wt (⟨_,bD,false,fR,aj.sub,(t.sel [0,1]),h⟩)))))))))
          ·refine o1 115 a9 (o1 115 a9 (o1 115 a9 (o1 115 a9 (n1 111 ar (m3 false vN (cg a9) (m3 false vN (cg ar) (m1 vN (n0 122 (fd 0 abv rfl (n0 122 (l1 1 (iI d) t Tya3 (n0 122 (c0 (d == 27) (n0 122 (m1 (.bool (d == 27)) (cd h (fun aQ h=>?_) (fun aQ h=>?_)))))))))))))))))
           ·refine n1 126 aQ (fd 10 abi rfl (n1 126 aQ (l1 1 (sl x c y) t ael (n1 126 aQ (lS c.length aco (n1 126 aQ ?_))))));obtain ⟨cu,eB,h⟩:=ob h;refine cv ([iI (c.length:Int),iI 1,iI 4]) adN ((acx k) eB (hG.mono t.sub) (pt t)) ?_;rintro _ gm ⟨eC,rfl,ds⟩;have eD:=ca ds t;exact n1 126 aQ (uN cu (n0 122 (m3 true (.bool (!cu)) (cg aQ) (m3 false (.bool (!cu)) rfl (wt (⟨_,eC,(!cu),fR,(aj.sub.trans ds.sub),(eD.sel [0,1]),h⟩))))))
           ·exact o1 126 aQ (o1 126 aQ (o1 126 aQ (o1 126 aQ (o1 126 aQ (n0 122 (m3 false vN (cg aQ) (m3 false vN rfl (wt (⟨_,bD,false,fR,aj.sub,(t.sel [0,1]),h⟩)))))))))
        ·refine o1 104 a8 (o1 104 a8 (o1 104 a8 (o1 104 a8 (n1 100 aq (m3 false vN (cg a8) (m3 false vN (cg aq) (m1 vN (n0 111 (fd 0 abv rfl (n0 111 (l1 1 (iI d) t Tya3 (n0 111 (c0 (d != 27) (n0 111 (m1 (.bool (d != 27)) (cd h (fun ba h=>?_) (fun ba h=>?_)))))))))))))))))
         ·refine n1 115 ba (fd 10 abi rfl (n1 115 ba (l1 1 (sl x c y) t ael (n1 115 ba (lS c.length aco (n1 115 ba (c0 (decide ((c.length:Int) > 0)) (n0 111 (m3 true (.bool (decide ((c.length:Int) > 0))) (cg ba) (m3 false (.bool (decide ((c.length:Int) > 0))) rfl (m1 (.bool (decide ((c.length:Int) > 0))) (cd h (fun av h=>?_) (fun av h=>?_)))))))))))))
          ·exact o1 122 av (o1 122 av (o1 122 av (o1 122 av (ou 126 (ou 126 (ou 126 (ou 126 (ou 126 (o1 122 av (m3 true vT (cg av) (wt (⟨_,bD,true,fR,aj.sub,(t.sel [0,1]),h⟩))))))))))))
          ·refine n1 122 av (fd 0 abv rfl (n1 122 av (l1 1 (iI d) t Tya3 (n1 122 av (c0 (d == 27) (n1 122 av (m1 (.bool (d == 27)) (cd h (fun aT h=>?_) (fun aT h=>?_)))))))))
           ·refine n1 126 aT (fd 10 abi rfl (n1 126 aT (l1 1 (sl x c y) t ael (n1 126 aT (lS c.length aco (n1 126 aT ?_))))));obtain ⟨cw,eF,h⟩:=ob h;refine cv ([iI (c.length:Int),iI 1,iI 4]) adN ((acx k) eF (hG.mono t.sub) (pt t)) ?_;rintro _ gn ⟨eG,rfl,dt⟩;have eH:=ca dt t;exact n1 126 aT (uN cw (n1 122 av (m3 true (.bool (!cw)) (cg aT) (m3 false (.bool (!cw)) (cg av) (wt (⟨_,eG,(!cw),fR,(aj.sub.trans dt.sub),(eH.sel [0,1]),h⟩))))))
           ·exact o1 126 aT (o1 126 aT (o1 126 aT (o1 126 aT (o1 126 aT (n1 122 av (m3 false vN (cg aT) (m3 false vN (cg av) (wt (⟨_,bD,false,fR,aj.sub,(t.sel [0,1]),h⟩)))))))))
         ·refine o1 115 ba (o1 115 ba (o1 115 ba (o1 115 ba (n0 111 (m3 false vN (cg ba) (m3 false vN rfl (m1 vN (n0 122 (fd 0 abv rfl (n0 122 (l1 1 (iI d) t Tya3 (n0 122 (c0 (d == 27) (n0 122 (m1 (.bool (d == 27)) (cd h (fun aU h=>?_) (fun aU h=>?_)))))))))))))))))
          ·refine n1 126 aU (fd 10 abi rfl (n1 126 aU (l1 1 (sl x c y) t ael (n1 126 aU (lS c.length aco (n1 126 aU ?_))))));obtain ⟨cx,eI,h⟩:=ob h;refine cv ([iI (c.length:Int),iI 1,iI 4]) adN ((acx k) eI (hG.mono t.sub) (pt t)) ?_;rintro _ go ⟨eJ,rfl,du⟩;have eL:=ca du t;exact n1 126 aU (uN cx (n0 122 (m3 true (.bool (!cx)) (cg aU) (m3 false (.bool (!cx)) rfl (wt (⟨_,eJ,(!cx),fR,(aj.sub.trans du.sub),(eL.sel [0,1]),h⟩))))))
          ·exact o1 126 aU (o1 126 aU (o1 126 aU (o1 126 aU (o1 126 aU (n0 122 (m3 false vN (cg aU) (m3 false vN rfl (wt (⟨_,bD,false,fR,aj.sub,(t.sel [0,1]),h⟩)))))))))
      ·rintro _ gp ⟨dp,bT,cS,rfl,aW,cU,h⟩;unfold acv at h;refine cd h (fun cV h=>?_) (fun cV h=>?_)
       ·refine cT cV (sr (m2 vN (wt (wp_ret (aaw ?_)))));have e_:=(Option.some.inj h).trans hr_;obtain ⟨eM,eN⟩:=Prod.mk.inj e_;obtain ⟨eO,eP,eQ⟩:=aac.mk.inj eM;subst eO;subst eP;subst eQ;subst eN;exact aas rfl (resT rfl) ⟨bT,rfl,(cU.sel [0])⟩
       ·refine cF cV (wp_skip (aae (wp_seq (sr (fd 10 abi rfl (l1 1 (sl x c y) cU ael (lS c.length aco (m1 (iI 0) (wt (wp_block (aaA (fun g_ a w=>∃ dv bE bF,∃ (am:Nat),∃ bU bV bW,g_=bF.length∧a=fr 192 (updL dv [(0,pp g 0),(2,iI l),(4,pp (zz wi) 0),(135,sl x c y),(136,iI (c.length:Int)),(137,iI (am:Int))])∧KH.sub bT bE∧SR K bE wi w [.box bs g #[iI aB,iI aG,.bool aH] 95] [.box bs g #[iI bU,iI bV,.bool bW] 95,.box (zz wi) (zz wi) (aS d m V e U ah W u X Y p Z ad B ae af C ag x c y) 37]∧c.drop am=bF∧aci k F u p B C c l bF am bU bV bW=some r_) c.length ?_ ?_)))))))))))
        ·exact ⟨_,bT,c,0,bA,bB,bC,rfl,fR,kr,cU,List.drop_zero,h⟩
        ·rintro _ _ dw ⟨dv,bE,bF,am,bU,bV,bW,rfl,rfl,aV,b6,bX,h⟩;rcases bF with _ | ⟨⟨aX,bo,bp,bq,br⟩,bF⟩
         ·unfold aci at h;refine sr (bcm (r:=false) rfl rfl (congrArg some (aaq bX)) (wt (wp_seq (cndF rfl (wp_exit (aaF (aaF (blkX (aae (aax (fun a w=>∃ dx cy cW cX cY cZ,a=fr 192 (updL dx [(6,.bool cW)])∧KH.sub bE cy∧SR K cy wi w [.box bs g #[iI aB,iI aG,.bool aH] 95] [.box bs g #[iI cX,iI cY,.bool cZ] 95]∧agb k F cW cX cY cZ=some r_) ?_ ?_))))))))))
          ·refine wp_region_lit (m1 (pp g 0) (fd 6 abE rfl (l1 1 (sl W u X) b6 acb (m1 (iI l) (bar (r:=(w64 (l + 1))) rfl rfl rfl ?_)))));obtain ⟨⟨⟨eR,eS,eT⟩,eU⟩,eV,h⟩:=ob h;refine cv ([pp g 0,sl W u X,iI (w64 (l + 1))]) arG ((aqU k) eV (hG.mono ((((f.trans S).trans ai).trans aW).trans aV)) (me cb ((((f.trans S).trans ai).trans aW).trans aV)) (pt b6)) ?_;rintro _ gq ⟨eX,rfl,bb⟩;have cz:=ca bb b6;refine m1 (.bool eU) (cd h (fun aw h=>?_) (fun aw h=>?_))
           ·refine n1 168 aw (m1 (pp g 0) (n1 168 aw (fd 7 abp rfl (n1 168 aw (l1 1 (sl Y p Z) cz abk (n1 168 aw (m1 (iI l) (n1 168 aw (bar (r:=(w64 (l + 1))) rfl rfl rfl (n1 168 aw ?_))))))))));obtain ⟨⟨⟨eY,eZ,e0⟩,dy⟩,e1,h⟩:=ob h;refine cv ([pp g 0,sl Y p Z,iI (w64 (l + 1))]) ak9 (IH119 e1 (hG.mono (((((f.trans S).trans ai).trans aW).trans aV).trans bb.sub)) (ms cc (((((f.trans S).trans ai).trans aW).trans aV).trans bb.sub)) (pt cz)) ?_;rintro _ gr ⟨e2,rfl,bG⟩;have cA:=ca bG cz;refine m3 true (.bool dy) (cg aw) (m1 (.bool dy) (cd h (fun ax h=>?_) (fun ax h=>?_)))
            ·refine n1 176 ax (m1 (pp g 0) (n1 176 ax (fd 8 acq rfl (n1 176 ax (l1 1 (sl ad B ae) cA abk (n1 176 ax (m1 (iI l) (n1 176 ax (bar (r:=(w64 (l + 1))) rfl rfl rfl (n1 176 ax ?_))))))))));obtain ⟨⟨⟨e3,e4,e5⟩,dz⟩,e6,h⟩:=ob h;refine cv ([pp g 0,sl ad B ae,iI (w64 (l + 1))]) ak9 (IH119 e6 (hG.mono ((((((f.trans S).trans ai).trans aW).trans aV).trans bb.sub).trans bG.sub)) (ms ce ((((((f.trans S).trans ai).trans aW).trans aV).trans bb.sub).trans bG.sub)) (pt cA)) ?_;rintro _ gs ⟨e7,rfl,b7⟩;have cB:=ca b7 cA;refine m3 true (.bool dz) (cg ax) (m1 (.bool dz) (cd h (fun ay h=>?_) (fun ay h=>?_)))
             ·refine n1 184 ay (m1 (pp g 0) (n1 184 ay (fd 9 acJ rfl (n1 184 ay (l1 1 (sl af C ag) cB abk (n1 184 ay (m1 (iI l) (n1 184 ay (bar (r:=(w64 (l + 1))) rfl rfl rfl (n1 184 ay ?_))))))))));obtain ⟨⟨⟨e8,e9,fa⟩,c2⟩,fb,h⟩:=ob h;refine cv ([pp g 0,sl af C ag,iI (w64 (l + 1))]) ak9 (IH119 fb (hG.mono (((((((f.trans S).trans ai).trans aW).trans aV).trans bb.sub).trans bG.sub).trans b7.sub)) (ms cf (((((((f.trans S).trans ai).trans aW).trans aV).trans bb.sub).trans bG.sub).trans b7.sub)) (pt cB)) ?_;rintro _ gt ⟨fc,rfl,dA⟩;have fe:=ca dA cB;exact m3 true (.bool c2) (cg ay) (m2 (.bool c2) (wt (⟨_,fc,c2,e8,e9,fa,fR,(((bb.sub.trans bG.sub).trans b7.sub).trans dA.sub),(fe.sel [0]),h⟩)))
             ·exact o1 184 ay (o1 184 ay (o1 184 ay (o1 184 ay (o1 184 ay (o1 184 ay (m3 false vN (cg ay) (m2 vN (wt (⟨_,e7,false,e3,e4,e5,fR,((bb.sub.trans bG.sub).trans b7.sub),(cB.sel [0]),h⟩)))))))))
            ·exact o1 176 ax (o1 176 ax (o1 176 ax (o1 176 ax (o1 176 ax (o1 176 ax (m3 false vN (cg ax) (m1 vN (o0 184 (o0 184 (o0 184 (o0 184 (o0 184 (o0 184 (m3 false vN rfl (m2 vN (wt (⟨_,e2,false,eY,eZ,e0,fR,(bb.sub.trans bG.sub),(cA.sel [0]),h⟩)))))))))))))))))
           ·exact o1 168 aw (o1 168 aw (o1 168 aw (o1 168 aw (o1 168 aw (o1 168 aw (m3 false vN (cg aw) (m1 vN (o0 176 (o0 176 (o0 176 (o0 176 (o0 176 (o0 176 (m3 false vN rfl (m1 vN (o0 184 (o0 184 (o0 184 (o0 184 (o0 184 (o0 184 (m3 false vN rfl (m2 vN (wt (⟨_,eX,false,eR,eS,eT,fR,bb.sub,(cz.sel [0]),h⟩)))))))))))))))))))))))))
          ·rintro _ gu ⟨dx,cy,cW,cX,cY,cZ,rfl,gv,ff,h⟩;unfold agb at h;refine wp_ret ?_;have e_:=(Option.some.inj h).trans hr_;obtain ⟨fg,fh⟩:=Prod.mk.inj e_;obtain ⟨fi,fj,fk⟩:=aac.mk.inj fg;subst fi;subst fj;subst fk;subst fh;exact aas rfl (resT rfl) ⟨cy,rfl,ff⟩
         ·unfold aci at h;refine sr (bcm (r:=true) rfl rfl (congrArg some (aar bX)) (wt (wp_seq (cndT rfl (wp_skip (aae (wp_seq (wp_block (sr (m1 (iI (am:Int)) ?_))))))))));obtain ⟨fl,fm,gw,fn,gx,fo,fp⟩:=((mc bY ((((f.trans S).trans ai).trans aW).trans aV))).row.at_ (aan bX);obtain ⟨bu,bv,bw,bx,rfl,dB,dC,dD⟩:=aaI.open fp;refine idxN (b:=fl) (o:=fm) (i:=am) aco act rfl fn rfl (aad bX) (lD (vC aX bo bp bu bq bv bw br bx) afO act rfl (fun j v hj=>b6.cell (kr.cell (fo j v hj))) (aC zC.toArray b6 aiC (fun gy fs=>(m2 (iI (am:Int)) (sI 0 (.agg (aC' aX bo bp bu bq bv bw br bx)) ((aC' aX bo bp bu bq bv bw br bx)) fs act rfl rfl (fun dE bL=>(wt (aax (fun a w=>∃ dF b8 cC cD cG c4,a=fr 192 (updL dF [(0,pp g 0),(2,iI l),(4,pp (zz wi) 0),(135,sl x c y),(136,iI (c.length:Int)),(137,iI (am:Int)),(160,.bool c4)])∧KH.sub bE b8∧SR K b8 wi w [.box bs g #[iI aB,iI aG,.bool aH] 95] [.box bs g #[iI cC,iI cD,.bool cG] 95,.box (zz wi) (zz wi) (aS d m V e U ah W u X Y p Z ad B ae af C ag x c y) 37]∧af0 k F am cC cD cG c4 (aci k F u p B C c l bF)=some r_) ?_ ?_))))))))
          ·refine wp_region_lit (fd 0 aht rfl (l1 0 (iI aX) bL Tya3 (c0 (aX == 4) (m1 (.bool (aX == 4)) (cd h (fun az h=>?_) (fun az h=>?_))))))
           ·refine n1 145 az (m1 (iI (am:Int)) (n1 145 az (fd 10 abi rfl (n1 145 az (l1 2 (sl x c y) bL ael (n1 145 az (lS c.length aco (n1 145 az (bar (r:=(w64 ((c.length:Int) - 1))) rfl rfl rfl (n1 145 az (c0 (decide ((am:Int) < (w64 ((c.length:Int) - 1)))) (m3 true (.bool (decide ((am:Int) < (w64 ((c.length:Int) - 1))))) (cg az) (m1 (.bool (decide ((am:Int) < (w64 ((c.length:Int) - 1))))) (cd h (fun aA h=>?_) (fun aA h=>?_)))))))))))))))
            ·exact o1 153 aA (o1 153 aA (o1 153 aA (o1 153 aA (o1 153 aA (o1 153 aA (m3 true vT (cg aA) (wt (⟨_,bE,bU,bV,bW,true,fR,kr,(bL.sel [1,2]),h⟩))))))))
            ·refine n1 153 aA (m1 (pp g 0) (n1 153 aA (lN 0 (vC aX bo bp bu bq bv bw br bx) bL afO act (n1 153 aA (m1 (iI l) (n1 153 aA (bar (r:=(w64 (l + 1))) rfl rfl rfl (n1 153 aA ?_))))))));have dG:=p102 bL;obtain ⟨⟨⟨ft,fu,fv⟩,c5⟩,fx,h⟩:=ob h;refine cv ([pp g 0,.agg (aC' aX bo bp bu bq bv bw br bx),iI (w64 (l + 1))]) arb (IH150 fx (hG.mono ((((f.trans S).trans ai).trans aW).trans aV)) (aaI.intro dB dC dD) (pt dG)) ?_;rintro _ gz ⟨fy,rfl,dH⟩;have fz:=ca dH dG;exact n1 153 aA (uN c5 (m3 false (.bool (!c5)) (cg aA) (wt (⟨_,fy,ft,fu,fv,(!c5),fR,dH.sub,(fz.sel [0,2]),h⟩))))
           ·refine o1 145 az (o1 145 az (o1 145 az (o1 145 az (o1 145 az (o1 145 az (m3 false vN (cg az) (m1 vN (n0 153 (m1 (pp g 0) (n0 153 (lN 0 (vC aX bo bp bu bq bv bw br bx) bL afO act (n0 153 (m1 (iI l) (n0 153 (bar (r:=(w64 (l + 1))) rfl rfl rfl (n0 153 ?_))))))))))))))));have dI:=p102 bL;obtain ⟨⟨⟨fA,fB,fC⟩,c7⟩,fD,h⟩:=ob h;refine cv ([pp g 0,.agg (aC' aX bo bp bu bq bv bw br bx),iI (w64 (l + 1))]) arb (IH150 fD (hG.mono ((((f.trans S).trans ai).trans aW).trans aV)) (aaI.intro dB dC dD) (pt dI)) ?_;rintro _ gA ⟨fE,rfl,dJ⟩;have fF:=ca dJ dI;exact n0 153 (uN c7 (m3 false (.bool (!c7)) rfl (wt (⟨_,fE,fA,fB,fC,(!c7),fR,dJ.sub,(fF.sel [0,2]),h⟩))))
          ·rintro _ gB ⟨dF,b8,cC,cD,cG,c4,rfl,fG,dK,h⟩;unfold af0 at h;refine cd h (fun c8 h=>?_) (fun c8 h=>?_)
           ·refine cT c8 (sr (m2 vN (wt (wp_ret (blkR (aaw (aaw (blkR (aaw ?_)))))))));have e_:=(Option.some.inj h).trans hr_;obtain ⟨fH,fI⟩:=Prod.mk.inj e_;obtain ⟨fJ,fK,fL⟩:=aac.mk.inj fH;subst fJ;subst fK;subst fL;subst fI;exact aas rfl (resT rfl) ⟨b8,rfl,(dK.sel [0])⟩
           ·exact cF c8 (wp_skip (blkN (aae (wp_region_lit (bar (r:=((am + 1:Nat):Int)) rfl rfl (aaY (aa1 (((mc bY ((((f.trans S).trans ai).trans aW).trans aV))).len) (by decide) (aad bX))) (m1 (iI ((am + 1:Nat):Int)) (wt (⟨_,Nat.lt_succ_self _,_,b8,bF,am + 1,cC,cD,cG,rfl,fR,(aV.trans fG),dK,aai bX,h⟩))))))))
end Go.Proofs.YtoegpkmhifmamaaGreatDoor
