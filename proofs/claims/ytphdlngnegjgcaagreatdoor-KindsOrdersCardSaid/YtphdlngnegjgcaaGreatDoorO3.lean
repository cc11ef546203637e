/- Words of the same proof, part 3: what the last text needs; nothing is claimed here. -/
import Derived.Test.YtphdlngnegjgcaaGreatDoorO2
set_option linter.unusedVariables false
set_option linter.unusedSimpArgs false
namespace Go.Proofs.YtphdlngnegjgcaaGreatDoor
open Go
def ae5 (k:Nat)  : LC→Nat→(List LS)→Option (List LS)
 | [],b,a=>(some a)
 | (.mk f g h i d) :: e,b,a=>(aaP (decide ((a.length + 1) * 24 ≤ 140737488355328)) ((ae5 k e) (b + 1) (a ++ [d])))
def aoi (k:Nat):aaf→Option (List LS):=fun a =>
 match a with
 | .mk g h i j l m n b d e f=>(ae5 k f 0 [b,d,e])
def f124 (k:Nat):aaf→Option (List LS):=aoi k
structure aeL where
 f92:LS→Option Bool
 f122:aaf→Option Bool
 f1006489:LS→Option Bool
 f1009189:LS→Option Int
 f1012326:(List LS)→Option Bool
 f1014826:(List LS)→Option Int
def avx (k:Nat) (F:aeL):LS→Option Bool:=fun a=>((F.f1006489 a).bind fun b=>(some b))
def afN (k:Nat) (F:aeL) (a:Bool):Option Bool:=(some a)
def aji (k:Nat) (F:aeL) (a:Int) (d:BA) (e:Int) (f:BA) (g:Int) (b:Int) (h:LE) (i:LS) (j:LS) (l:LS) (m:LC) (n:Bool):Option Bool:=(cond n (some false) (cond (a == 18) (afN k F true) (cond (a == 6) (cond (b == 1) (afN k F true) ((f124 k (aaf.mk a d e f g b h i j l m)).bind fun o=>((F.f1012326 o).bind fun p=>(afN k F p)))) ((f124 k (aaf.mk a d e f g b h i j l m)).bind fun q=>((F.f1012326 q).bind fun r=>(afN k F r))))))
def amY (k:Nat) (F:aeL):aaf→Option Bool:=fun n =>
 match n with
 | .mk a b d e f g h i j l m=>(cond (a == 21) (aji k F a b d e f g h i j l m true) (aji k F a b d e f g h i j l m (a == 28)))
def agZ (k:Nat) (F:aeL):LS→Option Bool:=fun a=>((F.f1009189 a).bind fun b=>(some (decide (b ≥ 0))))
def acb (k:Nat) (F:aeL)  : LS→Nat→Option Int
 | [],a=>(some (-1))
 | (.mk b d e f g h i j l m n) :: o,a=>((F.f122 (aaf.mk b d e f g h i j l m n)).bind fun p=>(cond p (some (a:Int)) ((acb k F o) (a + 1))))
def ag6 (k:Nat) (F:aeL):LS→Option Int:=fun a=>(acb k F a 0)
def ags (k:Nat) (F:aeL):(List LS)→Option Bool:=fun a=>((F.f1014826 a).bind fun b=>(some (decide (b ≥ 0))))
def acq (k:Nat) (F:aeL)  : List LS→Nat→Option Int
 | [],a=>(some (-1))
 | b :: d,a=>((F.f92 b).bind fun e=>(cond e (some (a:Int)) ((acq k F d) (a + 1))))
def agS (k:Nat) (F:aeL):(List LS)→Option Int:=fun a=>(acq k F a 0)
def ace (k0:Nat):Nat→aeL
 | 0=>{ f92:=fun _=>none,f122:=fun _=>none,f1006489:=fun _=>none,f1009189:=fun _=>none,f1012326:=fun _=>none,f1014826:=fun _=>none }
 | k + 1=>{ f92:=avx k0 (ace k0 k),f122:=amY k0 (ace k0 k),f1006489:=agZ k0 (ace k0 k),f1009189:=ag6 k0 (ace k0 k),f1012326:=ags k0 (ace k0 k),f1014826:=agS k0 (ace k0 k) }
def f92 (k:Nat):LS→Option Bool:=(ace k k).f92
def f122 (k:Nat):aaf→Option Bool:=(ace k k).f122
def f1006489 (k:Nat):LS→Option Bool:=(ace k k).f1006489
def f1009189 (k:Nat):LS→Option Int:=(ace k k).f1009189
def f1012326 (k:Nat):(List LS)→Option Bool:=(ace k k).f1012326
def f1014826 (k:Nat):(List LS)→Option Int:=(ace k k).f1014826
structure ac1 where
 f40:LS→Option Bool
 f65:aaf→Option Bool
 f94:aaz→Option Bool
 f1006449:LS→Option Bool
 f1009149:LS→Option Int
 f1009388:LC→Option Bool
 f1012547:LC→Unit→Option Bool
 f1012626:aaz→Unit→Option Bool
 f1014947:LC→Unit→Option Int
def avJ (k:Nat) (F:ac1):LS→Option Bool:=fun a=>((F.f1006449 a).bind fun b=>(some b))
def aju (k:Nat) (F:ac1) (a:Bool):Option Bool:=(some a)
def aj1 (k:Nat) (F:ac1) (a:Bool):Option Bool:=(some a)
def aja (k:Nat) (F:ac1) (a:Bool):Option Bool:=(some a)
def ajL (k:Nat) (F:ac1) (a:Int) (d:Int) (b:LS) (e:LS) (f:LS) (g:LC) (h:Bool):Option Bool:=(cond h ((F.f40 b).bind fun i=>(some i)) (cond (a == 24) ((F.f40 f).bind fun j=>(cond j (aja k F true) ((F.f40 b).bind fun l=>(cond l (cond ((IntKind.i64.wrap (BitVec.ofInt IntKind.i64.bits d &&& BitVec.ofInt IntKind.i64.bits 1).toNat) == 0) (aja k F true) ((F.f40 e).bind fun m=>(aja k F m))) (aja k F false))))) (cond (a == 27) ((F.f1009388 g).bind fun n=>(some n)) (some false))))
def ahT (k:Nat) (F:ac1) (a:Int) (d:Int) (h:LE) (b:LS) (e:LS) (f:LS) (g:LC) (i:Bool):Option Bool:=(cond i (some true) (cond (a == 20) (cond (d == 1) ((F.f40 b).bind fun j=>(cond j ((F.f40 e).bind fun l=>(aju k F l)) (aju k F false))) (aju k F false)) (cond (a == 21) ((idxO h 0).bind fun q_=>match q_ with | .mk m n p q r=>(cond (m == 2) (cond (n == 1) ((f92 k b).bind fun o=>(aj1 k F (!o))) (aj1 k F false)) (aj1 k F false))) (cond (a == 23) (ajL k F a d b e f g (a == 23)) (cond (a == 25) (ajL k F a d b e f g (a == 25)) (ajL k F a d b e f g (a == 26)))))))
def aqQ (k:Nat) (F:ac1):aaf→Option Bool:=fun i =>
 match i with
 | .mk a j l m n b d e f g h=>(cond (a == 17) (ahT k F a b d e f g h (a == 17)) (cond (a == 15) (ahT k F a b d e f g h (a == 15)) (cond (a == 18) (ahT k F a b d e f g h (a == 18)) (ahT k F a b d e f g h (a == 19)))))
def avQ (k:Nat) (F:ac1):aaz→Option Bool:=fun a =>
 match a with
 | .mk e f g h b=>((F.f40 b).bind fun d=>(some d))
def agQ (k:Nat) (F:ac1):LS→Option Bool:=fun a=>((F.f1009149 a).bind fun b=>(some (decide (b ≥ 0))))
def ab1 (k:Nat) (F:ac1)  : LS→Nat→Option Int
 | [],a=>(some (-1))
 | (.mk b d e f g h i j l m n) :: o,a=>((F.f65 (aaf.mk b d e f g h i j l m n)).bind fun p=>(cond p (some (a:Int)) ((ab1 k F o) (a + 1))))
def agA (k:Nat) (F:ac1):LS→Option Int:=fun a=>(ab1 k F a 0)
def agF (k:Nat) (F:ac1):LC→Option Bool:=fun a=>((F.f1012547 a ()).bind fun b=>(some (!b)))
def agY (k:Nat) (F:ac1):LC→Unit→Option Bool:=fun a _=>((F.f1014947 a ()).bind fun b=>(some (decide (b ≥ 0))))
def agW (k:Nat) (F:ac1):aaz→Unit→Option Bool:=fun a b =>
 match a,b with
 | .mk d e f g h,_=>((F.f94 (aaz.mk d e f g h)).bind fun i=>(some (!i)))
def ab8 (k:Nat) (F:ac1)  : LC→Nat→Option Int
 | [],a=>(some (-1))
 | (.mk b d e f g) :: h,a=>((F.f1012626 (aaz.mk b d e f g) ()).bind fun i=>(cond i (some (a:Int)) ((ab8 k F h) (a + 1))))
def agz (k:Nat) (F:ac1):LC→Unit→Option Int:=fun a _=>(ab8 k F a 0)
def abs (k0:Nat):Nat→ac1
 | 0=>{ f40:=fun _=>none,f65:=fun _=>none,f94:=fun _=>none,f1006449:=fun _=>none,f1009149:=fun _=>none,f1009388:=fun _=>none,f1012547:=fun _ _=>none,f1012626:=fun _ _=>none,f1014947:=fun _ _=>none }
 | k + 1=>{ f40:=avJ k0 (abs k0 k),f65:=aqQ k0 (abs k0 k),f94:=avQ k0 (abs k0 k),f1006449:=agQ k0 (abs k0 k),f1009149:=agA k0 (abs k0 k),f1009388:=agF k0 (abs k0 k),f1012547:=agY k0 (abs k0 k),f1012626:=agW k0 (abs k0 k),f1014947:=agz k0 (abs k0 k) }
def f40 (k:Nat):LS→Option Bool:=(abs k k).f40
def f65 (k:Nat):aaf→Option Bool:=(abs k k).f65
def f94 (k:Nat):aaz→Option Bool:=(abs k k).f94
def f1006449 (k:Nat):LS→Option Bool:=(abs k k).f1006449
def f1009149 (k:Nat):LS→Option Int:=(abs k k).f1009149
def f1009388 (k:Nat):LC→Option Bool:=(abs k k).f1009388
def f1012547 (k:Nat):LC→Unit→Option Bool:=(abs k k).f1012547
def f1012626 (k:Nat):aaz→Unit→Option Bool:=(abs k k).f1012626
def f1014947 (k:Nat):LC→Unit→Option Int:=(abs k k).f1014947
def ag9 (k:Nat)  : LP→Nat→(List Int)→Option (List Int)
 | [],b,a=>(some a)
 | (.mk f d) :: e,b,a=>(aaP (decide ((a.length + 1) * 8 ≤ 140737488355328)) ((ag9 k e) (b + 1) (a ++ [d])))
def atu (k:Nat):aac→Option (List Int):=fun a =>
 match a with
 | .mk d b e f g h=>(ag9 k b 0 ([]:List Int))
def f42 (k:Nat):aac→Option (List Int):=atu k
def f129 (k:Nat):LP→Option LP:=fun a=>aaP (decide (a.length * 24 ≤ 140737488355328)) (some a)
def aoc (k:Nat):aam→Option Int:=fun a =>
 match a with
 | .mk b d e f g=>(some 0)
def f157 (k:Nat):aam→Option Int:=aoc k
structure ade where
 f1015923:LE→Option LE
 f1017823:aam→Option aam
def abE (k:Nat) (F:ade)  : LE→Nat→LE→Option LE
 | [],b,a=>(some a)
 | (.mk d e f g h) :: i,b,a=>((F.f1017823 (aam.mk d e f g h)).bind fun q_=>match q_ with | .mk j l m n o=>(aaP (decide ((a.length + 1) * 64 ≤ 140737488355328)) ((abE k F i) (b + 1) (a ++ [(aam.mk j l m n o)]))))
def agB (k:Nat) (F:ade):LE→Option LE:=fun a=>(abE k F a 0 ([]:LE))
def adY (k:Nat) (F:ade):aam→Option aam:=fun f =>
 match f with
 | .mk a b d g h=>((F.f1015923 h).bind fun e=>((f157 k (aam.mk a b d g e)).bind fun i=>(some (aam.mk a b d i e))))
def abq (k0:Nat):Nat→ade
 | 0=>{ f1015923:=fun _=>none,f1017823:=fun _=>none }
 | k + 1=>{ f1015923:=agB k0 (abq k0 k),f1017823:=adY k0 (abq k0 k) }
def f1015923 (k:Nat):LE→Option LE:=(abq k k).f1015923
def f1017823 (k:Nat):aam→Option aam:=(abq k k).f1017823
def aqz (k:Nat):aam→Option Int:=fun a =>
 match a with
 | .mk d e f b g=>(some b)
def f158 (k:Nat):aam→Option Int:=aqz k
structure adf where
 f1015954:LE→Option LE
 f1017854:aam→Option aam
def adw (k:Nat) (F:adf)  : LE→Nat→LE→Option LE
 | [],b,a=>(some a)
 | (.mk d e f g h) :: i,b,a=>((F.f1017854 (aam.mk d e f g h)).bind fun q_=>match q_ with | .mk j l m n o=>(aaP (decide ((a.length + 1) * 64 ≤ 140737488355328)) ((adw k F i) (b + 1) (a ++ [(aam.mk j l m n o)]))))
def agr (k:Nat) (F:adf):LE→Option LE:=fun a=>(adw k F a 0 ([]:LE))
def ag4 (k:Nat) (F:adf):aam→Option aam:=fun f =>
 match f with
 | .mk a b d g h=>((F.f1015954 h).bind fun e=>((f158 k (aam.mk a b d g e)).bind fun i=>(some (aam.mk a b d i e))))
def acw (k0:Nat):Nat→adf
 | 0=>{ f1015954:=fun _=>none,f1017854:=fun _=>none }
 | k + 1=>{ f1015954:=agr k0 (acw k0 k),f1017854:=ag4 k0 (acw k0 k) }
def f1015954 (k:Nat):LE→Option LE:=(acw k k).f1015954
def f1017854 (k:Nat):aam→Option aam:=(acw k k).f1017854
structure aeY where
 f130:LS→Bool→Option LS
def akx (k:Nat) (F:aeY) (b:Bool) (a:LC) (d:Nat) (e:Int) (f:BA) (g:LE) (h:LS) (i:Int) (nx2:Nat→LC→Option LS):Option LS:=((f1015954 k g).bind fun j=>((F.f130 h b).bind fun l=>(aaP (decide ((a.length + 1) * 80 ≤ 140737488355328)) (nx2 (d + 1) (a ++ [(aaz.mk e f i j l)])))))
def afL (k:Nat) (F:aeY) (a:Bool) (b:LS) (e:Nat) (f:Int) (g:BA) (h:BA) (i:Int) (j:Int) (l:Int) (m:LE) (n:LS) (o:LS) (p:LS) (nx1:Nat→LS→Option LS):LC→Nat→LC→Option LS
 | [],q,d=>(aaP (decide ((b.length + 1) * 184 ≤ 140737488355328)) (nx1 (e + 1) (b ++ [(aaf.mk f g j h l i m n o p d)])))
 | (.mk r s x t u) :: v,q,d=>(cond (!a) (akx k F a d q r s t u 0 (afL k F a b e f g h i j l m n o p nx1 v)) (akx k F a d q r s t u x (afL k F a b e f g h i j l m n o p nx1 v)))
def akd (k:Nat) (F:aeY) (a:Bool) (b:LS) (d:Nat) (e:Int) (f:BA) (g:BA) (h:Int) (i:LE) (j:LS) (l:LS) (m:LS) (n:LC) (o:Int) (p:Int) (nx1:Nat→LS→Option LS):Option LS:=((f1015954 k i).bind fun q=>((F.f130 j a).bind fun r=>((F.f130 l a).bind fun s=>((F.f130 m a).bind fun t=>(afL k F a b d e f g h o p q r s t nx1 n 0 ([]:LC))))))
def aei (k:Nat) (F:aeY) (a:Bool):LS→Nat→LS→Option LS
 | [],d,b=>(some b)
 | (.mk e f p g q h i j l m n) :: o,d,b=>(cond (!a) (akd k F a b d e f g h i j l m n 0 0 (aei k F a o)) (akd k F a b d e f g h i j l m n p q (aei k F a o)))
def aje (k:Nat) (F:aeY) (b:Bool) (a:LC) (d:Nat) (e:Int) (f:BA) (g:LE) (h:LS) (i:Int) (nx4:Nat→LC→Option LS):Option LS:=((f1015923 k g).bind fun j=>((F.f130 h b).bind fun l=>(aaP (decide ((a.length + 1) * 80 ≤ 140737488355328)) (nx4 (d + 1) (a ++ [(aaz.mk e f i j l)])))))
def adN (k:Nat) (F:aeY) (a:Bool) (b:LS) (e:Nat) (f:Int) (g:BA) (h:BA) (i:Int) (j:Int) (l:Int) (m:LE) (n:LS) (o:LS) (p:LS) (nx3:Nat→LS→Option LS):LC→Nat→LC→Option LS
 | [],q,d=>(aaP (decide ((b.length + 1) * 184 ≤ 140737488355328)) (nx3 (e + 1) (b ++ [(aaf.mk f g j h l i m n o p d)])))
 | (.mk r s x t u) :: v,q,d=>(cond (!a) (aje k F a d q r s t u 0 (adN k F a b e f g h i j l m n o p nx3 v)) (aje k F a d q r s t u x (adN k F a b e f g h i j l m n o p nx3 v)))
def aiX (k:Nat) (F:aeY) (a:Bool) (b:LS) (d:Nat) (e:Int) (f:BA) (g:BA) (h:Int) (i:LE) (j:LS) (l:LS) (m:LS) (n:LC) (o:Int) (p:Int) (nx3:Nat→LS→Option LS):Option LS:=((f1015923 k i).bind fun q=>((F.f130 j a).bind fun r=>((F.f130 l a).bind fun s=>((F.f130 m a).bind fun t=>(adN k F a b d e f g h o p q r s t nx3 n 0 ([]:LC))))))
def acU (k:Nat) (F:aeY) (a:Bool):LS→Nat→LS→Option LS
 | [],d,b=>(some b)
 | (.mk e f p g q h i j l m n) :: o,d,b=>(cond (!a) (aiX k F a b d e f g h i j l m n 0 0 (acU k F a o)) (aiX k F a b d e f g h i j l m n p q (acU k F a o)))
def apP (k:Nat) (F:aeY):LS→Bool→Option LS:=fun b a=>(cond a (aei k F a b 0 ([]:LS)) (acU k F a b 0 ([]:LS)))
def ahn (k0:Nat):Nat→aeY
 | 0=>{ f130:=fun _ _=>none }
 | k + 1=>{ f130:=apP k0 (ahn k0 k) }
def f130 (k:Nat):LS→Bool→Option LS:=(ahn k k).f130
def ajb (k:Nat) (b:Bool) (a:LF) (d:Nat) (e:BA) (f:LP) (g:Int) (h:Bool) (i:LS) (j:Int) (nx1:Nat→LF→Option aaa):Option aaa:=((f129 k f).bind fun l=>((f130 k i b).bind fun m=>(aaP (decide ((a.length + 1) * 88 ≤ 140737488355328)) (nx1 (d + 1) (a ++ [(aac.mk e l g h j m)])))))
def adp (k:Nat) (a:Bool):LF→Nat→LF→Option aaa
 | [],d,b=>(some (aaa.mk b))
 | (.mk e f g h l i) :: j,d,b=>(cond (!a) (ajb k a b d e f g h i 0 (adp k a j)) (ajb k a b d e f g h i l (adp k a j)))
def aq4 (k:Nat):aaa→Bool→Option aaa:=fun b a =>
 match b,a with
 | .mk d,a=>(adp k a d 0 ([]:LF))
def f100 (k:Nat):aaa→Bool→Option aaa:=aq4 k
def awX (k:Nat):Bool→Int→Option (Except Int Unit):=fun a b=>(cond (!a) (some (.error b)) (some (.ok ())))
def f98 (k:Nat):Bool→Int→Option (Except Int Unit):=awX k
def apQ (k:Nat):Option (List (Int × aaI)):=(some (mput qI 29 (aaI.mk 0 false 1 1 false) (mput qI 28 (aaI.mk 1 true 0 601 true) (mput qI 27 (aaI.mk 0 false 0 0 false) (mput qI 26 (aaI.mk 0 false 1 1 true) (mput qI 25 (aaI.mk 1 false 1 1 true) (mput qI 24 (aaI.mk 2 false 0 0 true) (mput qI 23 (aaI.mk 0 false 0 0 true) (mput qI 22 (aaI.mk 0 false 0 1 true) (mput qI 21 (aaI.mk 0 false 1 1 true) (mput qI 20 (aaI.mk 0 false 1 1 true) (mput qI 19 (aaI.mk 0 false 0 0 false) (mput qI 18 (aaI.mk 0 false 0 0 false) (mput qI 17 (aaI.mk 0 false 0 1 false) (mput qI 16 (aaI.mk 0 false 1 1 false) (mput qI 15 (aaI.mk 0 false 1 1 false) (mput qI 14 (aaI.mk 0 false 1 1 false) (mput qI 13 (aaI.mk 0 false 0 0 false) (mput qI 12 (aaI.mk 0 false 1 1 false) (mput qI 11 (aaI.mk 0 false 1 1 false) (mput qI 10 (aaI.mk 0 false 2 2 false) (mput qI 9 (aaI.mk 1 false 0 0 false) (mput qI 8 (aaI.mk 1 false 1 1 false) (mput qI 7 (aaI.mk 1 false 1 1 false) (mput qI 6 (aaI.mk 2 false 1 1 false) (mput qI 5 (aaI.mk 2 false 1 1 false) (mput qI 4 (aaI.mk 2 true 0 601 false) (mput qI 3 (aaI.mk 2 true 0 601 false) (mput qI 2 (aaI.mk 1 false 1 1 false) (mput qI 1 (aaI.mk 1 false 1 1 false) ([]:List (Int × aaI))))))))))))))))))))))))))))))))
def f189 (k:Nat):Option (List (Int × aaI)):=apQ k
def amB (k:Nat) (a:Bool):Option Bool:=(some a)
def as0 (k:Nat):Int→Int→Int→Option Bool:=fun a b d=>(cond (decide (a ≥ b)) (amB k (decide (a ≤ d))) (amB k false))
def f77 (k:Nat):Int→Int→Int→Option Bool:=as0 k
def aek (k:Nat) (a:Bool):Option Bool:=(some a)
def acT (k:Nat) (d:LS) (a:LS) (e:Bool) (b:Bool) (f:Bool):Option Bool:=(cond f (cond e (cond b (aek k true) (aek k ((a.length:Int) == 0))) (cond ((d.length:Int) == 0) (cond b (aek k true) (aek k ((a.length:Int) == 0))) (aek k false))) (aek k false))
def ah9 (k:Nat) (a:Int) (b:LS) (d:LS) (e:Bool):Option Bool:=(acT k b d ((IntKind.i64.wrap (BitVec.ofInt IntKind.i64.bits a &&& BitVec.ofInt IntKind.i64.bits 1).toNat) == 1) ((IntKind.i64.wrap (BitVec.ofInt IntKind.i64.bits a &&& BitVec.ofInt IntKind.i64.bits 2).toNat) == 2) e)
def aoI (k:Nat):aaf→Option Bool:=fun g =>
 match g with
 | .mk e f o p q a r s b d t=>(cond (e == 6) ((f77 k a 0 1).bind fun h=>(cond h (cond (a == 0) (acT k b d false false true) (acT k b d false false (!seq f ⟨#[]⟩))) (acT k b d false false false))) (cond (e == 7) ((f77 k a 0 2).bind fun i=>(acT k b d false false i)) (cond (e == 22) ((f77 k a 0 1).bind fun j=>(acT k b d false false j)) (cond (e == 20) ((f77 k a 0 1).bind fun l=>(acT k b d (a == 1) false l)) (cond (e == 24) ((f77 k a 1 3).bind fun m=>(cond m (ah9 k a b d ((!seq f ⟨#[]⟩) == ((IntKind.i64.wrap (BitVec.ofInt IntKind.i64.bits a &&& BitVec.ofInt IntKind.i64.bits 1).toNat) == 1))) (ah9 k a b d false))) (cond (e == 28) ((f77 k a 0 66).bind fun n=>(cond n (acT k b d false false (decide ((a.tmod 4) < 3))) (acT k b d false false false))) (acT k b d false false (a == 0))))))))
def f190 (k:Nat):aaf→Option Bool:=aoI k
def amf (k:Nat) (a:Int) (b:Int) (d:Bool) (e:Int) (f:Bool):Option (aae × Bool):=(some ((aae.mk (w64 (a + 1)) (imax b e) d),f))
def asS (k:Nat):aae→Int→Option (aae × Bool):=fun f a =>
 match f,a with
 | .mk b d e,a=>(cond (decide ((w64 (b + 1)) ≤ 600)) (amf k b d e a (decide (a ≤ 16))) (amf k b d e a false))
def f76 (k:Nat):aae→Int→Option (aae × Bool):=asS k
def ah7 (k:Nat) (a:Bool):Option Bool:=(some a)
def aoH (k:Nat):Int→Option Bool:=fun a=>(cond (decide (a ≥ 97)) (ah7 k (decide (a ≤ 122))) (ah7 k false))
def f135 (k:Nat):Int→Option Bool:=aoH k
def ajd (k:Nat) (a:Bool):Option Bool:=(some a)
def ao4 (k:Nat):Int→Option Bool:=fun a=>(cond (decide (a ≥ 48)) (ajd k (decide (a ≤ 57))) (ajd k false))
def f136 (k:Nat):Int→Option Bool:=ao4 k
def agw (k:Nat) (a:Nat) (b:Bool) (nx1:Nat→Option Bool):Option Bool:=(cond b (some false) (nx1 (a + 1)))
def adx (k:Nat) (b:BA):List UInt8→Nat→Option Bool
 | [],a=>(some (!seq b ⟨#[]⟩))
 | e :: d,a=>((f135 k (e.toNat:Int)).bind fun f=>(cond (!f) (cond ((a:Int) == 0) (agw k a true (adx k b d)) ((f136 k (e.toNat:Int)).bind fun g=>(agw k a (!g) (adx k b d)))) (agw k a false (adx k b d))))
def aoV (k:Nat):BA→Option Bool:=fun a=>(adx k a a.data.toList 0)
def f111 (k:Nat):BA→Option Bool:=aoV k
def afJ (k:Nat) (b:BA):LB→Nat→Option Int
 | [],a=>(some (-1))
 | d :: e,a=>(cond (seq b d) (some (a:Int)) ((afJ k b e) (a + 1)))
def aoy (k:Nat):LB→BA→Option Int:=fun a b=>(afJ k b a 0)
def f165 (k:Nat):LB→BA→Option Int:=aoy k
def aoK (k:Nat):LB→BA→Option Bool:=fun a b=>((f165 k a b).bind fun d=>(some (decide (d ≥ 0))))
def f137 (k:Nat):LB→BA→Option Bool:=aoK k
def acL:LB:=[⟨#[97,102,116,101,114]⟩,⟨#[97,119,97,105,116]⟩,⟨#[98,111,111,108]⟩,⟨#[98,114,101,97,107]⟩,⟨#[98,117,102,102,101,114]⟩,⟨#[99,97,110,99,101,108]⟩,⟨#[99,97,116,99,104]⟩,⟨#[99,104,97,110]⟩,⟨#[99,108,111,115,101]⟩,⟨#[99,111,110,116,105,110,117,101]⟩,⟨#[100,114,111,112]⟩,⟨#[101,97,99,104]⟩,⟨#[101,108,115,101]⟩,⟨#[101,109,105,116]⟩,⟨#[102,97,108,115,101]⟩,⟨#[102,105,110,97,108,108,121]⟩,⟨#[102,108,111,119]⟩,⟨#[102,110]⟩,⟨#[102,114,111,109]⟩,⟨#[104,111,108,100]⟩,⟨#[105,102]⟩,⟨#[105,110,116]⟩,⟨#[108,101,116]⟩,⟨#[108,111,99,107]⟩,⟨#[110,101,119]⟩,⟨#[110,111,119]⟩,⟨#[111,108,100]⟩,⟨#[112,114,111,100,117,99,101]⟩,⟨#[114,101,99,101,105,118,101]⟩,⟨#[114,101,116,117,114,110]⟩,⟨#[115,99,111,112,101]⟩,⟨#[115,101,108,101,99,116]⟩,⟨#[115,101,110,100]⟩,⟨#[115,104,105,101,108,100]⟩,⟨#[115,108,101,101,112]⟩,⟨#[115,112,97,119,110]⟩,⟨#[115,117,112,101,114,118,105,115,101,100]⟩,⟨#[116,97,115,107]⟩,⟨#[116,101,120,116]⟩,⟨#[116,104,114,111,119]⟩,⟨#[116,114,117,101]⟩,⟨#[116,114,121]⟩,⟨#[117,115,101]⟩,⟨#[119,104,105,108,101]⟩,⟨#[119,105,116,104,105,110]⟩,⟨#[121,105,101,108,100]⟩]
def f138 (k:Nat):Option LB:=some acL
def aoQ (k:Nat):BA→Option Bool:=fun a=>((f138 k ).bind fun b=>((f137 k b a).bind fun d=>(some d)))
def f112 (k:Nat):BA→Option Bool:=aoQ k
def ajH (k:Nat) (a:Bool):Option Bool:=(some a)
def att (k:Nat):BA→Option Bool:=fun a=>((f111 k a).bind fun b=>(cond b (cond (decide ((a.size:Int) ≤ 12)) ((f112 k a).bind fun d=>(ajH k (!d))) (ajH k false)) (ajH k false)))
def f79 (k:Nat):BA→Option Bool:=att k
def ah8 (k:Nat) (a:Nat) (b:Bool) (nx1:Nat→Option Bool):Option Bool:=(cond b (some false) (nx1 (a + 1)))
def ad7 (k:Nat) (a:BA):List UInt8→Nat→Option Bool
 | [],b=>(some (decide ((a.size:Int) ≤ 60)))
 | d :: e,b=>(cond (decide ((d.toNat:Int) < 32)) (ah8 k b true (ad7 k a e)) (ah8 k b (decide ((d.toNat:Int) > 126)) (ad7 k a e)))
def avL (k:Nat):BA→Option Bool:=fun a=>(ad7 k a a.data.toList 0)
def f95 (k:Nat):BA→Option Bool:=avL k
def f78 (k:Nat):BA→Option Bool:=fun a=>f95 k a
structure agP where
 f53:aae→aam→Int→Option (aae × Bool)
 f80:aae→LE→Int→Option (aae × Bool)
def aiU (k:Nat) (F:agP) (a:Bool) (b:Int) (d:Int) (e:Bool):Option (aae × Bool):=(some ((aae.mk b d e),a))
def ac6 (k:Nat) (F:agP) (e:LE) (f:Int) (a:Int) (b:Int) (d:Bool) (g:Int) (h:Bool):Option (aae × Bool):=(cond h (cond ((e.length:Int) == g) ((F.f80 (aae.mk a b d) e (w64 (f + 1))).bind fun q_=>match q_ with | (.mk i j l,m)=>(aiU k F m i j l)) (aiU k F false a b d)) (aiU k F false a b d))
def al1 (k:Nat) (F:agP) (a:LE) (b:Int) (d:Int) (e:Int) (f:Bool) (g:Bool):Option (aae × Bool):=(ac6 k F a b d e f 1 g)
def aj0 (k:Nat) (F:agP) (a:LE) (b:Int) (d:Int) (e:Int) (f:Bool) (g:Bool):Option (aae × Bool):=(ac6 k F a b d e f 2 g)
def amw (k:Nat) (F:agP) (i:Int) (g:Int) (h:BA) (a:LE) (b:Int) (d:Int) (e:Int) (f:Bool) (j:Bool):Option (aae × Bool):=(cond j (cond (g == 0) (al1 k F a b d e f (seq h ⟨#[]⟩)) (al1 k F a b d e f false)) ((f77 k i 7 19).bind fun l=>(cond l (cond (g == 0) (aj0 k F a b d e f (seq h ⟨#[]⟩)) (aj0 k F a b d e f false)) (aj0 k F a b d e f false))))
def ahc (k:Nat) (F:agP) (g:Int) (h:Int) (i:BA) (e:LE) (f:Int) (a:Int) (b:Int) (d:Bool) (j:Bool):Option (aae × Bool):=(cond j (some ((aae.mk a b d),false)) (cond (g == 1) ((f77 k h 0 1000000000000).bind fun l=>(cond l (ac6 k F e f a b d 0 (seq i ⟨#[]⟩)) (ac6 k F e f a b d 0 false))) (cond (g == 2) ((f77 k h 0 1).bind fun m=>(cond m (ac6 k F e f a b d 0 (seq i ⟨#[]⟩)) (ac6 k F e f a b d 0 false))) (cond (g == 3) (cond (h == 0) ((f78 k i).bind fun n=>(ac6 k F e f a b d 0 n)) (ac6 k F e f a b d 0 false)) (cond (g == 4) (cond (h == 0) ((f79 k i).bind fun o=>(ac6 k F e f a b d 0 o)) (ac6 k F e f a b d 0 false)) (cond (g == 5) (amw k F g h i e f a b d (g == 5)) (amw k F g h i e f a b d (g == 6))))))))
def arP (k:Nat) (F:agP):aae→aam→Int→Option (aae × Bool):=fun j l a =>
 match j,l,a with
 | .mk m n o,.mk d e f p g,a=>((f76 k (aae.mk m n o) a).bind fun q_=>match q_ with | (.mk h i b,q)=>(cond (!q) (ahc k F d e f g a h i b true) (cond (p != 0) (ahc k F d e f g a h i b (!b)) (ahc k F d e f g a h i b false))))
def ahi (k:Nat) (F:agP) (e:Int):LE→Nat→Int→Int→Bool→Option (aae × Bool)
 | [],f,a,b,d=>(some ((aae.mk a b d),true))
 | (.mk j l m n o) :: p,f,a,b,d=>((F.f53 (aae.mk a b d) (aam.mk j l m n o) e).bind fun q_=>match q_ with | (.mk g h i,q)=>(cond (!q) (some ((aae.mk g h i),false)) ((ahi k F e p) (f + 1) g h i)))
def au4 (k:Nat) (F:agP):aae→LE→Int→Option (aae × Bool):=fun d a b =>
 match d,a,b with
 | .mk e f g,a,b=>(ahi k F b a 0 e f g)
def afW (k0:Nat):Nat→agP
 | 0=>{ f53:=fun _ _ _=>none,f80:=fun _ _ _=>none }
 | k + 1=>{ f53:=arP k0 (afW k0 k),f80:=au4 k0 (afW k0 k) }
def f53 (k:Nat):aae→aam→Int→Option (aae × Bool):=(afW k k).f53
def f80 (k:Nat):aae→LE→Int→Option (aae × Bool):=(afW k k).f80
structure acJ where
 f156:aae→LS→Int→Option (aae × Bool)
 f177:aae→aaf→Int→Option (aae × Bool)
 f191:aae→aaz→Int→Option (aae × Bool)
def aeM (k:Nat) (F:acJ) (e:Int):LS→Nat→Int→Int→Bool→Option (aae × Bool)
 | [],f,a,b,d=>(some ((aae.mk a b d),true))
 | (.mk j l m n o p q r s t u) :: v,f,a,b,d=>((F.f177 (aae.mk a b d) (aaf.mk j l m n o p q r s t u) e).bind fun q_=>match q_ with | (.mk g h i,x)=>(cond (!x) (some ((aae.mk g h i),false)) ((aeM k F e v) (f + 1) g h i)))
def aqE (k:Nat) (F:acJ):aae→LS→Int→Option (aae × Bool):=fun d a b =>
 match d,a,b with
 | .mk e f g,a,b=>(aeM k F b a 0 e f g)
def agG (k:Nat) (F:acJ) (a:Bool) (b:Int) (d:Int) (e:Bool):Option (aae × Bool):=(some ((aae.mk b d e),a))
def ag2 (k:Nat) (F:acJ) (e:Nat) (a:Int) (b:Int) (d:Bool) (f:Bool) (nx1:Nat→Int→Int→Bool→Option (aae × Bool)):Option (aae × Bool):=(cond f (some ((aae.mk a b d),false)) (nx1 (e + 1) a b d))
def aci (k:Nat) (F:acJ) (g:LE) (h:LS) (i:LS) (j:LS) (l:LC) (a:Int):LC→Nat→Int→Int→Bool→Option (aae × Bool)
 | [],b,d,e,f=>((f80 k (aae.mk d e f) g (w64 (a + 1))).bind fun q_=>match q_ with | (.mk o p q,C)=>(cond C ((F.f156 (aae.mk o p q) h (w64 (a + 1))).bind fun q_=>match q_ with | (.mk r s t,D)=>(cond D ((F.f156 (aae.mk r s t) i (w64 (a + 1))).bind fun q_=>match q_ with | (.mk u v x,G)=>(cond G ((F.f156 (aae.mk u v x) j (w64 (a + 1))).bind fun q_=>match q_ with | (.mk I J N,O)=>(agG k F O I J N)) (agG k F false u v x))) (agG k F false r s t))) (agG k F false o p q)))
 | (.mk m y z A B) :: n,b,d,e,f=>(cond (m == 4) (cond (decide ((b:Int) < (w64 ((l.length:Int) - 1)))) (ag2 k F b d e f true (aci k F g h i j l a n)) ((F.f191 (aae.mk d e f) (aaz.mk m y z A B) (w64 (a + 1))).bind fun q_=>match q_ with | (.mk S U V,W)=>(ag2 k F b S U V (!W) (aci k F g h i j l a n)))) ((F.f191 (aae.mk d e f) (aaz.mk m y z A B) (w64 (a + 1))).bind fun q_=>match q_ with | (.mk X Y Z,ab)=>(ag2 k F b X Y Z (!ab) (aci k F g h i j l a n))))
def acs (k:Nat) (F:acJ) (f:LE) (g:LS) (h:LS) (i:LS) (a:LC) (j:Int) (b:Int) (d:Int) (e:Bool) (l:Bool):Option (aae × Bool):=(cond l (some ((aae.mk b d e),false)) (aci k F f g h i a j a 0 b d e))
def abA (k:Nat) (F:acJ) (l:Int) (b:LE) (d:LS) (h:LS) (i:LS) (a:LC) (j:Int) (m:Int) (n:Int) (o:Bool) (e:Int) (f:Int) (g:Bool) (p:Bool):Option (aae × Bool):=(cond p (some ((aae.mk e f g),false)) ((f77 k (b.length:Int) m n).bind fun q=>(cond (!q) (acs k F b d h i a j e f g true) (cond (!o) (cond (decide ((d.length:Int) > 0)) (acs k F b d h i a j e f g true) (cond (l != 27) (cond (decide ((a.length:Int) > 0)) (acs k F b d h i a j e f g true) (cond (l == 27) ((f77 k (a.length:Int) 1 4).bind fun r=>(acs k F b d h i a j e f g (!r))) (acs k F b d h i a j e f g false))) (cond (l == 27) ((f77 k (a.length:Int) 1 4).bind fun s=>(acs k F b d h i a j e f g (!s))) (acs k F b d h i a j e f g false)))) (cond (l != 27) (cond (decide ((a.length:Int) > 0)) (acs k F b d h i a j e f g true) (cond (l == 27) ((f77 k (a.length:Int) 1 4).bind fun t=>(acs k F b d h i a j e f g (!t))) (acs k F b d h i a j e f g false))) (cond (l == 27) ((f77 k (a.length:Int) 1 4).bind fun u=>(acs k F b d h i a j e f g (!u))) (acs k F b d h i a j e f g false)))))))
def adh (k:Nat) (F:acJ) (e:Int) (r:BA) (p:BA) (f:LE) (g:LS) (h:LS) (i:LS) (j:LC) (l:Int) (s:Int) (q:Bool) (m:Int) (n:Int) (o:Bool) (a:Int) (b:Int) (d:Bool) (t:Bool):Option (aae × Bool):=(cond t (some ((aae.mk a b d),false)) (cond (!seq r ⟨#[]⟩) (cond (s == 0) (abA k F e f g h i j l m n o a b d true) ((f79 k r).bind fun u=>(cond (!u) (abA k F e f g h i j l m n o a b d true) (cond (!(!seq r ⟨#[]⟩)) (cond (s == 1) (abA k F e f g h i j l m n o a b d true) (cond (!((!seq p ⟨#[]⟩) == q)) (abA k F e f g h i j l m n o a b d true) (cond q ((f79 k p).bind fun v=>(abA k F e f g h i j l m n o a b d (!v))) (abA k F e f g h i j l m n o a b d false)))) (cond (!((!seq p ⟨#[]⟩) == q)) (abA k F e f g h i j l m n o a b d true) (cond q ((f79 k p).bind fun x=>(abA k F e f g h i j l m n o a b d (!x))) (abA k F e f g h i j l m n o a b d false))))))) (cond (!(!seq r ⟨#[]⟩)) (cond (s == 1) (abA k F e f g h i j l m n o a b d true) (cond (!((!seq p ⟨#[]⟩) == q)) (abA k F e f g h i j l m n o a b d true) (cond q ((f79 k p).bind fun y=>(abA k F e f g h i j l m n o a b d (!y))) (abA k F e f g h i j l m n o a b d false)))) (cond (!((!seq p ⟨#[]⟩) == q)) (abA k F e f g h i j l m n o a b d true) (cond q ((f79 k p).bind fun z=>(abA k F e f g h i j l m n o a b d (!z))) (abA k F e f g h i j l m n o a b d false))))))
def afO (k:Nat) (F:acJ) (x:Int) (y:Int) (z:Bool) (a:Int) (b:BA) (t:Int) (d:BA) (u:Int) (v:Int) (e:LE) (f:LS) (g:LS) (h:LS) (i:LC) (j:Int) (m:Int) (n:Bool) (o:Int) (p:Int) (q:Bool) (A:Bool):Option (aae × Bool):=(cond (!A) (adh k F a b d e f g h i j m n o p q x y z true) ((f76 k (aae.mk x y z) j).bind fun q_=>match q_ with | (.mk r s l,B)=>(cond (!B) (adh k F a b d e f g h i j m n o p q r s l true) (cond (t != 0) (cond (!l) (adh k F a b d e f g h i j m n o p q r s l true) ((f190 k (aaf.mk a b t d u v e f g h i)).bind fun C=>(adh k F a b d e f g h i j m n o p q r s l (!C)))) (cond (u != 0) (cond (!l) (adh k F a b d e f g h i j m n o p q r s l true) ((f190 k (aaf.mk a b t d u v e f g h i)).bind fun D=>(adh k F a b d e f g h i j m n o p q r s l (!D)))) ((f190 k (aaf.mk a b t d u v e f g h i)).bind fun G=>(adh k F a b d e f g h i j m n o p q r s l (!G))))))))
def am2 (k:Nat) (F:acJ):aae→aaf→Int→Option (aae × Bool):=fun r s a =>
 match r,s,a with
 | .mk d e f,.mk b g h i j l m n o p q,a=>((f189 k ).bind fun t=>(afw (mget qI b t) (afO k F d e f b g h i j l m n o p q a 0 false 0 0 false false) (fun q_=>match q_ with | .mk u v x y z=>(afO k F d e f b g h i j l m n o p q a u v x y z true))))
def alv (k:Nat) (F:acJ) (a:Bool) (b:Int) (d:Int) (e:Bool):Option (aae × Bool):=(some ((aae.mk b d e),a))
def acr (k:Nat) (F:acJ) (i:LE) (j:LS) (a:Int) (b:Int) (d:Int) (e:Bool) (l:Bool):Option (aae × Bool):=(cond l (some ((aae.mk b d e),false)) ((f80 k (aae.mk b d e) i (w64 (a + 1))).bind fun q_=>match q_ with | (.mk f g h,m)=>(cond m ((F.f156 (aae.mk f g h) j (w64 (a + 1))).bind fun q_=>match q_ with | (.mk n o p,q)=>(alv k F q n o p)) (alv k F false f g h))))
def ajP (k:Nat) (F:acJ):aae→aaz→Int→Option (aae × Bool):=fun o p a =>
 match o,p,a with
 | .mk j l m,.mk i h q b e,a=>(afw (mget qI i (mput qI 4 0 (mput qI 3 1 (mput qI 2 2 (mput qI 1 1 ([]:List (Int × Int))))))) (some ((aae.mk j l m),false)) (fun n=>((f76 k (aae.mk j l m) a).bind fun q_=>match q_ with | (.mk f g d,r)=>(cond (!r) (acr k F b e a f g d true) (cond (q != 0) (cond (!d) (acr k F b e a f g d true) (cond ((b.length:Int) != n) (acr k F b e a f g d true) (cond (!((!seq h ⟨#[]⟩) == (i == 1))) (acr k F b e a f g d true) (cond (!seq h ⟨#[]⟩) ((f79 k h).bind fun s=>(acr k F b e a f g d (!s))) (acr k F b e a f g d false))))) (cond ((b.length:Int) != n) (acr k F b e a f g d true) (cond (!((!seq h ⟨#[]⟩) == (i == 1))) (acr k F b e a f g d true) (cond (!seq h ⟨#[]⟩) ((f79 k h).bind fun t=>(acr k F b e a f g d (!t))) (acr k F b e a f g d false)))))))))
def abW (k0:Nat):Nat→acJ
 | 0=>{ f156:=fun _ _ _=>none,f177:=fun _ _ _=>none,f191:=fun _ _ _=>none }
 | k + 1=>{ f156:=aqE k0 (abW k0 k),f177:=am2 k0 (abW k0 k),f191:=ajP k0 (abW k0 k) }
def f156 (k:Nat):aae→LS→Int→Option (aae × Bool):=(abW k k).f156
def f177 (k:Nat):aae→aaf→Int→Option (aae × Bool):=(abW k k).f177
def f191 (k:Nat):aae→aaz→Int→Option (aae × Bool):=(abW k k).f191
def aii (k:Nat) (a:Int) (b:Int) (d:Bool) (e:Nat) (f:Bool) (nx2:Nat→Option (aae × Bool)):Option (aae × Bool):=(cond f (some ((aae.mk a b d),false)) (nx2 (e + 1)))
def acA (k:Nat) (e:Nat) (f:LS) (a:Int) (b:Int) (d:Bool) (nx1:Nat→Int→Int→Bool→Option (aae × Bool)):LP→Nat→Option (aae × Bool)
 | [],g=>((f156 k (aae.mk a b d) f 1).bind fun q_=>match q_ with | (.mk h i j,m)=>(cond (!m) (some ((aae.mk h i j),false)) (nx1 (e + 1) h i j)))
 | (.mk n o) :: l,g=>((f79 k n).bind fun p=>(cond (!p) (aii k a b d g true (acA k e f a b d nx1 l)) ((f77 k o 1 6).bind fun q=>(aii k a b d g (!q) (acA k e f a b d nx1 l)))))
def acF (k:Nat) (e:Nat) (f:LP) (g:LS) (a:Int) (b:Int) (d:Bool) (h:Bool) (nx1:Nat→Int→Int→Bool→Option (aae × Bool)):Option (aae × Bool):=(cond h (some ((aae.mk a b d),false)) (acA k e g a b d nx1 f 0))
def abu (k:Nat)  : LF→Nat→Int→Int→Bool→Option (aae × Bool)
 | [],a,j,l,m=>(some ((aae.mk j l m),true))
 | (.mk o b i n p e) :: f,a,j,l,m=>((f76 k (aae.mk j l m) 0).bind fun q_=>match q_ with | (.mk g h d,q)=>(cond (!q) (acF k a b e g h d true (abu k f)) ((f79 k o).bind fun r=>(cond (!r) (acF k a b e g h d true (abu k f)) (cond (decide ((b.length:Int) > 4)) (acF k a b e g h d true (abu k f)) (cond (p != 0) (cond (!d) (acF k a b e g h d true (abu k f)) (cond n (cond (i != 0) (acF k a b e g h d true (abu k f)) ((f77 k i 0 6).bind fun s=>(acF k a b e g h d (!s) (abu k f)))) ((f77 k i 0 6).bind fun t=>(acF k a b e g h d (!t) (abu k f))))) (cond n (cond (i != 0) (acF k a b e g h d true (abu k f)) ((f77 k i 0 6).bind fun u=>(acF k a b e g h d (!u) (abu k f)))) ((f77 k i 0 6).bind fun v=>(acF k a b e g h d (!v) (abu k f))))))))))
def aoo (k:Nat):aae→aaa→Option (aae × Bool):=fun f g =>
 match f,g with
 | .mk a b d,.mk e=>((f77 k (e.length:Int) 1 16).bind fun h=>(cond (!h) (some ((aae.mk a b d),false)) (abu k e 0 a b d)))
def f128 (k:Nat):aae→aaa→Option (aae × Bool):=aoo k
def atf (k:Nat):aaa→Bool→Option Bool:=fun b a =>
 match b,a with
 | .mk d,a=>((f128 k (aae.mk 0 0 a) (aaa.mk d)).bind fun q_=>match q_ with | (.mk f g h,e)=>(some e))
def f99 (k:Nat):aaa→Bool→Option Bool:=atf k
def asG (k:Nat):aaa→Option (Except Int aaa):=fun b =>
 match b with
 | .mk a=>((f99 k (aaa.mk a) true).bind fun d=>((f98 k d 2).bind fun q_=>match q_ with | .error c_=>some (.error c_) | .ok _=>((f100 k (aaa.mk a) false).bind fun q_=>match q_ with | .mk e=>(some (.ok (aaa.mk e))))))
def f70 (k:Nat):aaa→Option (Except Int aaa):=asG k
def afj (k:Nat):aaa→aaa→Option (Except Int (aaa × aaa)):=fun b d =>
 match b,d with
 | .mk a,.mk sA_0=>((f70 k (aaa.mk a)).bind fun q_=>match q_ with | .error c_=>some (.error c_) | .ok (.mk e)=>(some (.ok ((aaa.mk a),(aaa.mk e)))))
def ahD (k:Nat):aaa→aaa→Option (Except Int (aaa × aaa)):=afj k
def ahC (k:Nat):aaa→aaa→Option (aaa × aaa × Int):=fun a b=>match ahD k a b with
 | none=>none
 | some (.ok (y0,y1))=>some (y0,y1,0)
 | some (.error c)=>some (a,b,c)
def atM (k:Nat):aaa→Option (aaa × Int):=fun a =>
 match a with
 | .mk b=>((ahC k (aaa.mk b) (aaa.mk [])).bind fun q_=>match q_ with | (.mk f,.mk d,e)=>(some ((aaa.mk d),e)))
def f46 (k:Nat):aaa→Option (aaa × Int):=atM k
def afd (k:Nat):aac→aac→Option Bool:=fun a b =>
 match a,b with
 | .mk d f g h i j,.mk e l m n o p=>(some (seq e d))
def akv (k:Nat):aac→aac→Option Bool:=afd k
def acu (k:Nat) (b:BA) (d:LP) (e:Int) (f:Bool) (g:Int) (h:LS):LF→Nat→Option Int
 | [],a=>(some (-1))
 | (.mk i j l m n o) :: p,a=>((akv k (aac.mk i j l m n o) (aac.mk b d e f g h)).bind fun q=>(cond q (some (a:Int)) ((acu k b d e f g h p) (a + 1))))
def aff (k:Nat):LF→aac→Option Int:=fun a b =>
 match a,b with
 | a,.mk d e f g h i=>(acu k d e f g h i a 0)
def alb (k:Nat):LF→aac→Option Int:=aff k
def afk (k:Nat):LF→aac→Option Bool:=fun a b =>
 match a,b with
 | a,.mk d e f g h i=>((alb k a (aac.mk d e f g h i)).bind fun j=>(some (decide (j ≥ 0))))
def af8 (k:Nat):LF→aac→Option Bool:=afk k
def afV (k:Nat) (a:BA):LM→Nat→Option (Int × Bool)
 | [],b=>(some (0,false))
 | d :: e,b=>(afw (mget seq a d) ((afV k a e) (b + 1)) (fun f=>(some (f,true))))
def arJ (k:Nat):aad→BA→Option (Int × Bool):=fun b a =>
 match b,a with
 | .mk (.mk e) (.mk f g h i j l) m d n,a=>(afV k a d 0)
def f160 (k:Nat):aad→BA→Option (Int × Bool):=arJ k
def aoF (k:Nat):aad→BA→Option (Except Int (aad × Int)):=fun n a =>
 match n,a with
 | .mk (.mk e) (.mk f g h i j l) b d m,a=>((f160 k (aad.mk (aaa.mk e) (aac.mk f g h i j l) b d m) a).bind fun q_=>match q_ with | (q,o)=>((f98 k (!o) 21).bind fun q_=>match q_ with | .error c_=>some (.error c_) | .ok _=>(aaP (decide ((b.length + 1) * 16 ≤ 140737488355328)) ((idxO d (w64 ((d.length:Int) - 1))).bind fun p=>(some (.ok ((aad.mk (aaa.mk e) (aac.mk f g h i j l) (b ++ [a]) (d.set (w64 ((d.length:Int) - 1)).toNat (mput seq a (b.length:Int) p)) m),(b.length:Int))))))))
def f133 (k:Nat):aad→BA→Option (Except Int (aad × Int)):=aoF k
def ae9 (k:Nat):aam→aad→Option (Except Int Int):=fun a b =>
 match a,b with
 | .mk d s e t u,.mk (.mk f) (.mk g h i j l m) n o p=>(cond (d != 4) (some (.ok 0)) ((f160 k (aad.mk (aaa.mk f) (aac.mk g h i j l m) n o p) e).bind fun q_=>match q_ with | (q,r)=>((f98 k r 20).bind fun q_=>match q_ with | .error c_=>some (.error c_) | .ok _=>(some (.ok q)))))
def akO (k:Nat):aam→aad→Option (Except Int Int):=ae9 k
structure adg where
 f1015988:LE→aad→Option (Except Int LE)
 f1017888:aam→aad→Option (Except Int aam)
def abL (k:Nat) (F:adg) (b:LF) (d:BA) (e:LP) (f:Int) (g:Bool) (h:Int) (i:LS) (j:LB) (l:LM) (m:Int):LE→Nat→LE→Option (Except Int LE)
 | [],n,a=>(some (.ok a))
 | (.mk o p q r s) :: t,n,a=>((F.f1017888 (aam.mk o p q r s) (aad.mk (aaa.mk b) (aac.mk d e f g h i) j l m)).bind fun q_=>match q_ with | .error c_=>some (.error c_) | .ok (.mk u v x y z)=>(aaP (decide ((a.length + 1) * 64 ≤ 140737488355328)) ((abL k F b d e f g h i j l m t) (n + 1) (a ++ [(aam.mk u v x y z)]))))
def agt (k:Nat) (F:adg):LE→aad→Option (Except Int LE):=fun a b =>
 match a,b with
 | a,.mk (.mk d) (.mk e f g h i j) l m n=>(abL k F d e f g h i j l m n a 0 ([]:LE))
def ad6 (k:Nat) (F:adg):aam→aad→Option (Except Int aam):=fun q r =>
 match q,r with
 | .mk a b d s t,.mk (.mk e) (.mk f g h i j l) m n o=>((F.f1015988 t (aad.mk (aaa.mk e) (aac.mk f g h i j l) m n o)).bind fun q_=>match q_ with | .error c_=>some (.error c_) | .ok p=>((akO k (aam.mk a b d s p) (aad.mk (aaa.mk e) (aac.mk f g h i j l) m n o)).bind fun q_=>match q_ with | .error c_=>some (.error c_) | .ok u=>(some (.ok (aam.mk a b d u p)))))
def abr (k0:Nat):Nat→adg
 | 0=>{ f1015988:=fun _ _=>none,f1017888:=fun _ _=>none }
 | k + 1=>{ f1015988:=agt k0 (abr k0 k),f1017888:=ad6 k0 (abr k0 k) }
def f1015988 (k:Nat):LE→aad→Option (Except Int LE):=(abr k k).f1015988
def f1017888 (k:Nat):aam→aad→Option (Except Int aam):=(abr k k).f1017888
def aoh (k:Nat):aad→LE→Option (Except Int LE):=fun b a =>
 match b,a with
 | .mk (.mk d) (.mk e f g h i j) l m n,a=>((f1015988 k a (aad.mk (aaa.mk d) (aac.mk e f g h i j) l m n)).bind fun q_=>match q_ with | .error c_=>some (.error c_) | .ok o=>(some (.ok o)))
def f161 (k:Nat):aad→LE→Option (Except Int LE):=aoh k
def afa (k:Nat):aac→aaf→Option Bool:=fun a b =>
 match a,b with
 | .mk d f g h i j,.mk l m n e o p q r s t u=>(some (seq d e))
def akU (k:Nat):aac→aaf→Option Bool:=afa k
def acp (k:Nat) (b:Int) (d:BA) (e:Int) (f:BA) (g:Int) (h:Int) (i:LE) (j:LS) (l:LS) (m:LS) (n:LC):LF→Nat→Option Int
 | [],a=>(some (-1))
 | (.mk o p q r s t) :: u,a=>((akU k (aac.mk o p q r s t) (aaf.mk b d e f g h i j l m n)).bind fun v=>(cond v (some (a:Int)) ((acp k b d e f g h i j l m n u) (a + 1))))
def afc (k:Nat):LF→aaf→Option Int:=fun a b =>
 match a,b with
 | a,.mk d e f g h i j l m n o=>(acp k d e f g h i j l m n o a 0)
def ake (k:Nat):LF→aaf→Option Int:=afc k
def aos (k:Nat):aad→aaf→Option (Except Int (aad × aaf)):=fun d e =>
 match d,e with
 | .mk (.mk a) (.mk f g h i j l) m n o,.mk sA_0 sA_1 sA_2 sA_3 sA_4 sA_5 sA_6 sA_7 sA_8 sA_9 sA_10=>((ake k a (aaf.mk sA_0 sA_1 sA_2 sA_3 sA_4 sA_5 sA_6 sA_7 sA_8 sA_9 sA_10)).bind fun b=>((f98 k (decide (b ≥ 0)) 20).bind fun q_=>match q_ with | .error c_=>some (.error c_) | .ok _=>((idxO a b).bind fun q_=>match q_ with | .mk r p s q t u=>((f98 k (q == (sA_0 == 28)) 25).bind fun q_=>match q_ with | .error c_=>some (.error c_) | .ok _=>((f98 k ((p.length:Int) == (sA_6.length:Int)) 24).bind fun q_=>match q_ with | .error c_=>some (.error c_) | .ok _=>(some (.ok ((aad.mk (aaa.mk a) (aac.mk f g h i j l) m n o),(aaf.mk sA_0 sA_1 sA_2 sA_3 b sA_5 sA_6 sA_7 sA_8 sA_9 sA_10)))))))))
def f163 (k:Nat):aad→aaf→Option (Except Int (aad × aaf)):=aos k
structure abV where
 f134:aad→aaf→Option (Except Int (aad × aaf))
 f1016212:aad→BA→LS→aaz→Option (Except Int (aad × aaz × LS))
 f1016220:aad→BA→LS→aaf→Option (Except Int (aad × aaf × LS))
 f1016266:aad→BA→LS→Option (Except Int (aad × LS))
 f1016420:aad→BA→LS→aaf→Option (Except Int (aad × aaf × LS))
 f1016466:aad→BA→LS→Option (Except Int (aad × LS))
def aeN (k:Nat) (F:abV) (n:Int) (o:BA) (p:Int) (q:BA) (r:Int) (s:Int) (t:LS) (u:LS) (v:LS) (x:LE):LC→Nat→LF→BA→LP→Int→Bool→Int→LS→LB→LM→Int→LC→Option (Except Int (aad × aaf))
 | [],y,a,b,d,e,f,g,h,i,j,l,m=>(some (.ok ((aad.mk (aaa.mk a) (aac.mk b d e f g h) i j l),(aaf.mk n o p q r s x t u v m))))
 | (.mk B z C D A) :: G,y,a,b,d,e,f,g,h,i,j,l,m=>((f161 k (aad.mk (aaa.mk a) (aac.mk b d e f g h) i j l) D).bind fun q_=>match q_ with | .error c_=>some (.error c_) | .ok I=>((F.f1016212 (aad.mk (aaa.mk a) (aac.mk b d e f g h) i j l) z A (aaz.mk B z C I A)).bind fun q_=>match q_ with | .error c_=>some (.error c_) | .ok (.mk (.mk J) (.mk N O S U V W) X Y Z,.mk ab ac ad ae ah,af)=>(aaP (decide ((m.length + 1) * 80 ≤ 140737488355328)) ((aeN k F n o p q r s t u v x G) (y + 1) J N O S U V W X Y Z (m ++ [(aaz.mk ab ac ad ae af)])))))
def acI (k:Nat) (F:abV) (a:Int) (b:BA) (d:Int) (e:BA) (f:Int) (g:Int) (h:LE) (i:LS) (j:LS) (l:LS) (m:LC) (n:LF) (o:BA) (p:LP) (q:Int) (r:Bool) (s:Int) (t:LS) (u:LB) (v:LM) (x:Int):Option (Except Int (aad × aaf)):=(some (.ok ((aad.mk (aaa.mk n) (aac.mk o p q r s t) u v x),(aaf.mk a b d e f g h i j l m))))
def agC (k:Nat) (F:abV) (a:Int) (e:BA) (f:BA) (g:Int) (b:Int) (h:LE) (i:LS) (j:LS) (l:LS) (m:LC) (n:LF) (o:BA) (p:LP) (q:Int) (r:Bool) (s:Int) (t:LS) (u:LB) (v:LM) (d:Int) (x:Int):Option (Except Int (aad × aaf)):=(cond (a != 6) ((f98 k true 22).bind fun q_=>match q_ with | .error c_=>some (.error c_) | .ok _=>(acI k F a e x f g b h i j l m n o p q r s t u v d)) (cond (b == 0) ((f98 k true 22).bind fun q_=>match q_ with | .error c_=>some (.error c_) | .ok _=>(acI k F a e x f g b h i j l m n o p q r s t u v d)) ((f98 k (decide (d > 0)) 22).bind fun q_=>match q_ with | .error c_=>some (.error c_) | .ok _=>(acI k F a e x f g b h i j l m n o p q r s t u v d))))
def aeQ (k:Nat) (F:abV) (b:LF) (d:BA) (e:LP) (f:Int) (g:Bool) (h:Int) (i:LS) (j:LB) (l:LM) (m:Int) (n:Int) (a:BA) (x:Int) (o:BA) (p:Int) (q:Int) (r:LE) (s:LS) (t:LS) (u:LS) (v:LC) (y:Bool):Option (Except Int (aad × aaf)):=(cond y ((F.f1016266 (aad.mk (aaa.mk b) (aac.mk d e f g h i) j l m) ⟨#[]⟩ s).bind fun q_=>match q_ with | .error c_=>some (.error c_) | .ok (.mk (.mk z) (.mk A B C D G I) J N O,S)=>((F.f1016266 (aad.mk (aaa.mk z) (aac.mk A B C D G I) J N O) ⟨#[]⟩ t).bind fun q_=>match q_ with | .error c_=>some (.error c_) | .ok (.mk (.mk U) (.mk V W X Y Z ab) ac ad ae,af)=>(acI k F n a x o p q r S af u v U V W X Y Z ab ac ad ae))) (cond (!seq a ⟨#[]⟩) ((f133 k (aad.mk (aaa.mk b) (aac.mk d e f g h i) j l m) a).bind fun q_=>match q_ with | .error c_=>some (.error c_) | .ok (.mk (.mk ah) (.mk ai aj ak al am an) ao ap aq,ar)=>(agC k F n a o p q r s t u v ah ai aj ak al am an ao ap aq ar)) (agC k F n a o p q r s t u v b d e f g h i j l m x)))
def ag8 (k:Nat) (F:abV) (j:LF) (l:BA) (m:LP) (e:Int) (f:Bool) (n:Int) (o:LS) (p:LB) (q:LM) (g:Int) (a:Int) (b:BA) (r:Int) (s:BA) (t:Int) (u:Int) (h:LE) (d:LS) (i:LS) (v:LS) (x:LC) (y:Bool):Option (Except Int (aad × aaf)):=(cond y ((f98 k (decide (g > 0)) 22).bind fun q_=>match q_ with | .error c_=>some (.error c_) | .ok _=>(acI k F a b r s t u h d i v x j l m e f n o p q g)) (cond (a == 29) ((f98 k f 22).bind fun q_=>match q_ with | .error c_=>some (.error c_) | .ok _=>(acI k F a b r s t u h d i v x j l m e f n o p q g)) (cond (a == 17) ((f98 k ((decide ((h.length:Int) > 0)) == (e != 0)) 22).bind fun q_=>match q_ with | .error c_=>some (.error c_) | .ok _=>(acI k F a b r s t u h d i v x j l m e f n o p q g)) (cond (a == 21) ((F.f1016466 (aad.mk (aaa.mk j) (aac.mk l m e f n o) p q g) ⟨#[]⟩ d).bind fun q_=>match q_ with | .error c_=>some (.error c_) | .ok (.mk (.mk z) (.mk A B C D G I) J N O,S)=>(acI k F a b r s t u h S i v x z A B C D G I J N O)) (cond (a == 28) ((F.f1016420 (aad.mk (aaa.mk j) (aac.mk l m e f n o) p q g) b d (aaf.mk a b r s t u h d i v x)).bind fun q_=>match q_ with | .error c_=>some (.error c_) | .ok (.mk (.mk U) (.mk V W X Y Z ab) ac ad ae,.mk af ah ai aj ak al am bJ an ao ap,aq)=>(acI k F af ah ai aj ak al am aq an ao ap U V W X Y Z ab ac ad ae)) (cond (a == 25) ((F.f1016220 (aad.mk (aaa.mk j) (aac.mk l m e f n o) p q g) b d (aaf.mk a b r s t u h d i v x)).bind fun q_=>match q_ with | .error c_=>some (.error c_) | .ok (.mk (.mk ar) (.mk au av aw ax ay az) aA aB aG,.mk aH aI aJ aK aL aM aN bK aP aT aU,aV)=>(acI k F aH aI aJ aK aL aM aN aV aP aT aU ar au av aw ax ay az aA aB aG)) (cond (a == 24) ((F.f1016266 (aad.mk (aaa.mk j) (aac.mk l m e f n o) p q g) ⟨#[]⟩ d).bind fun q_=>match q_ with | .error c_=>some (.error c_) | .ok (.mk (.mk aW) (.mk aX aY aZ a0 a1 a2) a3 a4 a5,a6)=>((F.f1016220 (aad.mk (aaa.mk aW) (aac.mk aX aY aZ a0 a1 a2) a3 a4 a5) b i (aaf.mk a b r s t u h a6 i v x)).bind fun q_=>match q_ with | .error c_=>some (.error c_) | .ok (.mk (.mk a7) (.mk a8 a9 ba bb bd be) bf bg bh,.mk bi bj bk bm bn bo bp bq bL br bs,bu)=>((F.f1016266 (aad.mk (aaa.mk a7) (aac.mk a8 a9 ba bb bd be) bf bg bh) ⟨#[]⟩ br).bind fun q_=>match q_ with | .error c_=>some (.error c_) | .ok (.mk (.mk bv) (.mk bw bx bz bB bD bE) bF bG bH,bI)=>(acI k F bi bj bk bm bn bo bp bq bu bI bs bv bw bx bz bB bD bE bF bG bH)))) (cond (a == 20) (aeQ k F j l m e f n o p q g a b r s t u h d i v x (a == 20)) (cond (a == 22) (aeQ k F j l m e f n o p q g a b r s t u h d i v x (a == 22)) (cond (a == 23) (aeQ k F j l m e f n o p q g a b r s t u h d i v x (a == 23)) (aeQ k F j l m e f n o p q g a b r s t u h d i v x (a == 26))))))))))))
def ag1 (k:Nat) (F:abV) (b:LF) (d:BA) (e:LP) (f:Int) (g:Bool) (h:Int) (i:LS) (j:LB) (l:LM) (m:Int) (a:Int) (n:BA) (x:Int) (o:BA) (p:Int) (q:Int) (r:LE) (s:LS) (t:LS) (u:LS) (v:LC):Option (Except Int (aad × aaf)):=(cond (a == 2) ((f160 k (aad.mk (aaa.mk b) (aac.mk d e f g h i) j l m) n).bind fun q_=>match q_ with | (y,z)=>((f98 k z 20).bind fun q_=>match q_ with | .error c_=>some (.error c_) | .ok _=>(acI k F a n y o p q r s t u v b d e f g h i j l m))) (cond (a == 18) (ag8 k F b d e f g h i j l m a n x o p q r s t u v (a == 18)) (ag8 k F b d e f g h i j l m a n x o p q r s t u v (a == 19))))
def al4 (k:Nat) (F:abV):aad→aaf→Option (Except Int (aad × aaf)):=fun y z =>
 match y,z with
 | .mk (.mk a) (.mk b d e f g h) i j l,.mk m o p n q r A s t u v=>((f161 k (aad.mk (aaa.mk a) (aac.mk b d e f g h) i j l) A).bind fun q_=>match q_ with | .error c_=>some (.error c_) | .ok x=>(cond (m == 27) (aeN k F m o p n q r s t u x v 0 a b d e f g h i j l ([]:LC)) (cond (!seq n ⟨#[]⟩) ((f163 k (aad.mk (aaa.mk a) (aac.mk b d e f g h) i j l) (aaf.mk m o p n q r x s t u v)).bind fun q_=>match q_ with | .error c_=>some (.error c_) | .ok (.mk (.mk B) (.mk C D G I J N) O S U,.mk V W X Y Z ab ac ad ae af ah)=>(ag1 k F B C D G I J N O S U V W X Y Z ab ac ad ae af ah)) (ag1 k F a b d e f g h i j l m o p n q r x s t u v))))
def aca (k:Nat) (F:abV) (sA_0:Int) (sA_1:BA) (sA_3:LE) (sA_4:LS) (n:Int):LS→Nat→LF→BA→LP→Int→Bool→Int→LS→LB→LM→Int→LS→Option (Except Int (aad × aaz × LS))
 | [],o,d,e,f,g,h,i,j,l,a,m,b=>(aaP (decide (0 ≤ (w64 ((a.length:Int) - 1))∧(w64 ((a.length:Int) - 1)) ≤ (a.length:Int))) (some (.ok ((aad.mk (aaa.mk d) (aac.mk e f g h i j) l (a.take (w64 ((a.length:Int) - 1)).toNat) m),(aaz.mk sA_0 sA_1 n sA_3 sA_4),b))))
 | (.mk p q r s t u v x y z A) :: B,o,d,e,f,g,h,i,j,l,a,m,b=>((F.f134 (aad.mk (aaa.mk d) (aac.mk e f g h i j) l a m) (aaf.mk p q r s t u v x y z A)).bind fun q_=>match q_ with | .error c_=>some (.error c_) | .ok (.mk (.mk C) (.mk D G I J N O) S U V,.mk W X Y Z ab ac ad ae af ah ai)=>(aaP (decide ((b.length + 1) * 184 ≤ 140737488355328)) ((aca k F sA_0 sA_1 sA_3 sA_4 n B) (o + 1) C D G I J N O S U V (b ++ [(aaf.mk W X Y Z ab ac ad ae af ah ai)]))))
def ads (k:Nat) (F:abV) (a:LS) (sA_0:Int) (sA_1:BA) (sA_3:LE) (sA_4:LS) (b:LF) (d:BA) (e:LP) (f:Int) (g:Bool) (h:Int) (i:LS) (j:LB) (l:LM) (m:Int) (n:Int):Option (Except Int (aad × aaz × LS)):=(aca k F sA_0 sA_1 sA_3 sA_4 n a 0 b d e f g h i j l m ([]:LS))
def aeb (k:Nat) (F:abV):aad→BA→LS→aaz→Option (Except Int (aad × aaz × LS)):=fun o a b p =>
 match o,a,b,p with
 | .mk (.mk e) (.mk f g h i j l) m d n,a,b,.mk sA_0 sA_1 sA_2 sA_3 sA_4=>(aaP (decide ((d.length + 1) * 8 ≤ 140737488355328)) (cond (!seq a ⟨#[]⟩) ((f133 k (aad.mk (aaa.mk e) (aac.mk f g h i j l) m (d ++ [([]:List (BA × Int))]) n) a).bind fun q_=>match q_ with | .error c_=>some (.error c_) | .ok (.mk (.mk q) (.mk r s t u v x) y z A,B)=>(ads k F b sA_0 sA_1 sA_3 sA_4 q r s t u v x y z A B)) (ads k F b sA_0 sA_1 sA_3 sA_4 e f g h i j l m (d ++ [([]:List (BA × Int))]) n sA_2)))
def ab5 (k:Nat) (F:abV) (sA_0:Int) (sA_1:BA) (sA_3:BA) (sA_4:Int) (sA_5:Int) (sA_6:LE) (sA_7:LS) (sA_8:LS) (sA_9:LS) (sA_10:LC) (n:Int):LS→Nat→LF→BA→LP→Int→Bool→Int→LS→LB→LM→Int→LS→Option (Except Int (aad × aaf × LS))
 | [],o,d,e,f,g,h,i,j,l,a,m,b=>(aaP (decide (0 ≤ (w64 ((a.length:Int) - 1))∧(w64 ((a.length:Int) - 1)) ≤ (a.length:Int))) (some (.ok ((aad.mk (aaa.mk d) (aac.mk e f g h i j) l (a.take (w64 ((a.length:Int) - 1)).toNat) m),(aaf.mk sA_0 sA_1 n sA_3 sA_4 sA_5 sA_6 sA_7 sA_8 sA_9 sA_10),b))))
 | (.mk p q r s t u v x y z A) :: B,o,d,e,f,g,h,i,j,l,a,m,b=>((F.f134 (aad.mk (aaa.mk d) (aac.mk e f g h i j) l a m) (aaf.mk p q r s t u v x y z A)).bind fun q_=>match q_ with | .error c_=>some (.error c_) | .ok (.mk (.mk C) (.mk D G I J N O) S U V,.mk W X Y Z ab ac ad ae af ah ai)=>(aaP (decide ((b.length + 1) * 184 ≤ 140737488355328)) ((ab5 k F sA_0 sA_1 sA_3 sA_4 sA_5 sA_6 sA_7 sA_8 sA_9 sA_10 n B) (o + 1) C D G I J N O S U V (b ++ [(aaf.mk W X Y Z ab ac ad ae af ah ai)]))))
def adt (k:Nat) (F:abV) (a:LS) (sA_0:Int) (sA_1:BA) (sA_3:BA) (sA_4:Int) (sA_5:Int) (sA_6:LE) (sA_7:LS) (sA_8:LS) (sA_9:LS) (sA_10:LC) (b:LF) (d:BA) (e:LP) (f:Int) (g:Bool) (h:Int) (i:LS) (j:LB) (l:LM) (m:Int) (n:Int):Option (Except Int (aad × aaf × LS)):=(ab5 k F sA_0 sA_1 sA_3 sA_4 sA_5 sA_6 sA_7 sA_8 sA_9 sA_10 n a 0 b d e f g h i j l m ([]:LS))
def adT (k:Nat) (F:abV):aad→BA→LS→aaf→Option (Except Int (aad × aaf × LS)):=fun o a b p =>
 match o,a,b,p with
 | .mk (.mk e) (.mk f g h i j l) m d n,a,b,.mk sA_0 sA_1 sA_2 sA_3 sA_4 sA_5 sA_6 sA_7 sA_8 sA_9 sA_10=>(aaP (decide ((d.length + 1) * 8 ≤ 140737488355328)) (cond (!seq a ⟨#[]⟩) ((f133 k (aad.mk (aaa.mk e) (aac.mk f g h i j l) m (d ++ [([]:List (BA × Int))]) n) a).bind fun q_=>match q_ with | .error c_=>some (.error c_) | .ok (.mk (.mk q) (.mk r s t u v x) y z A,B)=>(adt k F b sA_0 sA_1 sA_3 sA_4 sA_5 sA_6 sA_7 sA_8 sA_9 sA_10 q r s t u v x y z A B)) (adt k F b sA_0 sA_1 sA_3 sA_4 sA_5 sA_6 sA_7 sA_8 sA_9 sA_10 e f g h i j l m (d ++ [([]:List (BA × Int))]) n sA_2)))
def abY (k:Nat) (F:abV)  : LS→Nat→LF→BA→LP→Int→Bool→Int→LS→LB→LM→Int→LS→Option (Except Int (aad × LS))
 | [],n,d,e,f,g,h,i,j,l,a,m,b=>(aaP (decide (0 ≤ (w64 ((a.length:Int) - 1))∧(w64 ((a.length:Int) - 1)) ≤ (a.length:Int))) (some (.ok ((aad.mk (aaa.mk d) (aac.mk e f g h i j) l (a.take (w64 ((a.length:Int) - 1)).toNat) m),b))))
 | (.mk o p q r s t u v x y z) :: A,n,d,e,f,g,h,i,j,l,a,m,b=>((F.f134 (aad.mk (aaa.mk d) (aac.mk e f g h i j) l a m) (aaf.mk o p q r s t u v x y z)).bind fun q_=>match q_ with | .error c_=>some (.error c_) | .ok (.mk (.mk B) (.mk C D G I J N) O S U,.mk V W X Y Z ab ac ad ae af ah)=>(aaP (decide ((b.length + 1) * 184 ≤ 140737488355328)) ((abY k F A) (n + 1) B C D G I J N O S U (b ++ [(aaf.mk V W X Y Z ab ac ad ae af ah)]))))
def ad8 (k:Nat) (F:abV):aad→BA→LS→Option (Except Int (aad × LS)):=fun o a b =>
 match o,a,b with
 | .mk (.mk e) (.mk f g h i j l) m d n,a,b=>(aaP (decide ((d.length + 1) * 8 ≤ 140737488355328)) (cond (!seq a ⟨#[]⟩) ((f133 k (aad.mk (aaa.mk e) (aac.mk f g h i j l) m (d ++ [([]:List (BA × Int))]) n) a).bind fun q_=>match q_ with | .error c_=>some (.error c_) | .ok (.mk (.mk p) (.mk q r s t u v) x y z,A)=>(none)) (abY k F b 0 e f g h i j l m (d ++ [([]:List (BA × Int))]) n ([]:LS))))
def adU (k:Nat) (F:abV):aad→BA→LS→aaf→Option (Except Int (aad × aaf × LS)):=fun d a b e =>
 match d,a,b,e with
 | .mk (.mk f) (.mk g h i j l m) n o p,a,b,.mk sA_0 sA_1 sA_2 sA_3 sA_4 sA_5 sA_6 sA_7 sA_8 sA_9 sA_10=>((F.f1016220 (aad.mk (aaa.mk f) (aac.mk g h i j l m) n o (w64 (p + 1))) a b (aaf.mk sA_0 sA_1 sA_2 sA_3 sA_4 sA_5 sA_6 sA_7 sA_8 sA_9 sA_10)).bind fun q_=>match q_ with | .error c_=>some (.error c_) | .ok (.mk (.mk q) (.mk r s t u v x) y z A,.mk B C D G I J N O S U V,W)=>(some (.ok ((aad.mk (aaa.mk q) (aac.mk r s t u v x) y z (w64 (A - 1))),(aaf.mk B C D G I J N O S U V),W))))
def adW (k:Nat) (F:abV):aad→BA→LS→Option (Except Int (aad × LS)):=fun d a b =>
 match d,a,b with
 | .mk (.mk e) (.mk f g h i j l) m n o,a,b=>((F.f1016266 (aad.mk (aaa.mk e) (aac.mk f g h i j l) m n (w64 (o + 1))) a b).bind fun q_=>match q_ with | .error c_=>some (.error c_) | .ok (.mk (.mk p) (.mk q r s t u v) x y z,A)=>(some (.ok ((aad.mk (aaa.mk p) (aac.mk q r s t u v) x y (w64 (z - 1))),A))))
def aa0 (k0:Nat):Nat→abV
 | 0=>{ f134:=fun _ _=>none,f1016212:=fun _ _ _ _=>none,f1016220:=fun _ _ _ _=>none,f1016266:=fun _ _ _=>none,f1016420:=fun _ _ _ _=>none,f1016466:=fun _ _ _=>none }
 | k + 1=>{ f134:=al4 k0 (aa0 k0 k),f1016212:=aeb k0 (aa0 k0 k),f1016220:=adT k0 (aa0 k0 k),f1016266:=ad8 k0 (aa0 k0 k),f1016420:=adU k0 (aa0 k0 k),f1016466:=adW k0 (aa0 k0 k) }
def f134 (k:Nat):aad→aaf→Option (Except Int (aad × aaf)):=(aa0 k k).f134
def f1016212 (k:Nat):aad→BA→LS→aaz→Option (Except Int (aad × aaz × LS)):=(aa0 k k).f1016212
def f1016220 (k:Nat):aad→BA→LS→aaf→Option (Except Int (aad × aaf × LS)):=(aa0 k k).f1016220
def f1016266 (k:Nat):aad→BA→LS→Option (Except Int (aad × LS)):=(aa0 k k).f1016266
def f1016420 (k:Nat):aad→BA→LS→aaf→Option (Except Int (aad × aaf × LS)):=(aa0 k k).f1016420
def f1016466 (k:Nat):aad→BA→LS→Option (Except Int (aad × LS)):=(aa0 k k).f1016466
def ak6 (k:Nat) (a:BA) (b:LP) (d:Int) (e:Bool) (f:Int) (g:LS) (h:LB):Option (Except Int (aac × LB)):=(some (.ok ((aac.mk a b d e f g),h)))
def aeJ (k:Nat) (d:BA) (e:Int) (f:Bool) (g:LP):LS→Nat→LF→BA→LP→Int→Bool→Int→LS→LB→LM→Int→LS→Option (Except Int (aac × LB))
 | [],h,i,j,l,m,n,o,p,a,q,r,b=>((f98 k (decide ((a.length:Int) ≤ 32)) 5).bind fun q_=>match q_ with | .error c_=>some (.error c_) | .ok _=>(ak6 k d g e f (a.length:Int) b a))
 | (.mk s t u v x y z A B C D) :: G,h,i,j,l,m,n,o,p,a,q,r,b=>((f134 k (aad.mk (aaa.mk i) (aac.mk j l m n o p) a q r) (aaf.mk s t u v x y z A B C D)).bind fun q_=>match q_ with | .error c_=>some (.error c_) | .ok (.mk (.mk I) (.mk J N O S U V) W X Y,.mk Z ab ac ad ae af ah ai aj ak al)=>(aaP (decide ((b.length + 1) * 184 ≤ 140737488355328)) ((aeJ k d e f g G) (h + 1) I J N O S U V W X Y (b ++ [(aaf.mk Z ab ac ad ae af ah ai aj ak al)]))))
def acB (k:Nat) (m:BA) (n:LP) (o:Int) (p:Bool) (q:LS):LP→Nat→LF→BA→LP→Int→Bool→Int→LS→LB→LM→Int→Option (Except Int (aac × LB))
 | [],r,a,b,d,e,f,g,h,i,j,l=>((f129 k n).bind fun s=>(aeJ k m o p s q 0 a b d e f g h i j l ([]:LS)))
 | (.mk t J) :: u,r,a,b,d,e,f,g,h,i,j,l=>((f133 k (aad.mk (aaa.mk a) (aac.mk b d e f g h) i j l) t).bind fun q_=>match q_ with | .error c_=>some (.error c_) | .ok (.mk (.mk v) (.mk x y z A B C) D G I,N)=>((acB k m n o p q u) (r + 1) v x y z A B C D G I))
def aov (k:Nat):aaa→aac→Option (Except Int (aac × LB)):=fun g h =>
 match g,h with
 | .mk i,.mk b a d e j f=>(acB k b a d e f a 0 i b a d e j f ([]:LB) [([]:List (BA × Int))] 0)
def f104 (k:Nat):aaa→aac→Option (Except Int (aac × LB)):=aov k
def ahe (k:Nat) (all:LF):LF→Nat→Option (Except Int Unit)
 | [],_=>some (.ok ())
 | f :: rest,i=>(af8 k (all.take i) f).bind fun b=>(f98 k (!b) 21).bind fun q=>match q with
  | .error c=>some (.error c)
  | .ok _=>ahe k all rest (i + 1)
def ab7:LF→Int
 | []=>20
 | .mk nm ps _ fl _ _ :: rest=>cond (!(seq nm ⟨#[109,97,105,110]⟩)) (ab7 rest) (cond fl 25 (cond (decide ((ps.length:Int) > 0)) 24 0))
def agi (k:Nat) (p:aaa):LF→List aac→List LB→Option (Except Int (aaa × List LB))
 | [],out,names=>some (.ok (.mk out,names))
 | f :: rest,out,names=>(f104 k p f).bind fun q=>match q with
  | .error c=>some (.error c)
  | .ok (g,l)=>agi k p rest (out ++ [g]) (names ++ [l])
def f72 (k:Nat):aaa→Option (Except Int (aaa × (List LB))):=fun a=>match a with
 | .mk fs=>(f99 k (.mk fs) false).bind fun ok=>(f98 k ok 2).bind fun q=>match q with
  | .error c=>some (.error c)
  | .ok _=>(ahe k fs fs 0).bind fun q=>match q with
   | .error c=>some (.error c)
   | .ok _=>(f98 k (decide (ab7 fs=0)) (ab7 fs)).bind fun q=>match q with
    | .error c=>some (.error c)
    | .ok _=>agi k (.mk fs) fs [] []
def afi (k:Nat):aaa→aaa→Option (Except Int (aaa × aaa)):=fun b d =>
 match b,d with
 | .mk a,.mk sA_0=>((f72 k (aaa.mk a)).bind fun q_=>match q_ with | .error c_=>some (.error c_) | .ok (.mk e,f)=>(some (.ok ((aaa.mk a),(aaa.mk e)))))
def ahz (k:Nat):aaa→aaa→Option (Except Int (aaa × aaa)):=afi k
def ahx (k:Nat):aaa→aaa→Option (aaa × aaa × Int):=fun a b=>match ahz k a b with
 | none=>none
 | some (.ok (y0,y1))=>some (y0,y1,0)
 | some (.error c)=>some (a,b,c)
def ato (k:Nat):aaa→Option (aaa × Int):=fun a =>
 match a with
 | .mk b=>((ahx k (aaa.mk b) (aaa.mk [])).bind fun q_=>match q_ with | (.mk f,.mk d,e)=>(some ((aaa.mk d),e)))
def f47 (k:Nat):aaa→Option (aaa × Int):=ato k
def avc (k:Nat):Option (List (Int × aaH)):=(some (mput qI 19 (aaH.mk [1] 1) (mput qI 18 (aaH.mk [1] 1) (mput qI 17 (aaH.mk [1] 1) (mput qI 16 (aaH.mk [1] 1) (mput qI 6 (aaH.mk [1] 1) (mput qI 14 (aaH.mk [1,3] 2) (mput qI 13 (aaH.mk [1,3] 2) (mput qI 12 (aaH.mk [1,3] 2) (mput qI 11 (aaH.mk [1,3] 2) (mput qI 8 (aaH.mk [2] 2) (mput qI 7 (aaH.mk [2] 2) (mput qI 5 (aaH.mk [2] 2) ([]:List (Int × aaH)))))))))))))))
def f56 (k:Nat):Option (List (Int × aaH)):=avc k
def aiv (k:Nat) (b:Int):List Int→Nat→Option Int
 | [],a=>(some (-1))
 | d :: e,a=>(cond (b == d) (some (a:Int)) ((aiv k b e) (a + 1)))
def asQ (k:Nat):(List Int)→Int→Option Int:=fun a b=>(aiv k b a 0)
def f83 (k:Nat):(List Int)→Int→Option Int:=asQ k
def atU (k:Nat):(List Int)→Int→Option Bool:=fun a b=>((f83 k a b).bind fun d=>(some (decide (d ≥ 0))))
def f57 (k:Nat):(List Int)→Int→Option Bool:=atU k
structure alZ where
 f33:aam→(List Int)→Option Int
def alU (k:Nat) (F:alZ) (a:Int) (b:Bool):Option Int:=(cond b (some (-1)) (some a))
def amE (k:Nat) (F:alZ) (a:Int) (b:List Int) (d:Int):Option Int:=((f57 k b a).bind fun e=>(cond (!e) (some (-1)) (some d)))
def alX (k:Nat) (F:alZ) (b:Int) (a:Int) (d:Bool):Option Int:=(cond d (some 2) (cond (b == 15) (cond (a != 1) (alU k F a (a != 3)) (alU k F a false)) ((f56 k ).bind fun e=>(afw (mget qI b e) (amE k F a [] 0) (fun q_=>match q_ with | .mk f g=>(amE k F a f g))))))
def ai9 (k:Nat) (F:alZ) (a:Int) (b:Int) (d:Bool):Option Int:=(cond d (some (-1)) (cond (a == 9) (alX k F a b (a == 9)) (alX k F a b (a == 10))))
def ap5 (k:Nat) (F:alZ):aam→(List Int)→Option Int:=fun f b =>
 match f,b with
 | .mk a u v g e,b=>(cond (a == 1) (some 1) (cond (a == 2) (some 2) (cond (a == 3) (some 3) (cond (a == 4) ((idxO b g).bind fun h=>(some h)) ((idxO e 0).bind fun q_=>match q_ with | .mk i j l m n=>((F.f33 (aam.mk i j l m n) b).bind fun d=>(cond (d == (-1)) (ai9 k F a d true) (cond ((e.length:Int) == 2) ((idxO e 1).bind fun q_=>match q_ with | .mk o p q r s=>((F.f33 (aam.mk o p q r s) b).bind fun t=>(ai9 k F a d (t != d)))) (ai9 k F a d false)))))))))
def ao9 (k0:Nat):Nat→alZ
 | 0=>{ f33:=fun _ _=>none }
 | k + 1=>{ f33:=ap5 k0 (ao9 k0 k) }
def f33 (k:Nat):aam→(List Int)→Option Int:=(ao9 k k).f33
def afQ (k:Nat) (b:(List Int)) (d:(List Int)):LE→Nat→Option Bool
 | [],a=>(some true)
 | (.mk e f g h i) :: j,a=>((idxO d (a:Int)).bind fun l=>((f33 k (aam.mk e f g h i) b).bind fun m=>(cond (m != l) (some false) ((afQ k b d j) (a + 1)))))
def aou (k:Nat):aaq→LE→(List Int)→Option Bool:=fun d a b =>
 match d,a,b with
 | .mk (.mk f) (.mk g h i j l m) e,a,b=>(afQ k e b a 0)
def f105 (k:Nat):aaq→LE→(List Int)→Option Bool:=aou k
def apF (k:Nat):Option (List (Int × (List Int))):=(some (mput qI 26 [6] (mput qI 21 [2] (mput qI 20 [2] (mput qI 15 [3] (mput qI 22 [1] (mput qI 29 [1] (mput qI 25 [1] (mput qI 8 [1] (mput qI 7 [1] (mput qI 12 [1] (mput qI 10 [4,1] (mput qI 11 [4] (mput qI 6 [4] (mput qI 16 [5] (mput qI 5 [5] ([]:List (Int × (List Int)))))))))))))))))))
def f106 (k:Nat):Option (List (Int × (List Int))):=apF k
structure adR where
 f48:aaq→LS→Option (aaq × Bool)
 f73:aaq→aaf→Option (aaq × Bool)
def ahj (k:Nat) (F:adR)  : LS→Nat→LF→BA→LP→Int→Bool→Int→LS→(List Int)→Option (aaq × Bool)
 | [],j,a,b,d,e,f,g,h,i=>(some ((aaq.mk (aaa.mk a) (aac.mk b d e f g h) i),true))
 | (.mk t u v x y z A B C D G) :: I,j,a,b,d,e,f,g,h,i=>((F.f73 (aaq.mk (aaa.mk a) (aac.mk b d e f g h) i) (aaf.mk t u v x y z A B C D G)).bind fun q_=>match q_ with | (.mk (.mk l) (.mk m n o p q r) s,J)=>(cond (!J) (some ((aaq.mk (aaa.mk l) (aac.mk m n o p q r) s),false)) ((ahj k F I) (j + 1) l m n o p q r s)))
def av3 (k:Nat) (F:adR):aaq→LS→Option (aaq × Bool):=fun b a =>
 match b,a with
 | .mk (.mk d) (.mk e f g h i j) l,a=>(ahj k F a 0 d e f g h i j l)
def ajx (k:Nat) (F:adR) (a:Bool) (b:LF) (d:BA) (e:LP) (f:Int) (g:Bool) (h:Int) (i:LS) (j:List Int):Option (aaq × Bool):=(some ((aaq.mk (aaa.mk b) (aac.mk d e f g h i) j),a))
def ajT (k:Nat) (F:adR) (j:LF) (l:BA) (m:LP) (n:Int) (o:Bool) (p:Int) (q:LS) (r:Nat) (s:LS) (t:List Int) (nx1:Nat→LF→BA→LP→Int→Bool→Int→LS→(List Int)→Option (aaq × Bool)):Option (aaq × Bool):=((F.f48 (aaq.mk (aaa.mk j) (aac.mk l m n o p q) t) s).bind fun q_=>match q_ with | (.mk (.mk a) (.mk b d e f g h) i,u)=>(cond (!u) (some ((aaq.mk (aaa.mk a) (aac.mk b d e f g h) i),false)) (nx1 (r + 1) a b d e f g h i)))
def ahR (k:Nat) (F:adR) (b:LF) (d:BA) (e:LP) (f:Int) (g:Bool) (h:Int) (i:LS) (a:List Int) (j:Nat) (n:BA) (l:Int) (m:LS) (nx1:Nat→LF→BA→LP→Int→Bool→Int→LS→(List Int)→Option (aaq × Bool)):Option (aaq × Bool):=(cond (!seq n ⟨#[]⟩) ((idxO a l).bind fun o=>(ajT k F b d e f g h i j m (a.set l.toNat 1) nx1)) (ajT k F b d e f g h i j m a nx1))
def acV (k:Nat) (F:adR) (j:LS) (l:LS) (m:LS):LC→Nat→LF→BA→LP→Int→Bool→Int→LS→(List Int)→Option (aaq × Bool)
 | [],n,a,b,d,e,f,g,h,i=>((F.f48 (aaq.mk (aaa.mk a) (aac.mk b d e f g h) i) j).bind fun q_=>match q_ with | (.mk (.mk o) (.mk p q r s t u) v,U)=>(cond U ((F.f48 (aaq.mk (aaa.mk o) (aac.mk p q r s t u) v) l).bind fun q_=>match q_ with | (.mk (.mk x) (.mk y z A B C D) G,V)=>(cond V ((F.f48 (aaq.mk (aaa.mk x) (aac.mk y z A B C D) G) m).bind fun q_=>match q_ with | (.mk (.mk W) (.mk X Y Z ab ac ad) ae,af)=>(ajx k F af W X Y Z ab ac ad ae)) (ajx k F false x y z A B C D G))) (ajx k F false o p q r s t u v)))
 | (.mk ah I J N O) :: S,n,a,b,d,e,f,g,h,i=>(afw (mget qI ah (mput qI 3 [1] (mput qI 2 [4,1] (mput qI 1 [4] ([]:List (Int × (List Int))))))) ((f105 k (aaq.mk (aaa.mk a) (aac.mk b d e f g h) i) N []).bind fun ai=>(cond (!ai) (some ((aaq.mk (aaa.mk a) (aac.mk b d e f g h) i),false)) (ahR k F a b d e f g h i n I J O (acV k F j l m S)))) (fun aj=>((f105 k (aaq.mk (aaa.mk a) (aac.mk b d e f g h) i) N aj).bind fun ak=>(cond (!ak) (some ((aaq.mk (aaa.mk a) (aac.mk b d e f g h) i),false)) (ahR k F a b d e f g h i n I J O (acV k F j l m S))))))
def amk (k:Nat) (F:adR) (a:LF) (b:BA) (d:LP) (e:Int) (f:Bool) (g:Int) (h:LS) (i:LS) (j:LS) (l:LS) (m:LC) (n:List Int):Option (aaq × Bool):=(acV k F i j l m 0 a b d e f g h n)
def aiS (k:Nat) (F:adR) (b:LF) (d:BA) (e:LP) (f:Int) (g:Bool) (h:Int) (i:LS) (a:(List Int)) (p:BA) (j:Int) (l:LS) (m:LS) (n:LS) (o:LC) (q:Int) (r:Bool):Option (aaq × Bool):=(cond r (some ((aaq.mk (aaa.mk b) (aac.mk d e f g h i) a),false)) (cond (!seq p ⟨#[]⟩) ((idxO a j).bind fun s=>(amk k F b d e f g h i l m n o (a.set j.toNat q))) (amk k F b d e f g h i l m n o a)))
def amH (k:Nat) (F:adR) (a:LF) (b:BA) (d:LP) (e:Int) (f:Bool) (g:Int) (h:LS) (i:(List Int)) (j:BA) (l:Int) (r:LE) (m:LS) (n:LS) (o:LS) (p:LC) (q:Int) (s:List Int) (t:Bool):Option (aaq × Bool):=(cond t ((f105 k (aaq.mk (aaa.mk a) (aac.mk b d e f g h) i) r s).bind fun u=>(aiS k F a b d e f g h i j l m n o p q (!u))) (aiS k F a b d e f g h i j l m n o p q false))
def aeE (k:Nat) (F:adR) (a:LF) (b:BA) (d:LP) (e:Int) (f:Bool) (g:Int) (h:LS) (i:(List Int)) (s:Int) (j:BA) (l:Int) (m:LE) (n:LS) (o:LS) (p:LS) (q:LC) (r:Int):Option (aaq × Bool):=((f106 k ).bind fun t=>(afw (mget qI s t) (amH k F a b d e f g h i j l m n o p q r [] false) (fun u=>(amH k F a b d e f g h i j l m n o p q r u true))))
def agH (k:Nat) (F:adR) (b:LF) (d:BA) (e:LP) (f:Int) (g:Bool) (h:Int) (i:LS) (j:(List Int)) (a:Int) (l:BA) (m:Int) (n:LE) (o:LS) (p:LS) (q:LS) (r:LC) (s:Int):Option (aaq × Bool):=(cond (a == 28) (aeE k F b d e f g h i j a l m n o p q r 1) (aeE k F b d e f g h i j a l m n o p q r s))
def aiy (k:Nat) (F:adR) (a:LF) (b:BA) (d:LP) (e:Int) (f:Bool) (g:Int) (h:LS) (i:(List Int)) (j:Int) (l:BA) (m:Int) (n:LE) (o:LS) (p:LS) (q:LS) (r:LC) (s:Bool):Option (aaq × Bool):=(cond s (some ((aaq.mk (aaa.mk a) (aac.mk b d e f g h) i),false)) (agH k F a b d e f g h i j l m n o p q r 5))
def aha (k:Nat) (F:adR) (a:LF) (b:BA) (d:LP) (e:Int) (f:Bool) (g:Int) (h:LS) (i:(List Int)) (j:Int) (l:BA) (m:Int) (n:LE) (o:LS) (p:LS) (q:LS) (r:LC) (s:Int) (t:Bool):Option (aaq × Bool):=(cond t (some ((aaq.mk (aaa.mk a) (aac.mk b d e f g h) i),false)) (cond (j == 4) (cond (s != 1) (aiy k F a b d e f g h i j l m n o p q r (s != 0)) (aiy k F a b d e f g h i j l m n o p q r false)) (agH k F a b d e f g h i j l m n o p q r s)))
def aeR (k:Nat) (F:adR) (b:LF) (d:BA) (e:LP) (f:Int) (g:Bool) (h:Int) (i:LS) (j:(List Int)) (a:Int) (l:BA) (n:Int) (t:Int) (m:LE) (o:LS) (p:LS) (q:LS) (r:LC) (u:Bool):Option (aaq × Bool):=(cond u ((idxO b t).bind fun q_=>match q_ with | .mk v x s y z A=>((f42 k (aac.mk v x s y z A)).bind fun B=>((f105 k (aaq.mk (aaa.mk b) (aac.mk d e f g h i) j) m B).bind fun C=>(cond (!C) (aha k F b d e f g h i j a l n m o p q r s true) (cond (a == 3) (cond (!seq l ⟨#[]⟩) (aha k F b d e f g h i j a l n m o p q r s (s == 0)) (aha k F b d e f g h i j a l n m o p q r s false)) (aha k F b d e f g h i j a l n m o p q r s false)))))) (cond (a == 7) (aeE k F b d e f g h i j a l n m o p q r 4) (cond (a == 8) (aeE k F b d e f g h i j a l n m o p q r 6) (cond (a == 24) (aeE k F b d e f g h i j a l n m o p q r 3) (aeE k F b d e f g h i j a l n m o p q r 1)))))
def apa (k:Nat) (F:adR):aaq→aaf→Option (aaq × Bool):=fun u v =>
 match u,v with
 | .mk (.mk e) (.mk f g d h i j) a,.mk b n m ab s ac l o p q r=>(cond (b == 1) ((idxO l 0).bind fun q_=>match q_ with | .mk x y z A B=>((f33 k (aam.mk x y z A B) a).bind fun t=>(cond (t == (-1)) (some ((aaq.mk (aaa.mk e) (aac.mk f g d h i j) a),false)) (aeE k F e f g d h i j a b n m l o p q r t)))) (cond (b == 14) ((idxO l 0).bind fun q_=>match q_ with | .mk C D G I J=>((f33 k (aam.mk C D G I J) a).bind fun N=>(cond (N == (-1)) (some ((aaq.mk (aaa.mk e) (aac.mk f g d h i j) a),false)) (aeE k F e f g d h i j a b n m l o p q r 1)))) (cond (b == 2) ((idxO l 0).bind fun q_=>match q_ with | .mk O S U V W=>((idxO a m).bind fun X=>((f33 k (aam.mk O S U V W) a).bind fun Y=>(some ((aaq.mk (aaa.mk e) (aac.mk f g d h i j) a),(Y == X)))))) (cond (b == 17) ((f105 k (aaq.mk (aaa.mk e) (aac.mk f g d h i j) a) l [d]).bind fun Z=>(some ((aaq.mk (aaa.mk e) (aac.mk f g d h i j) a),Z))) (cond (b == 3) (aeR k F e f g d h i j a b n m s l o p q r (b == 3)) (cond (b == 4) (aeR k F e f g d h i j a b n m s l o p q r (b == 4)) (aeR k F e f g d h i j a b n m s l o p q r (b == 28))))))))
def ahr (k0:Nat):Nat→adR
 | 0=>{ f48:=fun _ _=>none,f73:=fun _ _=>none }
 | k + 1=>{ f48:=av3 k0 (ahr k0 k),f73:=apa k0 (ahr k0 k) }
def f48 (k:Nat):aaq→LS→Option (aaq × Bool):=(ahr k k).f48
def f73 (k:Nat):aaq→aaf→Option (aaq × Bool):=(ahr k k).f73
def ajW (k:Nat) (b:LF) (a:Int) (d:List (List Int)):Option (aaa × (List (List Int)) × Int):=(cond (a != 0) (some ((aaa.mk []),[],a)) (some ((aaa.mk b),d,0)))
def ajZ (k:Nat) (d:LF) (a:List (List Int)) (e:Nat) (b:Int) (f:List Int) (nx1:Nat→Int→(List (List Int))→Option (aaa × (List (List Int)) × Int)):Option (aaa × (List (List Int)) × Int):=(cond (b != 0) (ajW k d b a) (aaP (decide ((a.length + 1) * 24 ≤ 140737488355328)) (nx1 (e + 1) b (a ++ [f]))))
def amO (k:Nat) (a:LF) (f:Int) (b:List (List Int)) (d:Nat) (e:(List Int)) (g:Bool) (nx1:Nat→Int→(List (List Int))→Option (aaa × (List (List Int)) × Int)):Option (aaa × (List (List Int)) × Int):=(cond g (ajZ k a b d 26 e nx1) (ajZ k a b d f e nx1))
def an0 (k:Nat) (a:LF) (f:Int) (b:List (List Int)) (d:Nat) (h:Int) (g:LS) (i:LF) (j:BA) (l:LP) (m:Int) (n:Bool) (o:Int) (p:LS) (q:List Int) (nx1:Nat→Int→(List (List Int))→Option (aaa × (List (List Int)) × Int)):Option (aaa × (List (List Int)) × Int):=((f48 k (aaq.mk (aaa.mk i) (aac.mk j l m n o p) q) g).bind fun q_=>match q_ with | (.mk (.mk t) (.mk u v x y z A) e,r)=>(cond (!r) (ajZ k a b d 23 e nx1) (cond (h != 0) ((f40 k g).bind fun s=>(amO k a f b d e (!s) nx1)) (amO k a f b d e false nx1))))
def aeW (k:Nat) (d:LF):LF→Nat→Int→(List (List Int))→Option (aaa × (List (List Int)) × Int)
 | [],i,e,f=>(ajW k d e f)
 | (.mk j a g l b h) :: n,i,e,f=>((f42 k (aac.mk j a g l b h)).bind fun m=>(aaP (decide (0 ≤ (w64 (b - (a.length:Int)))∧((m.length:Int) + (w64 (b - (a.length:Int)))) * ((8:Nat):Int) ≤ 140737488355328)) (an0 k d e f i g h d j a g l b h (m ++ List.replicate (w64 (b - (a.length:Int))).toNat (0:Int)) (aeW k d n))))
def atZ (k:Nat):aaa→Option (aaa × (List (List Int)) × Int):=fun e =>
 match e with
 | .mk f=>((f46 k (aaa.mk f)).bind fun q_=>match q_ with | (.mk g,b)=>(cond (b != 0) (some ((aaa.mk []),[],b)) ((f47 k (aaa.mk g)).bind fun q_=>match q_ with | (.mk d,a)=>(cond (a != 0) (some ((aaa.mk []),[],a)) (aeW k d d 0 a ([]:List (List Int)))))))
def f26 (k:Nat):aaa→Option (aaa × (List (List Int)) × Int):=atZ k
def at9 (k:Nat):aaa→Option (aaa × Int):=fun a =>
 match a with
 | .mk b=>((f26 k (aaa.mk b)).bind fun q_=>match q_ with | (.mk d,f,e)=>(some ((aaa.mk d),e)))
def f10 (k:Nat):aaa→Option (aaa × Int):=at9 k
structure aoG where
 f121:LE→Option LE
def aey (k:Nat) (F:aoG)  : LE→Nat→LE→Option LE
 | [],b,a=>(some a)
 | (.mk d e f g h) :: i,b,a=>((F.f121 h).bind fun j=>(aaP (decide ((a.length + 1) * 64 ≤ 140737488355328)) ((aey k F i) (b + 1) (a ++ [(aam.mk d e f g j)]))))
def asi (k:Nat) (F:aoG):LE→Option LE:=fun a=>(aey k F a 0 ([]:LE))
def aih (k0:Nat):Nat→aoG
 | 0=>{ f121:=fun _=>none }
 | k + 1=>{ f121:=asi k0 (aih k0 k) }
def f121 (k:Nat):LE→Option LE:=(aih k k).f121
structure ary where
 f89:LS→Option LS
def ahf (k:Nat) (F:ary) (b:LS) (d:Nat) (e:Int) (f:BA) (g:Int) (h:BA) (i:Int) (j:Int) (l:LE) (m:LS) (n:LS) (o:LS) (nx1:Nat→LS→Option LS):LC→Nat→LC→Option LS
 | [],p,a=>(aaP (decide ((b.length + 1) * 184 ≤ 140737488355328)) (nx1 (d + 1) (b ++ [(aaf.mk e f g h i j l m n o a)])))
 | (.mk q r s t u) :: v,p,a=>((f121 k t).bind fun x=>((F.f89 u).bind fun y=>(aaP (decide ((a.length + 1) * 80 ≤ 140737488355328)) ((ahf k F b d e f g h i j l m n o nx1 v) (p + 1) (a ++ [(aaz.mk q r s x y)])))))
def afy (k:Nat) (F:ary)  : LS→Nat→LS→Option LS
 | [],b,a=>(some a)
 | (.mk d e f g h i j l m n o) :: p,b,a=>((f121 k j).bind fun q=>((F.f89 l).bind fun r=>((F.f89 m).bind fun s=>((F.f89 n).bind fun t=>(ahf k F a b d e f g h i q r s t (afy k F p) o 0 ([]:LC))))))
def avj (k:Nat) (F:ary):LS→Option LS:=fun a=>(afy k F a 0 ([]:LS))
def amc (k0:Nat):Nat→ary
 | 0=>{ f89:=fun _=>none }
 | k + 1=>{ f89:=avj k0 (amc k0 k) }
def f89 (k:Nat):LS→Option LS:=(amc k k).f89
def af7 (k:Nat)  : LF→Nat→LF→Option aaa
 | [],b,a=>(some (aaa.mk a))
 | (.mk e d f g h i) :: j,b,a=>(aaP (decide ((([]:LP).length + d.length) * 24 ≤ 140737488355328)) ((f89 k i).bind fun l=>(aaP (decide ((a.length + 1) * 88 ≤ 140737488355328)) ((af7 k j) (b + 1) (a ++ [(aac.mk e (([]:LP) ++ d) f g h l)])))))
def awd (k:Nat):aaa→Option aaa:=fun a =>
 match a with
 | .mk b=>(af7 k b 0 ([]:LF))
def f62 (k:Nat):aaa→Option aaa:=awd k
structure atv where
 f90:LE→Option LE
def af4 (k:Nat) (F:atv)  : LE→Nat→LE→Option LE
 | [],b,a=>(some a)
 | (.mk d e f j g) :: h,b,a=>((F.f90 g).bind fun i=>(aaP (decide ((a.length + 1) * 64 ≤ 140737488355328)) ((af4 k F h) (b + 1) (a ++ [(aam.mk d e f 0 i)]))))
def awc (k:Nat) (F:atv):LE→Option LE:=fun a=>(af4 k F a 0 ([]:LE))
def am5 (k0:Nat):Nat→atv
 | 0=>{ f90:=fun _=>none }
 | k + 1=>{ f90:=awc k0 (am5 k0 k) }
def f90 (k:Nat):LE→Option LE:=(am5 k k).f90
structure apH where
 f63:LS→Option LS
def ahg (k:Nat) (F:apH) (b:LS) (d:Nat) (e:Int) (f:BA) (g:BA) (h:Int) (i:LE) (j:LS) (l:LS) (m:LS) (nx1:Nat→LS→Option LS):LC→Nat→LC→Option LS
 | [],n,a=>(aaP (decide ((b.length + 1) * 184 ≤ 140737488355328)) (nx1 (d + 1) (b ++ [(aaf.mk e f 0 g 0 h i j l m a)])))
 | (.mk o p v q r) :: s,n,a=>((f90 k q).bind fun t=>((F.f63 r).bind fun u=>(aaP (decide ((a.length + 1) * 80 ≤ 140737488355328)) ((ahg k F b d e f g h i j l m nx1 s) (n + 1) (a ++ [(aaz.mk o p 0 t u)])))))
def afB (k:Nat) (F:apH)  : LS→Nat→LS→Option LS
 | [],b,a=>(some a)
 | (.mk d e s f t g h i j l m) :: n,b,a=>((f90 k h).bind fun o=>((F.f63 i).bind fun p=>((F.f63 j).bind fun q=>((F.f63 l).bind fun r=>(ahg k F a b d e f g o p q r (afB k F n) m 0 ([]:LC))))))
def avG (k:Nat) (F:apH):LS→Option LS:=fun a=>(afB k F a 0 ([]:LS))
def alR (k0:Nat):Nat→apH
 | 0=>{ f63:=fun _=>none }
 | k + 1=>{ f63:=avG k0 (alR k0 k) }
def f63 (k:Nat):LS→Option LS:=(alR k k).f63
def ahq (k:Nat)  : Nat→LF→Int→Option aaa
 | 0,_,_=>none
 | j740 + 1,b,a=>(cond (decide (a < (b.length:Int))) ((idxO b a).bind fun q_=>match q_ with | .mk d e f g j h=>((f63 k h).bind fun i=>((ahq k j740) ((b.set a.toNat (aac.mk d e f g 0 h)).set a.toNat (aac.mk d e f g 0 i)) (w64 (a + 1))))) (some (aaa.mk b)))
def as4 (k:Nat):aaa→Option aaa:=fun a =>
 match a with
 | .mk b=>((f62 k (aaa.mk b)).bind fun q_=>match q_ with | .mk d=>(ahq k k d 0))
def f39 (k:Nat):aaa→Option aaa:=as4 k
def ah2 (k:Nat) (a:Int) (b:Int) (e:Bool) (d:Int) (f:Bool):Option aap:=(cond f (some (aap.mk (w64 (a + 1)) (imax b d) true)) (some (aap.mk (w64 (a + 1)) (imax b d) e)))
def ao0 (k:Nat):aap→Int→Option aap:=fun f a =>
 match f,a with
 | .mk b d e,a=>(cond (decide ((w64 (b + 1)) > 600)) (ah2 k b d e a true) (ah2 k b d e a (decide (a > 16))))
def f114 (k:Nat):aap→Int→Option aap:=ao0 k
def aoE (k:Nat):aap→Bool→Option aap:=fun e a =>
 match e,a with
 | .mk b d f,a=>(cond (!a) (some (aap.mk b d true)) (some (aap.mk b d f)))
def f115 (k:Nat):aap→Bool→Option aap:=aoE k
def ahK (k:Nat) (a:Bool):Option Bool:=(some a)
def aor (k:Nat):Int→Option Bool:=fun a=>(cond (decide (a ≥ 97)) (ahK k (decide (a ≤ 122))) (ahK k false))
def f139 (k:Nat):Int→Option Bool:=aor k
def aiw (k:Nat) (a:Bool):Option Bool:=(some a)
def ao3 (k:Nat):Int→Option Bool:=fun a=>(cond (decide (a ≥ 48)) (aiw k (decide (a ≤ 57))) (aiw k false))
def f140 (k:Nat):Int→Option Bool:=ao3 k
def apN (k:Nat):Option LB:=(some [⟨#[97,102,116,101,114]⟩,⟨#[97,119,97,105,116]⟩,⟨#[98,111,111,108]⟩,⟨#[98,114,101,97,107]⟩,⟨#[98,117,102,102,101,114]⟩,⟨#[99,97,110,99,101,108]⟩,⟨#[99,97,116,99,104]⟩,⟨#[99,104,97,110]⟩,⟨#[99,108,111,115,101]⟩,⟨#[99,111,110,116,105,110,117,101]⟩,⟨#[100,114,111,112]⟩,⟨#[101,97,99,104]⟩,⟨#[101,108,115,101]⟩,⟨#[101,109,105,116]⟩,⟨#[102,97,108,115,101]⟩,⟨#[102,105,110,97,108,108,121]⟩,⟨#[102,108,111,119]⟩,⟨#[102,110]⟩,⟨#[102,114,111,109]⟩,⟨#[104,111,108,100]⟩,⟨#[105,102]⟩,⟨#[105,110,116]⟩,⟨#[108,101,116]⟩,⟨#[108,111,99,107]⟩,⟨#[110,101,119]⟩,⟨#[110,111,119]⟩,⟨#[111,108,100]⟩,⟨#[112,114,111,100,117,99,101]⟩,⟨#[114,101,99,101,105,118,101]⟩,⟨#[114,101,116,117,114,110]⟩,⟨#[115,99,111,112,101]⟩,⟨#[115,101,108,101,99,116]⟩,⟨#[115,101,110,100]⟩,⟨#[115,104,105,101,108,100]⟩,⟨#[115,108,101,101,112]⟩,⟨#[115,112,97,119,110]⟩,⟨#[115,117,112,101,114,118,105,115,101,100]⟩,⟨#[116,97,115,107]⟩,⟨#[116,101,120,116]⟩,⟨#[116,104,114,111,119]⟩,⟨#[116,114,117,101]⟩,⟨#[116,114,121]⟩,⟨#[117,115,101]⟩,⟨#[119,104,105,108,101]⟩,⟨#[119,105,116,104,105,110]⟩,⟨#[121,105,101,108,100]⟩])
def f167 (k:Nat):Option LB:=apN k
def afH (k:Nat) (a:BA):LB→Nat→Option Bool
 | [],b=>(some false)
 | d :: e,b=>(cond (seq d a) (some true) ((afH k a e) (b + 1)))
def aow (k:Nat):BA→Option Bool:=fun a=>((f167 k ).bind fun b=>(afH k a b 0))
def f141 (k:Nat):BA→Option Bool:=aow k
def ag3 (k:Nat) (a:Bool):Option Bool:=(some a)
def agu (k:Nat) (a:Nat) (b:Bool) (nx1:Nat→Option Bool):Option Bool:=(cond b (some false) (nx1 (a + 1)))
def adr (k:Nat) (a:BA):List UInt8→Nat→Option Bool
 | [],b=>(cond (decide ((a.size:Int) ≥ 1)) (cond (decide ((a.size:Int) ≤ 12)) ((f141 k a).bind fun f=>(ag3 k (!f))) (ag3 k false)) (ag3 k false))
 | e :: d,b=>((f139 k (e.toNat:Int)).bind fun g=>(cond (!g) (cond ((b:Int) == 0) (agu k b true (adr k a d)) ((f140 k (e.toNat:Int)).bind fun h=>(agu k b (!h) (adr k a d)))) (agu k b false (adr k a d))))
def arH (k:Nat):BA→Option Bool:=fun a=>(adr k a a.data.toList 0)
def f117 (k:Nat):BA→Option Bool:=arH k
def ahS (k:Nat) (a:Int) (b:Bool):Option (abo × Bool):=(cond b (some ((abo.mk 1 1 0 false true 0),true)) (cond (a == 22) (some ((abo.mk 0 1 0 false true 1),true)) (cond (a == 23) (some ((abo.mk 0 0 0 false true 0),true)) (cond (a == 24) (some ((abo.mk 0 0 2 false true 3),true)) (cond (a == 25) (some ((abo.mk 1 1 1 false true 0),true)) (cond (a == 28) (some ((abo.mk 0 600 1 true true 66),true)) (some ((abo.mk 0 0 0 false false 0),false))))))))
def afT (k:Nat) (a:Int) (b:Bool):Option (abo × Bool):=(cond b (some ((abo.mk 0 0 0 false false 0),true)) (cond (a == 17) (some ((abo.mk 0 1 0 false false 0),true)) (cond (a == 20) (some ((abo.mk 1 1 0 false true 1),true)) (cond (a == 21) (ahS k a (a == 21)) (ahS k a (a == 26))))))
def aed (k:Nat) (a:Int) (b:Bool):Option (abo × Bool):=(cond b (some ((abo.mk 1 1 0 false false 0),true)) (cond (a == 13) (afT k a (a == 13)) (cond (a == 18) (afT k a (a == 18)) (cond (a == 19) (afT k a (a == 19)) (afT k a (a == 27))))))
def aiV (k:Nat) (a:Int) (b:Bool):Option (abo × Bool):=(cond b (some ((abo.mk 0 600 2 true false 0),true)) (cond (a == 5) (some ((abo.mk 1 1 2 false false 0),true)) (cond (a == 6) (some ((abo.mk 1 1 2 false false 1),true)) (cond (a == 10) (some ((abo.mk 2 2 0 false false 0),true)) (cond (a == 11) (aed k a (a == 11)) (cond (a == 12) (aed k a (a == 12)) (cond (a == 14) (aed k a (a == 14)) (cond (a == 15) (aed k a (a == 15)) (cond (a == 16) (aed k a (a == 16)) (aed k a (a == 29)))))))))))
def ag7 (k:Nat) (a:Int) (b:Bool):Option (abo × Bool):=(cond b (some ((abo.mk 1 1 1 false false 0),true)) (cond (a == 7) (some ((abo.mk 1 1 1 false false 2),true)) (cond (a == 9) (some ((abo.mk 0 0 1 false false 0),true)) (cond (a == 3) (aiV k a (a == 3)) (aiV k a (a == 4))))))
def aoJ (k:Nat):Int→Option (abo × Bool):=fun a=>(cond (a == 1) (ag7 k a (a == 1)) (cond (a == 2) (ag7 k a (a == 2)) (ag7 k a (a == 8))))
def f168 (k:Nat):Int→Option (abo × Bool):=aoJ k
def aiE (k:Nat) (a:Nat) (b:Bool) (nx1:Nat→Option Bool):Option Bool:=(cond b (some false) (nx1 (a + 1)))
def adJ (k:Nat) (a:BA):List UInt8→Nat→Option Bool
 | [],b=>(some (decide ((a.size:Int) ≤ 60)))
 | d :: e,b=>(cond (decide ((d.toNat:Int) < 32)) (aiE k b true (adJ k a e)) (aiE k b (decide ((d.toNat:Int) > 126)) (adJ k a e)))
def aqZ (k:Nat):BA→Option Bool:=fun a=>(adJ k a a.data.toList 0)
def f116 (k:Nat):BA→Option Bool:=aqZ k
structure amS where
 f84:aap→aam→Int→Bool→Option aap
def afD (k:Nat) (F:amS) (e:Int) (f:Bool):LE→Nat→Int→Int→Bool→Option aap
 | [],g,b,d,a=>(some (aap.mk b d a))
 | (.mk h i j l m) :: n,g,b,d,a=>(cond (!a) ((F.f84 (aap.mk b d a) (aam.mk h i j l m) (w64 (e + 1)) f).bind fun q_=>match q_ with | .mk o p q=>((afD k F e f n) (g + 1) o p q)) (some (aap.mk b d a)))
def acD (k:Nat) (F:amS) (a:LE) (b:Int) (d:Bool) (e:Int) (f:Int) (g:Bool) (h:Int):Option aap:=((f115 k (aap.mk e f g) ((a.length:Int) == h)).bind fun q_=>match q_ with | .mk i j l=>(afD k F b d a 0 i j l))
def alW (k:Nat) (F:amS) (h:Int) (i:Int) (j:BA) (a:LE) (b:Int) (d:Bool) (e:Int) (f:Int) (g:Bool) (l:Bool):Option aap:=(cond l (cond (i == 0) ((f115 k (aap.mk e f g) (seq j ⟨#[]⟩)).bind fun q_=>match q_ with | .mk m n o=>(acD k F a b d m n o 1)) ((f115 k (aap.mk e f g) false).bind fun q_=>match q_ with | .mk p q r=>(acD k F a b d p q r 1))) (cond (decide (h ≥ 7)) (cond (decide (h ≤ 19)) (cond (i == 0) ((f115 k (aap.mk e f g) (seq j ⟨#[]⟩)).bind fun q_=>match q_ with | .mk s t u=>(acD k F a b d s t u 2)) ((f115 k (aap.mk e f g) false).bind fun q_=>match q_ with | .mk v x y=>(acD k F a b d v x y 2))) ((f115 k (aap.mk e f g) false).bind fun q_=>match q_ with | .mk z A B=>(acD k F a b d z A B 2))) ((f115 k (aap.mk e f g) false).bind fun q_=>match q_ with | .mk C D G=>(acD k F a b d C D G 2))))
def ajC (k:Nat) (F:amS) (h:Int) (i:Int) (j:BA) (a:LE) (b:Int) (d:Bool) (e:Int) (f:Int) (g:Bool):Option aap:=(cond (h == 1) (cond (decide (i ≥ 0)) (cond (decide (i ≤ 1000000000000)) ((f115 k (aap.mk e f g) (seq j ⟨#[]⟩)).bind fun q_=>match q_ with | .mk l m n=>(acD k F a b d l m n 0)) ((f115 k (aap.mk e f g) false).bind fun q_=>match q_ with | .mk o p q=>(acD k F a b d o p q 0))) ((f115 k (aap.mk e f g) false).bind fun q_=>match q_ with | .mk r s t=>(acD k F a b d r s t 0))) (cond (h == 2) (cond (i == 0) ((f115 k (aap.mk e f g) (seq j ⟨#[]⟩)).bind fun q_=>match q_ with | .mk u v x=>(acD k F a b d u v x 0)) (cond (i == 1) ((f115 k (aap.mk e f g) (seq j ⟨#[]⟩)).bind fun q_=>match q_ with | .mk y z A=>(acD k F a b d y z A 0)) ((f115 k (aap.mk e f g) false).bind fun q_=>match q_ with | .mk B C D=>(acD k F a b d B C D 0)))) (cond (h == 3) (cond (i == 0) ((f116 k j).bind fun G=>((f115 k (aap.mk e f g) G).bind fun q_=>match q_ with | .mk I J N=>(acD k F a b d I J N 0))) ((f115 k (aap.mk e f g) false).bind fun q_=>match q_ with | .mk O S U=>(acD k F a b d O S U 0))) (cond (h == 4) (cond (i == 0) ((f117 k j).bind fun V=>((f115 k (aap.mk e f g) V).bind fun q_=>match q_ with | .mk W X Y=>(acD k F a b d W X Y 0))) ((f115 k (aap.mk e f g) false).bind fun q_=>match q_ with | .mk Z ab ac=>(acD k F a b d Z ab ac 0))) (cond (h == 5) (alW k F h i j a b d e f g true) (alW k F h i j a b d e f g (h == 6)))))))
def apV (k:Nat) (F:amS):aap→aam→Int→Bool→Option aap:=fun o p a b =>
 match o,p,a,b with
 | .mk e f d,.mk g h i q j,a,b=>(cond d (some (aap.mk e f d)) ((f114 k (aap.mk e f d) a).bind fun q_=>match q_ with | .mk l m n=>(cond b ((f115 k (aap.mk l m n) true).bind fun q_=>match q_ with | .mk r s t=>(ajC k F g h i j a b r s t)) ((f115 k (aap.mk l m n) (q == 0)).bind fun q_=>match q_ with | .mk u v x=>(ajC k F g h i j a b u v x)))))
def al8 (k0:Nat):Nat→amS
 | 0=>{ f84:=fun _ _ _ _=>none }
 | k + 1=>{ f84:=apV k0 (al8 k0 k) }
def f84 (k:Nat):aap→aam→Int→Bool→Option aap:=(al8 k k).f84
structure abz where
 f118:aap→LS→Int→Option aap
 f142:aap→aaf→Int→Option aap
 f169:aap→aaz→Int→Option aap
def aeh (k:Nat) (F:abz) (e:Int):LS→Nat→Int→Int→Bool→Option aap
 | [],f,b,d,a=>(some (aap.mk b d a))
 | (.mk g h i j l m n o p q r) :: s,f,b,d,a=>(cond (!a) ((F.f142 (aap.mk b d a) (aaf.mk g h i j l m n o p q r) e).bind fun q_=>match q_ with | .mk t u v=>((aeh k F e s) (f + 1) t u v)) (some (aap.mk b d a)))
def aqp (k:Nat) (F:abz):aap→LS→Int→Option aap:=fun d a b =>
 match d,a,b with
 | .mk e f g,a,b=>(aeh k F b a 0 e f g)
def ael (k:Nat) (F:abz) (a:Nat) (b:Int) (d:Int) (e:Bool) (nx1:Nat→Int→Int→Bool→Option aap):Option aap:=(nx1 (a + 1) b d e)
def acS (k:Nat) (F:abz) (f:LC) (g:Int):LC→Nat→Int→Int→Bool→Option aap
 | [],b,d,e,a=>(some (aap.mk d e a))
 | (.mk h n o p q) :: i,b,d,e,a=>(cond (!a) ((F.f169 (aap.mk d e a) (aaz.mk h n o p q) (w64 (g + 1))).bind fun q_=>match q_ with | .mk j l m=>(cond (h != 4) ((f115 k (aap.mk j l m) true).bind fun q_=>match q_ with | .mk r s t=>(ael k F b r s t (acS k F f g i))) ((f115 k (aap.mk j l m) ((b:Int) == (w64 ((f.length:Int) - 1)))).bind fun q_=>match q_ with | .mk u v x=>(ael k F b u v x (acS k F f g i))))) (some (aap.mk d e a)))
def aeU (k:Nat) (F:abz) (d:LS) (e:LS) (f:LS) (b:LC) (a:Int) (g:Int) (h:Int) (i:Bool):Option aap:=((F.f118 (aap.mk g h i) d (w64 (a + 1))).bind fun q_=>match q_ with | .mk j l m=>((F.f118 (aap.mk j l m) e (w64 (a + 1))).bind fun q_=>match q_ with | .mk n o p=>((F.f118 (aap.mk n o p) f (w64 (a + 1))).bind fun q_=>match q_ with | .mk q r s=>(acS k F b a b 0 q r s))))
def abF (k:Nat) (F:abz) (f:LS) (g:LS) (h:LS) (i:LC) (b:Int):LE→Nat→Int→Int→Bool→Option aap
 | [],j,d,e,a=>(aeU k F f g h i b d e a)
 | (.mk l m n o p) :: q,j,d,e,a=>(cond (!a) ((f84 k (aap.mk d e a) (aam.mk l m n o p) (w64 (b + 1)) false).bind fun q_=>match q_ with | .mk r s t=>((abF k F f g h i b q) (j + 1) r s t)) (aeU k F f g h i b d e a))
def aiN (k:Nat) (F:abz) (a:LE) (b:LS) (d:LS) (e:LS) (f:LC) (g:Int) (h:Int) (i:Int) (j:Bool):Option aap:=(abF k F b d e f g a 0 h i j)
def adK (k:Nat) (F:abz) (l:Int) (b:LE) (d:LS) (e:LS) (f:LS) (a:LC) (g:Int) (h:Int) (i:Int) (j:Bool):Option aap:=(cond ((l == 27) == (decide ((a.length:Int) > 0))) ((f115 k (aap.mk h i j) (decide ((a.length:Int) ≤ 4))).bind fun q_=>match q_ with | .mk m n o=>(aiN k F b d e f a g m n o)) ((f115 k (aap.mk h i j) false).bind fun q_=>match q_ with | .mk p q r=>(aiN k F b d e f a g p q r)))
def agT (k:Nat) (F:abz) (a:Int) (n:BA) (m:Int) (b:LE) (d:LS) (e:LS) (f:LS) (g:LC) (h:Int) (i:Int) (j:Int) (l:Bool):Option aap:=(cond (a == 6) (cond (m == 0) ((f115 k (aap.mk i j l) true).bind fun q_=>match q_ with | .mk o p q=>(adK k F a b d e f g h o p q)) ((f115 k (aap.mk i j l) (!seq n ⟨#[]⟩)).bind fun q_=>match q_ with | .mk r s t=>(adK k F a b d e f g h r s t))) (cond (a == 24) (cond (decide (m > 0)) ((f115 k (aap.mk i j l) (((m.tmod 2) == 1) == (!seq n ⟨#[]⟩))).bind fun q_=>match q_ with | .mk u v x=>(adK k F a b d e f g h u v x)) ((f115 k (aap.mk i j l) false).bind fun q_=>match q_ with | .mk y z A=>(adK k F a b d e f g h y z A))) (cond (a == 28) ((f115 k (aap.mk i j l) (decide ((m.tmod 4) < 3))).bind fun q_=>match q_ with | .mk B C D=>(adK k F a b d e f g h B C D)) (adK k F a b d e f g h i j l))))
def aej (k:Nat) (F:abz) (a:Int) (e:BA) (b:Int) (f:LE) (g:LS) (h:LS) (d:LS) (i:LC) (j:Int) (l:Int) (m:Int) (n:Bool):Option aap:=(cond ((d.length:Int) == 0) ((f115 k (aap.mk l m n) true).bind fun q_=>match q_ with | .mk o p q=>(agT k F a e b f g h d i j o p q)) (cond (a == 24) ((f115 k (aap.mk l m n) (decide (b ≥ 2))).bind fun q_=>match q_ with | .mk r s t=>(agT k F a e b f g h d i j r s t)) ((f115 k (aap.mk l m n) false).bind fun q_=>match q_ with | .mk u v x=>(agT k F a e b f g h d i j u v x))))
def agJ (k:Nat) (F:abz) (a:Int) (e:BA) (b:Int) (f:LE) (g:LS) (d:LS) (h:LS) (i:LC) (j:Int) (l:Int) (m:Int) (n:Bool):Option aap:=(cond ((d.length:Int) == 0) ((f115 k (aap.mk l m n) true).bind fun q_=>match q_ with | .mk o p q=>(aej k F a e b f g d h i j o p q)) (cond (a == 20) (cond (b == 1) ((f115 k (aap.mk l m n) true).bind fun q_=>match q_ with | .mk r s t=>(aej k F a e b f g d h i j r s t)) (cond (a == 24) ((f115 k (aap.mk l m n) ((b.tmod 2) == 1)).bind fun q_=>match q_ with | .mk u v x=>(aej k F a e b f g d h i j u v x)) ((f115 k (aap.mk l m n) false).bind fun q_=>match q_ with | .mk y z A=>(aej k F a e b f g d h i j y z A)))) (cond (a == 24) ((f115 k (aap.mk l m n) ((b.tmod 2) == 1)).bind fun q_=>match q_ with | .mk B C D=>(aej k F a e b f g d h i j B C D)) ((f115 k (aap.mk l m n) false).bind fun q_=>match q_ with | .mk G I J=>(aej k F a e b f g d h i j G I J)))))
def aeT (k:Nat) (F:abz) (b:Int) (d:BA) (e:Int) (f:LE) (a:LS) (g:LS) (h:LS) (i:LC) (j:Int) (o:Bool) (l:Int) (m:Int) (n:Bool):Option aap:=(cond o ((f115 k (aap.mk l m n) true).bind fun q_=>match q_ with | .mk p q r=>(agJ k F b d e f a g h i j p q r)) ((f115 k (aap.mk l m n) ((a.length:Int) == 0)).bind fun q_=>match q_ with | .mk s t u=>(agJ k F b d e f a g h i j s t u)))
def acj (k:Nat) (F:abz) (a:Int) (b:BA) (p:BA) (d:Int) (e:LE) (f:LS) (g:LS) (h:LS) (i:LC) (j:Int) (q:Bool) (l:Bool) (m:Int) (n:Int) (o:Bool):Option aap:=(cond q ((f117 k p).bind fun r=>(cond r ((f115 k (aap.mk m n o) true).bind fun q_=>match q_ with | .mk s t u=>(aeT k F a b d e f g h i j l s t u)) (cond (!q) ((f115 k (aap.mk m n o) (seq p ⟨#[]⟩)).bind fun q_=>match q_ with | .mk v x y=>(aeT k F a b d e f g h i j l v x y)) ((f115 k (aap.mk m n o) false).bind fun q_=>match q_ with | .mk z A B=>(aeT k F a b d e f g h i j l z A B))))) (cond (!q) ((f115 k (aap.mk m n o) (seq p ⟨#[]⟩)).bind fun q_=>match q_ with | .mk C D G=>(aeT k F a b d e f g h i j l C D G)) ((f115 k (aap.mk m n o) false).bind fun q_=>match q_ with | .mk I J N=>(aeT k F a b d e f g h i j l I J N))))
def adk (k:Nat) (F:abz) (b:Int) (a:BA) (d:BA) (e:Int) (f:LE) (g:LS) (h:LS) (i:LS) (j:LC) (l:Int) (r:Int) (m:Bool) (n:Bool) (o:Int) (p:Int) (q:Bool):Option aap:=(cond (r == 0) (cond (seq a ⟨#[]⟩) ((f115 k (aap.mk o p q) true).bind fun q_=>match q_ with | .mk s t u=>(acj k F b a d e f g h i j l m n s t u)) (cond (r == 1) ((f117 k a).bind fun v=>(cond v ((f115 k (aap.mk o p q) true).bind fun q_=>match q_ with | .mk x y z=>(acj k F b a d e f g h i j l m n x y z)) (cond (r == 2) ((f117 k a).bind fun A=>((f115 k (aap.mk o p q) A).bind fun q_=>match q_ with | .mk B C D=>(acj k F b a d e f g h i j l m n B C D))) ((f115 k (aap.mk o p q) false).bind fun q_=>match q_ with | .mk G I J=>(acj k F b a d e f g h i j l m n G I J))))) (cond (r == 2) ((f117 k a).bind fun N=>((f115 k (aap.mk o p q) N).bind fun q_=>match q_ with | .mk O S U=>(acj k F b a d e f g h i j l m n O S U))) ((f115 k (aap.mk o p q) false).bind fun q_=>match q_ with | .mk V W X=>(acj k F b a d e f g h i j l m n V W X))))) (cond (r == 1) ((f117 k a).bind fun Y=>(cond Y ((f115 k (aap.mk o p q) true).bind fun q_=>match q_ with | .mk Z ab ac=>(acj k F b a d e f g h i j l m n Z ab ac)) (cond (r == 2) (cond (seq a ⟨#[]⟩) ((f115 k (aap.mk o p q) true).bind fun q_=>match q_ with | .mk ad ae af=>(acj k F b a d e f g h i j l m n ad ae af)) ((f117 k a).bind fun ah=>((f115 k (aap.mk o p q) ah).bind fun q_=>match q_ with | .mk ai aj ak=>(acj k F b a d e f g h i j l m n ai aj ak)))) ((f115 k (aap.mk o p q) false).bind fun q_=>match q_ with | .mk al am an=>(acj k F b a d e f g h i j l m n al am an))))) (cond (r == 2) (cond (seq a ⟨#[]⟩) ((f115 k (aap.mk o p q) true).bind fun q_=>match q_ with | .mk ao ap aq=>(acj k F b a d e f g h i j l m n ao ap aq)) ((f117 k a).bind fun ar=>((f115 k (aap.mk o p q) ar).bind fun q_=>match q_ with | .mk au av aw=>(acj k F b a d e f g h i j l m n au av aw)))) ((f115 k (aap.mk o p q) false).bind fun q_=>match q_ with | .mk ax ay az=>(acj k F b a d e f g h i j l m n ax ay az)))))
def ajI (k:Nat) (F:abz):aap→aaf→Int→Option aap:=fun v x a =>
 match v,x,a with
 | .mk t u s,.mk e f y g z b d h i j l,a=>(cond s (some (aap.mk t u s)) ((f114 k (aap.mk t u s) a).bind fun q_=>match q_ with | .mk m n o=>((f168 k e).bind fun q_=>match q_ with | (.mk A B p q r C,D)=>(cond D (cond (decide ((d.length:Int) ≥ A)) (cond (decide ((d.length:Int) ≤ B)) (cond (decide (b ≥ 0)) (cond (decide (b ≤ C)) (cond (y == 0) ((f115 k (aap.mk m n o) (z == 0)).bind fun q_=>match q_ with | .mk G I J=>(adk k F e f g b d h i j l a p q r G I J)) ((f115 k (aap.mk m n o) false).bind fun q_=>match q_ with | .mk N O S=>(adk k F e f g b d h i j l a p q r N O S))) ((f115 k (aap.mk m n o) false).bind fun q_=>match q_ with | .mk U V W=>(adk k F e f g b d h i j l a p q r U V W))) ((f115 k (aap.mk m n o) false).bind fun q_=>match q_ with | .mk X Y Z=>(adk k F e f g b d h i j l a p q r X Y Z))) ((f115 k (aap.mk m n o) false).bind fun q_=>match q_ with | .mk ab ac ad=>(adk k F e f g b d h i j l a p q r ab ac ad))) ((f115 k (aap.mk m n o) false).bind fun q_=>match q_ with | .mk ae af ah=>(adk k F e f g b d h i j l a p q r ae af ah))) ((f115 k (aap.mk m n o) false).bind fun q_=>match q_ with | .mk ai aj ak=>(adk k F e f g b d h i j l a p q r ai aj ak))))))
def aeK (k:Nat) (F:abz) (a:LS) (b:Int) (d:Int) (e:Int) (f:Bool):Option aap:=((F.f118 (aap.mk d e f) a (w64 (b + 1))).bind fun q_=>match q_ with | .mk g h i=>(some (aap.mk g h i)))
def acR (k:Nat) (F:abz) (f:LS) (b:Int):LE→Nat→Int→Int→Bool→Option aap
 | [],g,d,e,a=>(aeK k F f b d e a)
 | (.mk h i j l m) :: n,g,d,e,a=>(cond (!a) ((f84 k (aap.mk d e a) (aam.mk h i j l m) (w64 (b + 1)) false).bind fun q_=>match q_ with | .mk o p q=>((acR k F f b n) (g + 1) o p q)) (aeK k F f b d e a))
def aeX (k:Nat) (F:abz) (a:LE) (b:LS) (d:Int) (e:Int) (f:Int) (g:Bool):Option aap:=(acR k F b d a 0 e f g)
def afY (k:Nat) (F:abz) (h:Int) (i:BA) (a:LE) (b:LS) (d:Int) (e:Int) (f:Int) (g:Bool):Option aap:=(cond (h == 1) ((f117 k i).bind fun j=>(cond j ((f115 k (aap.mk e f g) true).bind fun q_=>match q_ with | .mk l m n=>(aeX k F a b d l m n)) (cond (h != 1) ((f115 k (aap.mk e f g) (seq i ⟨#[]⟩)).bind fun q_=>match q_ with | .mk o p q=>(aeX k F a b d o p q)) ((f115 k (aap.mk e f g) false).bind fun q_=>match q_ with | .mk r s t=>(aeX k F a b d r s t))))) (cond (h != 1) ((f115 k (aap.mk e f g) (seq i ⟨#[]⟩)).bind fun q_=>match q_ with | .mk u v x=>(aeX k F a b d u v x)) ((f115 k (aap.mk e f g) false).bind fun q_=>match q_ with | .mk y z A=>(aeX k F a b d y z A))))
def agv (k:Nat) (F:abz) (a:Int) (d:BA) (j:Int) (b:LE) (e:LS) (f:Int) (g:Int) (h:Int) (i:Bool) (l:Int):Option aap:=(cond (decide (a ≥ 1)) (cond (decide (a ≤ 4)) (cond ((b.length:Int) == l) ((f115 k (aap.mk g h i) (j == 0)).bind fun q_=>match q_ with | .mk m n o=>(afY k F a d b e f m n o)) ((f115 k (aap.mk g h i) false).bind fun q_=>match q_ with | .mk p q r=>(afY k F a d b e f p q r))) ((f115 k (aap.mk g h i) false).bind fun q_=>match q_ with | .mk s t u=>(afY k F a d b e f s t u))) ((f115 k (aap.mk g h i) false).bind fun q_=>match q_ with | .mk v x y=>(afY k F a d b e f v x y)))
def ajQ (k:Nat) (F:abz):aap→aaz→Int→Option aap:=fun l m a =>
 match l,m,a with
 | .mk n o p,.mk b d e f g,a=>((f114 k (aap.mk n o p) a).bind fun q_=>match q_ with | .mk h i j=>(cond (b == 2) (agv k F b d e f g a h i j 2) (cond (b == 4) (agv k F b d e f g a h i j 0) (agv k F b d e f g a h i j 1))))
def abl (k0:Nat):Nat→abz
 | 0=>{ f118:=fun _ _ _=>none,f142:=fun _ _ _=>none,f169:=fun _ _ _=>none }
 | k + 1=>{ f118:=aqp k0 (abl k0 k),f142:=ajI k0 (abl k0 k),f169:=ajQ k0 (abl k0 k) }
def f118 (k:Nat):aap→LS→Int→Option aap:=(abl k k).f118
def f142 (k:Nat):aap→aaf→Int→Option aap:=(abl k k).f142
def f169 (k:Nat):aap→aaz→Int→Option aap:=(abl k k).f169
def aoz (k:Nat) (a:Int) (b:Int) (d:Bool):Option aap:=(some (aap.mk a b d))
def af9 (k:Nat) (a:Nat) (b:LS) (d:Int) (e:Int) (f:Bool) (nx1:Nat→Int→Int→Bool→Option aap):Option aap:=((f118 k (aap.mk d e f) b 1).bind fun q_=>match q_ with | .mk g h i=>(nx1 (a + 1) g h i))
def ajR (k:Nat) (a:Nat) (b:Int) (d:Int) (e:Bool) (nx2:Nat→Int→Int→Bool→Option aap):Option aap:=(nx2 (a + 1) b d e)
def ae2 (k:Nat) (e:Nat) (f:LS) (nx1:Nat→Int→Int→Bool→Option aap):LP→Nat→Int→Int→Bool→Option aap
 | [],g,b,d,a=>(af9 k e f b d a nx1)
 | (.mk j i) :: h,g,b,d,a=>(cond (!a) ((f117 k j).bind fun l=>(cond l (cond (decide (i ≥ 1)) ((f115 k (aap.mk b d a) (decide (i ≤ 6))).bind fun q_=>match q_ with | .mk m n o=>(ajR k g m n o (ae2 k e f nx1 h))) ((f115 k (aap.mk b d a) false).bind fun q_=>match q_ with | .mk p q r=>(ajR k g p q r (ae2 k e f nx1 h)))) ((f115 k (aap.mk b d a) false).bind fun q_=>match q_ with | .mk s t u=>(ajR k g s t u (ae2 k e f nx1 h))))) (af9 k e f b d a nx1))
def afx (k:Nat) (a:Nat) (b:LP) (d:LS) (e:Int) (f:Int) (g:Bool) (nx1:Nat→Int→Int→Bool→Option aap):Option aap:=(ae2 k a d nx1 b 0 e f g)
def abX (k:Nat)  : LF→Nat→Int→Int→Bool→Option aap
 | [],a,j,l,i=>(aoz k j l i)
 | (.mk o b m p n d) :: e,a,j,l,i=>(cond (!i) ((f114 k (aap.mk j l i) 0).bind fun q_=>match q_ with | .mk f g h=>((f117 k o).bind fun q=>(cond q (cond (decide ((b.length:Int) ≤ 4)) (cond (decide (m ≥ 0)) (cond (decide (m ≤ 6)) (cond (!p) ((f115 k (aap.mk f g h) (n == 0)).bind fun q_=>match q_ with | .mk r s t=>(afx k a b d r s t (abX k e))) (cond (m == 0) ((f115 k (aap.mk f g h) (n == 0)).bind fun q_=>match q_ with | .mk u v x=>(afx k a b d u v x (abX k e))) ((f115 k (aap.mk f g h) false).bind fun q_=>match q_ with | .mk y z A=>(afx k a b d y z A (abX k e))))) ((f115 k (aap.mk f g h) false).bind fun q_=>match q_ with | .mk B C D=>(afx k a b d B C D (abX k e)))) ((f115 k (aap.mk f g h) false).bind fun q_=>match q_ with | .mk G I J=>(afx k a b d G I J (abX k e)))) ((f115 k (aap.mk f g h) false).bind fun q_=>match q_ with | .mk N O S=>(afx k a b d N O S (abX k e)))) ((f115 k (aap.mk f g h) false).bind fun q_=>match q_ with | .mk U V W=>(afx k a b d U V W (abX k e)))))) (aoz k j l i))
def ama (k:Nat) (a:LF) (b:Int) (d:Int) (e:Bool):Option aap:=(abX k a 0 b d e)
def asF (k:Nat):aaa→Option aap:=fun b =>
 match b with
 | .mk a=>(cond (decide ((a.length:Int) ≥ 1)) ((f115 k (aap.mk 0 0 false) (decide ((a.length:Int) ≤ 16))).bind fun q_=>match q_ with | .mk d e f=>(ama k a d e f)) ((f115 k (aap.mk 0 0 false) false).bind fun q_=>match q_ with | .mk g h i=>(ama k a g h i)))
def f85 (k:Nat):aaa→Option aap:=asF k
def atd (k:Nat):aaa→Option Bool:=fun a =>
 match a with
 | .mk b=>((f85 k (aaa.mk b)).bind fun q_=>match q_ with | .mk e f d=>(some (!d)))
def f59 (k:Nat):aaa→Option Bool:=atd k
def alT (k:Nat) (a:Bool):Option Bool:=(some a)
def asB (k:Nat):aaa→Option Bool:=fun b =>
 match b with
 | .mk a=>(cond (decide ((a.length:Int) ≤ 16)) ((f39 k (aaa.mk a)).bind fun q_=>match q_ with | .mk d=>((f59 k (aaa.mk d)).bind fun e=>(alT k e))) (alT k false))
def f37 (k:Nat):aaa→Option Bool:=asB k
def ad0 (k:Nat) (b:BA):LF→Nat→Option Int
 | [],a=>(some (-1))
 | (.mk d f g h i j) :: e,a=>(cond (seq d b) (some (a:Int)) ((ad0 k b e) (a + 1)))
def aph (k:Nat):LF→BA→Option Int:=fun a b=>(ad0 k b a 0)
def f60 (k:Nat):LF→BA→Option Int:=aph k
def ae1 (k:Nat) (b:LF) (d:BA) (e:LP) (f:Int) (g:Bool) (h:Int) (i:LS) (a:LB) (j:(List Int)) (l:Int) (m:Int) (n:BA):List Int→Nat→Option (aas × Int)
 | [],o=>(some ((aas.mk b (aac.mk d e f g h i) a j l m),(-1)))
 | p :: q,o=>((idxO a p).bind fun r=>(cond (seq r n) (some ((aas.mk b (aac.mk d e f g h i) a j l m),p)) ((ae1 k b d e f g h i a j l m n q) (o + 1))))
def arD (k:Nat):aas→BA→Option (aas × Int):=fun d a =>
 match d,a with
 | .mk e (.mk f g h i j l) m b n o,a=>(ae1 k e f g h i j l m b n o a b 0)
def f119 (k:Nat):aas→BA→Option (aas × Int):=arD k
def amG (k:Nat) (a:LF) (b:BA) (d:LP) (e:Int) (f:Bool) (g:Int) (h:LS) (i:LB) (j:(List Int)) (l:Int) (m:Int) (n:Int) (o:Bool):Option aas:=(cond o (some (aas.mk a (aac.mk b d e f g h) i j l n)) (some (aas.mk a (aac.mk b d e f g h) i j l m)))
def asU (k:Nat):aas→Bool→Int→Option aas:=fun p b a =>
 match p,b,a with
 | .mk e (.mk f g h i j l) m n o d,b,a=>(cond (!b) (amG k e f g h i j l m n o d a (d == 0)) (amG k e f g h i j l m n o d a false))
def f88 (k:Nat):aas→Bool→Int→Option aas:=asU k
def asV (k:Nat):aas→BA→Option (aas × Int):=fun e a =>
 match e,a with
 | .mk f (.mk g h i j l m) n o p q,a=>((f119 k (aas.mk f (aac.mk g h i j l m) n o p q) a).bind fun q_=>match q_ with | (.mk r (.mk s t u v x y) z A B C,D)=>((f88 k (aas.mk r (aac.mk s t u v x y) z A B C) (decide (D < 0)) 21).bind fun q_=>match q_ with | .mk G (.mk I J N O S U) b d V W=>(aaP (decide ((b.length + 1) * 16 ≤ 140737488355328)) (aaP (decide ((d.length + 1) * 8 ≤ 140737488355328)) (some ((aas.mk G (aac.mk I J N O S U) (b ++ [a]) (d ++ [(b.length:Int)]) V W),(b.length:Int)))))))
def f86 (k:Nat):aas→BA→Option (aas × Int):=asV k
structure aiu where
 f143:aas→LE→Option (aas × LE)
 f170:aas→aam→Option (aas × aam)
def aes (k:Nat) (F:aiu)  : LE→Nat→LF→BA→LP→Int→Bool→Int→LS→LB→(List Int)→Int→Int→LE→Option (aas × LE)
 | [],o,b,d,e,f,g,h,i,j,l,m,n,a=>(some ((aas.mk b (aac.mk d e f g h i) j l m n),a))
 | (.mk p q r s t) :: u,o,b,d,e,f,g,h,i,j,l,m,n,a=>((F.f170 (aas.mk b (aac.mk d e f g h i) j l m n) (aam.mk p q r s t)).bind fun q_=>match q_ with | (.mk v (.mk x y z A B C) D G I J,.mk N O S U V)=>(aaP (decide ((a.length + 1) * 64 ≤ 140737488355328)) ((aes k F u) (o + 1) v x y z A B C D G I J (a ++ [(aam.mk N O S U V)]))))
def arZ (k:Nat) (F:aiu):aas→LE→Option (aas × LE):=fun b a =>
 match b,a with
 | .mk d (.mk e f g h i j) l m n o,a=>(aes k F a 0 d e f g h i j l m n o ([]:LE))
def ai5 (k:Nat) (F:aiu) (a:Int) (b:Int) (d:BA) (e:LE) (f:LF) (g:BA) (h:LP) (i:Int) (j:Bool) (l:Int) (m:LS) (n:LB) (o:List Int) (p:Int) (q:Int) (r:Int):Option (aas × aam):=((F.f143 (aas.mk f (aac.mk g h i j l m) n o p q) e).bind fun q_=>match q_ with | (.mk s (.mk t u v x y z) A B C D,G)=>(some ((aas.mk s (aac.mk t u v x y z) A B C D),(aam.mk a b d r G))))
def amt (k:Nat) (F:aiu):aas→aam→Option (aas × aam):=fun s t =>
 match s,t with
 | .mk d (.mk e f g h i j) l m n o,.mk a p b u q=>(cond (a == 4) ((f119 k (aas.mk d (aac.mk e f g h i j) l m n o) b).bind fun q_=>match q_ with | (.mk v (.mk x y z A B C) D G I J,r)=>((f88 k (aas.mk v (aac.mk x y z A B C) D G I J) (decide (r ≥ 0)) 20).bind fun q_=>match q_ with | .mk N (.mk O S U V W X) Y Z ab ac=>(ai5 k F a p b q N O S U V W X Y Z ab ac r))) (ai5 k F a p b q d e f g h i j l m n o u))
def adS (k0:Nat):Nat→aiu
 | 0=>{ f143:=fun _ _=>none,f170:=fun _ _=>none }
 | k + 1=>{ f143:=arZ k0 (adS k0 k),f170:=amt k0 (adS k0 k) }
def f143 (k:Nat):aas→LE→Option (aas × LE):=(adS k k).f143
def f170 (k:Nat):aas→aam→Option (aas × aam):=(adS k k).f170
def aoB (k:Nat):aas→aaf→Option (aas × Int):=fun p q =>
 match p,q with
 | .mk a (.mk d e f g h i) j l m n,.mk r ap aq s ar au t av aw ax ay=>((f60 k a s).bind fun b=>(cond (decide (b < 0)) ((f88 k (aas.mk a (aac.mk d e f g h i) j l m n) false 20).bind fun q_=>match q_ with | .mk u (.mk v x y z A B) C D G I=>(some ((aas.mk u (aac.mk v x y z A B) C D G I),0))) ((idxO a b).bind fun q_=>match q_ with | .mk az aA aB J aG aH=>((f88 k (aas.mk a (aac.mk d e f g h i) j l m n) (J == (r == 28)) 25).bind fun q_=>match q_ with | .mk o (.mk N O S U V W) X Y Z ab=>((idxO o b).bind fun q_=>match q_ with | .mk aI ac aJ aK aL aM=>((f88 k (aas.mk o (aac.mk N O S U V W) X Y Z ab) ((t.length:Int) == (ac.length:Int)) 24).bind fun q_=>match q_ with | .mk ad (.mk ae af ah ai aj ak) al am an ao=>(some ((aas.mk ad (aac.mk ae af ah ai aj ak) al am an ao),b))))))))
def f144 (k:Nat):aas→aaf→Option (aas × Int):=aoB k
def adu (k:Nat) (a:Bool):Option Bool:=(cond a (some true) (some false))
def an6 (k:Nat):Int→Option Bool:=fun a=>(cond (a == 1) (adu k (a == 1)) (cond (a == 3) (adu k (a == 3)) (cond (a == 4) (adu k (a == 4)) (cond (a == 5) (adu k (a == 5)) (cond (a == 6) (adu k (a == 6)) (cond (a == 7) (adu k (a == 7)) (cond (a == 8) (adu k (a == 8)) (adu k (a == 9)))))))))
def f145 (k:Nat):Int→Option Bool:=an6 k
structure ae4 where
 f87:aas→LS→Int→Option (aas × LS)
 f120:aas→aaf→Option (aas × aaf)
 f146:aas→BA→LS→Int→Option (aas × Int × LS)
 f147:aas→aaz→Option (aas × aaz)
def ahk (k:Nat) (F:ae4) (a:(List Int)) (p:Int):LS→Nat→LF→BA→LP→Int→Bool→Int→LS→LB→(List Int)→Int→Int→LS→Option (aas × LS)
 | [],q,e,f,g,h,i,j,l,m,b,n,o,d=>(aaP (decide (0 ≤ (a.length:Int)∧(a.length:Int) ≤ (b.length:Int))) (some ((aas.mk e (aac.mk f g h i j l) m (b.take (a.length:Int).toNat) (w64 (n - p)) o),d)))
 | (.mk r s t u v x y z A B C) :: D,q,e,f,g,h,i,j,l,m,b,n,o,d=>((F.f120 (aas.mk e (aac.mk f g h i j l) m b n o) (aaf.mk r s t u v x y z A B C)).bind fun q_=>match q_ with | (.mk G (.mk I J N O S U) V W X Y,.mk Z ab ac ad ae af ah ai aj ak al)=>(aaP (decide ((d.length + 1) * 184 ≤ 140737488355328)) ((ahk k F a p D) (q + 1) G I J N O S U V W X Y (d ++ [(aaf.mk Z ab ac ad ae af ah ai aj ak al)]))))
def arF (k:Nat) (F:ae4):aas→LS→Int→Option (aas × LS):=fun e b a =>
 match e,b,a with
 | .mk f (.mk g h i j l m) n d o p,b,a=>(ahk k F d a b 0 f g h i j l m n d (w64 (o + a)) p ([]:LS))
def ab9 (k:Nat) (F:ae4) (a:Int) (b:BA) (d:BA) (e:Int) (f:LE) (g:Int) (h:Int) (i:LS) (j:LS) (l:LS) (m:LC) (n:LF) (o:BA) (p:LP) (q:Int) (r:Bool) (s:Int) (t:LS) (u:LB) (v:List Int) (x:Int) (y:Int):Option (aas × aaf):=(some ((aas.mk n (aac.mk o p q r s t) u v x y),(aaf.mk a b h d g e f i j l m)))
def ai2 (k:Nat) (F:ae4) (a:Int) (b:BA) (d:BA) (e:Int) (f:LS) (g:LC) (h:LE) (i:Int) (j:LS) (l:LF) (m:BA) (n:LP) (o:Int) (p:Bool) (q:Int) (r:LS) (s:LB) (t:List Int) (u:Int) (v:Int) (x:Int) (y:LS):Option (aas × aaf):=((F.f87 (aas.mk l (aac.mk m n o p q r) s t u v) f 0).bind fun q_=>match q_ with | (.mk z (.mk A B C D G I) J N O S,U)=>(ab9 k F a b d e h i x j y U g z A B C D G I J N O S))
def afR (k:Nat) (F:ae4) (o:Int) (p:BA) (q:BA) (r:Int) (s:LS) (t:LS) (u:LS) (v:LE) (x:Int) (y:Int):LC→Nat→LF→BA→LP→Int→Bool→Int→LS→LB→(List Int)→Int→Int→LC→Option (aas × aaf)
 | [],z,b,d,e,f,g,h,i,j,l,m,n,a=>(ab9 k F o p q r v x y s t u a b d e f g h i j l m n)
 | (.mk A B C D G) :: I,z,b,d,e,f,g,h,i,j,l,m,n,a=>((F.f147 (aas.mk b (aac.mk d e f g h i) j l m n) (aaz.mk A B C D G)).bind fun q_=>match q_ with | (.mk J (.mk N O S U V W) X Y Z ab,.mk ac ad ae af ah)=>(aaP (decide ((a.length + 1) * 80 ≤ 140737488355328)) ((afR k F o p q r s t u v x y I) (z + 1) J N O S U V W X Y Z ab (a ++ [(aaz.mk ac ad ae af ah)]))))
def afX (k:Nat) (F:ae4) (a:Int) (b:BA) (g:BA) (d:Int) (o:LS) (h:LS) (i:LS) (j:LC) (e:LE) (l:Int) (p:LF) (q:BA) (r:LP) (m:Int) (n:Bool) (s:Int) (t:LS) (u:LB) (v:List Int) (f:Int) (x:Int) (y:Int) (V:Bool):Option (aas × aaf):=(cond V ((f88 k (aas.mk p (aac.mk q r m n s t) u v f x) (decide (f > 0)) 22).bind fun q_=>match q_ with | .mk W (.mk X Y Z ab ac ad) ae af ah ai=>(ab9 k F a b g d e l y o h i j W X Y Z ab ac ad ae af ah ai)) (cond (a == 6) (cond (d == 0) ((f88 k (aas.mk p (aac.mk q r m n s t) u v f x) true 22).bind fun q_=>match q_ with | .mk aj (.mk ak al am an ao ap) aq ar au av=>(ab9 k F a b g d e l y o h i j aj ak al am an ao ap aq ar au av)) ((f88 k (aas.mk p (aac.mk q r m n s t) u v f x) (decide (f > 0)) 22).bind fun q_=>match q_ with | .mk aw (.mk ax ay az aA aB aG) aH aI aJ aK=>(ab9 k F a b g d e l y o h i j aw ax ay az aA aB aG aH aI aJ aK))) (cond (a == 29) ((f88 k (aas.mk p (aac.mk q r m n s t) u v f x) n 22).bind fun q_=>match q_ with | .mk aL (.mk aM aN aP aT aU aV) aW aX aY aZ=>(ab9 k F a b g d e l y o h i j aL aM aN aP aT aU aV aW aX aY aZ)) (cond (a == 17) ((f88 k (aas.mk p (aac.mk q r m n s t) u v f x) (((e.length:Int) == 1) == (m != 0)) 22).bind fun q_=>match q_ with | .mk a0 (.mk a1 a2 a3 a4 a5 a6) a7 a8 a9 ba=>(ab9 k F a b g d e l y o h i j a0 a1 a2 a3 a4 a5 a6 a7 a8 a9 ba)) (cond (a == 25) ((F.f146 (aas.mk p (aac.mk q r m n s t) u v f x) b o 0).bind fun q_=>match q_ with | (.mk bb (.mk bd be bf bg bh bi) bj bk bm bn,bo,bp)=>(ab9 k F a b g d e l bo bp h i j bb bd be bf bg bh bi bj bk bm bn)) (cond (a == 28) ((F.f146 (aas.mk p (aac.mk q r m n s t) u v f x) b o 1).bind fun q_=>match q_ with | (.mk bq (.mk br bs bu bv bw bx) bz bB bD bE,bF,bG)=>(ab9 k F a b g d e l bF bG h i j bq br bs bu bv bw bx bz bB bD bE)) (cond (a == 21) ((F.f87 (aas.mk p (aac.mk q r m n s t) u v f x) o 1).bind fun q_=>match q_ with | (.mk bH (.mk bI bJ bK bL bM bP) bQ bR bS bT,bU)=>(ab9 k F a b g d e l y bU h i j bH bI bJ bK bL bM bP bQ bR bS bT)) (cond (a == 24) ((F.f87 (aas.mk p (aac.mk q r m n s t) u v f x) o 0).bind fun q_=>match q_ with | (.mk z (.mk A B C D G I) J N O S,U)=>(cond ((d.tmod 2) == 1) ((F.f146 (aas.mk z (aac.mk A B C D G I) J N O S) b h 0).bind fun q_=>match q_ with | (.mk bV (.mk bW bX bY bZ b0 b1) b2 b3 b4 b5,b6,b7)=>(ai2 k F a b g d i j e l U bV bW bX bY bZ b0 b1 b2 b3 b4 b5 b6 b7)) (ai2 k F a b g d i j e l U z A B C D G I J N O S y h))) (cond (a == 27) (afR k F a b g d o h i e l y j 0 p q r m n s t u v f x ([]:LC)) ((F.f87 (aas.mk p (aac.mk q r m n s t) u v f x) o 0).bind fun q_=>match q_ with | (.mk b8 (.mk b9 cb cc ce cf ch) ci cj ck cl,cm)=>((F.f87 (aas.mk b8 (aac.mk b9 cb cc ce cf ch) ci cj ck cl) h 0).bind fun q_=>match q_ with | (.mk cn (.mk co cq cr cs ct cu) cw cx cy cz,cA)=>(ab9 k F a b g d e l y cm cA i j cn co cq cr cs ct cu cw cx cy cz))))))))))))
def adP (k:Nat) (F:ae4) (a:Int) (b:BA) (d:BA) (e:Int) (f:LS) (g:LS) (h:LS) (i:LC) (j:LE) (l:Int) (m:LF) (n:BA) (o:LP) (p:Int) (q:Bool) (r:Int) (s:LS) (t:LB) (u:List Int) (v:Int) (x:Int) (y:Int):Option (aas × aaf):=(cond (a == 2) ((f119 k (aas.mk m (aac.mk n o p q r s) t u v x) b).bind fun q_=>match q_ with | (.mk A (.mk B C D G I J) N O S U,z)=>((f88 k (aas.mk A (aac.mk B C D G I J) N O S U) (decide (z ≥ 0)) 20).bind fun q_=>match q_ with | .mk V (.mk W X Y Z ab ac) ad ae af ah=>(ab9 k F a b d e j l z f g h i V W X Y Z ab ac ad ae af ah))) (cond (a == 18) (afX k F a b d e f g h i j l m n o p q r s t u v x y (a == 18)) (afX k F a b d e f g h i j l m n o p q r s t u v x y (a == 19))))
def agV (k:Nat) (F:ae4) (b:Int) (a:BA) (y:Int) (d:BA) (e:Int) (f:LS) (g:LS) (h:LS) (i:LC) (j:LE) (l:LF) (m:BA) (n:LP) (o:Int) (p:Bool) (q:Int) (r:LS) (s:LB) (t:List Int) (u:Int) (v:Int) (x:Int) (z:Bool):Option (aas × aaf):=(cond z ((f86 k (aas.mk l (aac.mk m n o p q r) s t u v) a).bind fun q_=>match q_ with | (.mk A (.mk B C D G I J) N O S U,V)=>(adP k F b a d e f g h i j x A B C D G I J N O S U V)) (adP k F b a d e f g h i j x l m n o p q r s t u v y))
def afZ (k:Nat) (F:ae4) (a:Int) (b:BA) (d:Int) (e:BA) (f:Int) (g:LS) (h:LS) (i:LS) (j:LC) (l:LE) (m:LF) (n:BA) (o:LP) (p:Int) (q:Bool) (r:Int) (s:LS) (t:LB) (u:List Int) (v:Int) (x:Int) (y:Int):Option (aas × aaf):=((f145 k a).bind fun z=>(cond z (agV k F a b d e f g h i j l m n o p q r s t u v x y (!seq b ⟨#[]⟩)) (agV k F a b d e f g h i j l m n o p q r s t u v x y false)))
def ame (k:Nat) (F:ae4):aas→aaf→Option (aas × aaf):=fun z A =>
 match z,A with
 | .mk B (.mk C D G I J N) O S U V,.mk b d e a m f W g h i j=>((f143 k (aas.mk B (aac.mk C D G I J N) O S U V) W).bind fun q_=>match q_ with | (.mk n (.mk o p q r s t) u v x y,l)=>(cond (!seq a ⟨#[]⟩) ((f144 k (aas.mk n (aac.mk o p q r s t) u v x y) (aaf.mk b d e a m f l g h i j)).bind fun q_=>match q_ with | (.mk X (.mk Y Z ab ac ad ae) af ah ai aj,ak)=>(afZ k F b d e a f g h i j l X Y Z ab ac ad ae af ah ai aj ak)) (afZ k F b d e a f g h i j l n o p q r s t u v x y m)))
def amg (k:Nat) (F:ae4):aas→BA→LS→Int→Option (aas × Int × LS):=fun g b d e =>
 match g,b,d,e with
 | .mk h (.mk i j l m n o) p a q r,b,d,e=>((f86 k (aas.mk h (aac.mk i j l m n o) p a q r) b).bind fun q_=>match q_ with | (.mk s (.mk t u v x y z) A B C D,G)=>((F.f87 (aas.mk s (aac.mk t u v x y z) A B C D) d e).bind fun q_=>match q_ with | (.mk I (.mk J N O S U V) W f X Y,Z)=>(aaP (decide (0 ≤ (a.length:Int)∧(a.length:Int) ≤ (f.length:Int))) (some ((aas.mk I (aac.mk J N O S U V) W (f.take (a.length:Int).toNat) X Y),G,Z)))))
def amo (k:Nat) (F:ae4):aas→aaz→Option (aas × aaz):=fun r s =>
 match r,s with
 | .mk t (.mk u v x y z A) B C D G,.mk a b I J d=>((f143 k (aas.mk t (aac.mk u v x y z A) B C D G) J).bind fun q_=>match q_ with | (.mk e (.mk f g h i j l) m n o p,q)=>(cond (a == 1) ((F.f146 (aas.mk e (aac.mk f g h i j l) m n o p) b d 0).bind fun q_=>match q_ with | (.mk N (.mk O S U V W X) Y Z ab ac,ad,ae)=>(some ((aas.mk N (aac.mk O S U V W X) Y Z ab ac),(aaz.mk a b ad q ae)))) ((F.f87 (aas.mk e (aac.mk f g h i j l) m n o p) d 0).bind fun q_=>match q_ with | (.mk af (.mk ah ai aj ak al am) an ao ap aq,ar)=>(some ((aas.mk af (aac.mk ah ai aj ak al am) an ao ap aq),(aaz.mk a b I q ar))))))
def ach (k0:Nat):Nat→ae4
 | 0=>{ f87:=fun _ _ _=>none,f120:=fun _ _=>none,f146:=fun _ _ _ _=>none,f147:=fun _ _=>none }
 | k + 1=>{ f87:=arF k0 (ach k0 k),f120:=ame k0 (ach k0 k),f146:=amg k0 (ach k0 k),f147:=amo k0 (ach k0 k) }
def f87 (k:Nat):aas→LS→Int→Option (aas × LS):=(ach k k).f87
def f120 (k:Nat):aas→aaf→Option (aas × aaf):=(ach k k).f120
def f146 (k:Nat):aas→BA→LS→Int→Option (aas × Int × LS):=(ach k k).f146
def f147 (k:Nat):aas→aaz→Option (aas × aaz):=(ach k k).f147
def aoR (k:Nat) (a:LF) (b:BA) (d:LP) (e:Int) (f:Bool) (g:Int) (h:LS) (i:LB) (j:List Int) (l:Int) (m:Int) (n:BA) (o:LP) (p:Int) (q:Bool) (r:Int) (s:LS):Option (aas × aac):=(some ((aas.mk a (aac.mk b d e f g h) i j l m),(aac.mk n o p q r s)))
def afE (k:Nat) (o:BA) (p:LP) (q:Int) (r:Bool) (s:LS):LP→Nat→LF→BA→LP→Int→Bool→Int→LS→LB→(List Int)→Int→Int→Option (aas × aac)
 | [],t,a,b,d,e,f,g,h,i,j,l,m=>((f87 k (aas.mk a (aac.mk b d e f g h) i j l m) s 0).bind fun q_=>match q_ with | (.mk u (.mk v x y z A B) n C D G,I)=>((f88 k (aas.mk u (aac.mk v x y z A B) n C D G) (decide ((n.length:Int) ≤ 32)) 5).bind fun q_=>match q_ with | .mk J (.mk N O S U V W) X Y Z ab=>(aoR k J N O S U V W X Y Z ab o p q r (n.length:Int) I)))
 | (.mk ac aq) :: ad,t,a,b,d,e,f,g,h,i,j,l,m=>((f86 k (aas.mk a (aac.mk b d e f g h) i j l m) ac).bind fun q_=>match q_ with | (.mk ae (.mk af ah ai aj ak al) am an ao ap,ar)=>((afE k o p q r s ad) (t + 1) ae af ah ai aj ak al am an ao ap))
def as6 (k:Nat):LF→aac→Option (aas × aac):=fun a h =>
 match a,h with
 | a,.mk d b e f i g=>(afE k d b e f g b 0 a d b e f i g ([]:LB) ([]:List Int) 0 0)
def f61 (k:Nat):LF→aac→Option (aas × aac):=as6 k
def aol (k:Nat) (a:Int):Option (aaa × Int):=(some ((aaa.mk []),a))
def aoA (k:Nat) (a:LF) (d:Nat) (b:Int) (e:BA) (f:LP) (g:Int) (h:Bool) (i:Int) (j:LS) (nx2:Nat→LF→Option (aaa × Int)):Option (aaa × Int):=(cond (b != 0) (aol k b) (aaP (decide ((a.length + 1) * 88 ≤ 140737488355328)) (nx2 (d + 1) (a ++ [(aac.mk e f g h i j)]))))
def afC (k:Nat) (b:LF):LF→Nat→LF→Option (aaa × Int)
 | [],d,a=>(some ((aaa.mk a),0))
 | (.mk e f g h i j) :: l,d,a=>((f61 k b (aac.mk e f g h i j)).bind fun q_=>match q_ with | (.mk t (.mk u v x y z A) B C D m,.mk n o p q r s)=>(aoA k a d m n o p q r s (afC k b l)))
def af6 (k:Nat) (a:LF):LF→Nat→Option (aaa × Int)
 | [],b=>((f60 k a ⟨#[109,97,105,110]⟩).bind fun d=>(cond (decide (d < 0)) (some ((aaa.mk []),20)) ((idxO a d).bind fun q_=>match q_ with | .mk j e l f m n=>(cond f (some ((aaa.mk []),25)) (cond (decide ((e.length:Int) > 0)) (some ((aaa.mk []),24)) (afC k a a 0 ([]:LF)))))))
 | (.mk g o p q r s) :: h,b=>((f60 k a g).bind fun i=>(cond (decide (i < (b:Int))) (some ((aaa.mk []),21)) ((af6 k a h) (b + 1))))
def atA (k:Nat):aaa→Option (aaa × Int):=fun b =>
 match b with
 | .mk a=>((f59 k (aaa.mk a)).bind fun d=>(cond (!d) (some ((aaa.mk []),2)) (af6 k a a 0)))
def f38 (k:Nat):aaa→Option (aaa × Int):=atA k
def aty (k:Nat):aaa→Option (aaa × Int):=fun b =>
 match b with
 | .mk a=>((f37 k (aaa.mk a)).bind fun d=>(cond (!d) (some ((aaa.mk []),2)) ((f39 k (aaa.mk a)).bind fun q_=>match q_ with | .mk e=>((f38 k (aaa.mk e)).bind fun q_=>match q_ with | (.mk f,g)=>(some ((aaa.mk f),g))))))
def f16 (k:Nat):aaa→Option (aaa × Int):=aty k
structure aqe where
 f45:LE→Int→Option Int
def aoN (k:Nat) (F:aqe) (a:Int):Option Int:=(some a)
def ahU (k:Nat) (F:aqe) (b:Int):LE→Nat→Int→Option Int
 | [],d,a=>(aoN k F a)
 | (.mk h i j l e) :: f,d,a=>(cond (decide (a ≤ 2000)) ((F.f45 e (w64 (b + 1))).bind fun g=>((ahU k F b f) (d + 1) (w64 ((w64 (a + 1)) + g)))) (aoN k F a))
def aqC (k:Nat) (F:aqe):LE→Int→Option Int:=fun b a=>(cond (decide (a > 60)) (some 4000) (ahU k F a b 0 0))
def anT (k0:Nat):Nat→aqe
 | 0=>{ f45:=fun _ _=>none }
 | k + 1=>{ f45:=aqC k0 (anT k0 k) }
def f45 (k:Nat):LE→Int→Option Int:=(anT k k).f45
structure anr where
 f24:LS→Int→Option Int
def aom (k:Nat) (F:anr) (a:Int):Option Int:=(some a)
def aok (k:Nat) (F:anr) (a:Nat) (b:Int) (nx1:Nat→Int→Option Int):Option Int:=(nx1 (a + 1) b)
def ahQ (k:Nat) (F:anr) (b:Int) (d:Nat) (nx1:Nat→Int→Option Int):LC→Nat→Int→Option Int
 | [],e,a=>(aok k F d a nx1)
 | (.mk l m n f g) :: h,e,a=>(cond (decide (a ≤ 2000)) ((f45 k f (w64 (b + 1))).bind fun i=>((F.f24 g (w64 (b + 1))).bind fun j=>((ahQ k F b d nx1 h) (e + 1) (w64 ((w64 ((w64 (a + 1)) + i)) + j))))) (aok k F d a nx1))
def af1 (k:Nat) (F:anr) (a:Int):LS→Nat→Int→Option Int
 | [],d,b=>(aom k F b)
 | (.mk p q r s t u e f g h i) :: j,d,b=>(cond (decide (b ≤ 2000)) ((f45 k e (w64 (a + 1))).bind fun l=>((F.f24 f (w64 (a + 1))).bind fun m=>((F.f24 g (w64 (a + 1))).bind fun n=>((F.f24 h (w64 (a + 1))).bind fun o=>(ahQ k F a d (af1 k F a j) i 0 (w64 ((w64 ((w64 ((w64 ((w64 (b + 1)) + l)) + m)) + n)) + o))))))) (aom k F b))
def ass (k:Nat) (F:anr):LS→Int→Option Int:=fun b a=>(cond (decide (a > 40)) (some 4000) (af1 k F a b 0 0))
def amm (k0:Nat):Nat→anr
 | 0=>{ f24:=fun _ _=>none }
 | k + 1=>{ f24:=ass k0 (amm k0 k) }
def f24 (k:Nat):LS→Int→Option Int:=(amm k k).f24
def asK (k:Nat) (a:Int):Option Bool:=(some (decide (a ≤ 2000)))
def ann (k:Nat)  : LF→Nat→Int→Option Bool
 | [],b,a=>(asK k a)
 | (.mk g h i j l d) :: e,b,a=>(cond (decide (a ≤ 2000)) ((f24 k d 0).bind fun f=>((ann k e) (b + 1) (w64 ((w64 (a + 1)) + f)))) (asK k a))
def f8_b (k:Nat):aaa→Option Bool:=fun a =>
 match a with
 | .mk b=>(ann k b 0 0)
def f8 (k:Nat):aaa→Option Bool:=f8_b k
def ao2 (k:Nat) (a:Bool):Option Bool:=(some a)
def awn (k:Nat):Int→Option Bool:=fun a=>(cond (decide (a < 0)) (ao2 k true) (ao2 k (decide (a > 6))))
def f30 (k:Nat):Int→Option Bool:=awn k
def adi (k:Nat)  : List Int→Nat→Option Int
 | [],a=>(some (-1))
 | b :: d,a=>((f30 k b).bind fun e=>(cond e (some (a:Int)) ((adi k d) (a + 1))))
def agI (k:Nat):(List Int)→Option Int:=fun a=>(adi k a 0)
def ao5 (k:Nat):(List Int)→Option Int:=agI k
def agN (k:Nat):(List Int)→Option Bool:=fun a=>((ao5 k a).bind fun b=>(some (decide (b ≥ 0))))
def aoq (k:Nat):(List Int)→Option Bool:=agN k
def avV (k:Nat):aam→Bool→Option Bool:=fun b a =>
 match b,a with
 | .mk d e f g h,a=>((f53 k (aae.mk 0 0 a) (aam.mk d e f g h) 1).bind fun q_=>match q_ with | (.mk j l m,i)=>(some i))
def f31 (k:Nat):aam→Bool→Option Bool:=avV k
structure afI where
 f32:aam→Int→Option Bool
 f1005440:LE→Int→Option Bool
 f1005532:aam→Int→Option Bool
 f1008147:LE→Unit→Int→Option Bool
 f1008221:aam→Unit→Int→Option Bool
 f1011347:LE→Unit→Int→Option Int
def ajz (k:Nat) (F:afI) (a:Bool):Option Bool:=(some a)
def awK (k:Nat) (F:afI):aam→Int→Option Bool:=fun e a =>
 match e,a with
 | .mk f i j b d,a=>(cond (f != 4) ((F.f1005440 d a).bind fun g=>(ajz k F g)) (cond (decide (b ≥ 0)) (cond (decide (b < a)) ((F.f1005440 d a).bind fun h=>(ajz k F h)) (ajz k F false)) (ajz k F false)))
def agE (k:Nat) (F:afI):LE→Int→Option Bool:=fun a s=>((F.f1008147 a () s).bind fun b=>(some (!b)))
def agO (k:Nat) (F:afI):aam→Int→Option Bool:=fun a b =>
 match a,b with
 | .mk d e f g h,s=>((F.f32 (aam.mk d e f g h) s).bind fun i=>(some i))
def agM (k:Nat) (F:afI):LE→Unit→Int→Option Bool:=fun a _ sA=>((F.f1011347 a () sA).bind fun b=>(some (decide (b ≥ 0))))
def agD (k:Nat) (F:afI):aam→Unit→Int→Option Bool:=fun a b d =>
 match a,b,d with
 | .mk e f g h i,_,sA=>((F.f1005532 (aam.mk e f g h i) sA).bind fun j=>(some (!j)))
def adB (k:Nat) (F:afI) (sA:Int):LE→Nat→Option Int
 | [],a=>(some (-1))
 | (.mk b d e f g) :: h,a=>((F.f1008221 (aam.mk b d e f g) () sA).bind fun i=>(cond i (some (a:Int)) ((adB k F sA h) (a + 1))))
def agX (k:Nat) (F:afI):LE→Unit→Int→Option Int:=fun a _ sA=>(adB k F sA a 0)
def ac7 (k0:Nat):Nat→afI
 | 0=>{ f32:=fun _ _=>none,f1005440:=fun _ _=>none,f1005532:=fun _ _=>none,f1008147:=fun _ _ _=>none,f1008221:=fun _ _ _=>none,f1011347:=fun _ _ _=>none }
 | k + 1=>{ f32:=awK k0 (ac7 k0 k),f1005440:=agE k0 (ac7 k0 k),f1005532:=agO k0 (ac7 k0 k),f1008147:=agM k0 (ac7 k0 k),f1008221:=agD k0 (ac7 k0 k),f1011347:=agX k0 (ac7 k0 k) }
def f32 (k:Nat):aam→Int→Option Bool:=(ac7 k k).f32
def f1005440 (k:Nat):LE→Int→Option Bool:=(ac7 k k).f1005440
def f1005532 (k:Nat):aam→Int→Option Bool:=(ac7 k k).f1005532
def f1008147 (k:Nat):LE→Unit→Int→Option Bool:=(ac7 k k).f1008147
def f1008221 (k:Nat):aam→Unit→Int→Option Bool:=(ac7 k k).f1008221
def f1011347 (k:Nat):LE→Unit→Int→Option Int:=(ac7 k k).f1011347
def amF (k:Nat) (b:Int) (d:Int) (e:BA) (f:Int) (g:LE) (h:(List Int)) (i:Bool):Option (Int × Int):=(cond i (some (0,2)) ((f33 k (aam.mk b d e f g) h).bind fun a=>(cond (a == (-1)) (some (0,23)) (some (a,0)))))
def awk (k:Nat):aam→(List Int)→Option (Int × Int):=fun h a =>
 match h,a with
 | .mk b d e f g,a=>((aoq k a).bind fun i=>((f31 k (aam.mk b d e f g) true).bind fun j=>(cond (!j) (amF k b d e f g a true) ((f32 k (aam.mk b d e f g) (a.length:Int)).bind fun l=>(cond (!l) (amF k b d e f g a true) (amF k b d e f g a i))))))
def f13 (k:Nat):aam→(List Int)→Option (Int × Int):=awk k
def au1 (k:Nat):LS→Option aaa:=fun a=>(some (aaa.mk [(aac.mk ⟨#[109,97,105,110]⟩ [] 0 false 0 []),(aac.mk ⟨#[102]⟩ [] 1 false 0 [(aaf.mk 21 ⟨#[]⟩ 0 ⟨#[]⟩ 0 0 [(aam.mk 2 1 ⟨#[]⟩ 0 [])] a [] [] [])])]))
def f25 (k:Nat):LS→Option aaa:=au1 k
def anv (k:Nat) (a:Bool):Option Bool:=(some a)
def f9_b (k:Nat):Option Bool:=((f25 k []).bind fun q_=>match q_ with | .mk a=>((f10 k (aaa.mk a)).bind fun q_=>match q_ with | (.mk h,b)=>((f25 k [(aaf.mk 18 ⟨#[]⟩ 0 ⟨#[]⟩ 0 0 [] [] [] [] [])]).bind fun q_=>match q_ with | .mk d=>((f10 k (aaa.mk d)).bind fun q_=>match q_ with | (.mk i,e)=>((f13 k (aam.mk 11 0 ⟨#[]⟩ 0 [(aam.mk 1 0 ⟨#[]⟩ 0 []),(aam.mk 4 0 ⟨#[120]⟩ 1 [])]) [3,1]).bind fun q_=>match q_ with | (f,g)=>(cond (b == 0) (cond (e == 26) (cond (g == 0) (cond (f == 2) (anv k true) (anv k false)) (anv k false)) (anv k false)) (anv k false)))))))
def f9 (k:Nat):Option Bool:=f9_b k
def aqM (k:Nat) (a:Bool):Option Bool:=(some a)
def alQ (k:Nat) (a:Bool):Option Bool:=(some a)
def f5_b (k:Nat):aaa→Option Bool:=fun e =>
 match e with
 | .mk b=>((f8 k (aaa.mk b)).bind fun f=>(cond (!f) ((f9 k ).bind fun g=>(some g)) ((f10 k (aaa.mk b)).bind fun q_=>match q_ with | (.mk m,a)=>((f16 k (aaa.mk b)).bind fun q_=>match q_ with | (.mk n,d)=>(cond (d != 0) (cond (a == d) ((f9 k ).bind fun h=>(aqM k h)) (aqM k false)) (cond (a == 0) ((f9 k ).bind fun i=>(alQ k i)) (cond (a == 23) ((f9 k ).bind fun j=>(alQ k j)) (cond (a == 26) ((f9 k ).bind fun l=>(alQ k l)) (alQ k false)))))))))
def f5 (k:Nat):aaa→Option Bool:=f5_b k
def ah6 (X:aaf→Option (List LS)):Prop:=∀ {K w b d a},X b=some a→GK K→aai K b d→ SR K K w w [] []→Calls Tryz.prog 124 #[.agg d.toArray] w (Ret (fun v_ w_=>∃ K_ Ar0 cr0,v_=sl Ar0 a cr0∧SR K K_ w w_ [] []∧RSl LS (RSlE aaf (fun K=>(aai K)) 11 184 K_) 1 24 K_ Ar0 cr0 a))
def acK (X:LS→Option Bool):Prop:=∀ {K w a b d e},X a=some e→GK K→tS K b d a→ SR K K w w [] []→Calls Tryz.prog 92 #[sl b a d] w (Ret (fun v_ w_=>∃ K_,v_=.bool e∧SR K K_ w w_ [] []))
def ab6 (X:aaf→Option Bool):Prop:=∀ {K w a b d},X a=some d→GK K→aai K a b→ SR K K w w [] []→Calls Tryz.prog 122 #[.agg b.toArray] w (Ret (fun v_ w_=>∃ K_,v_=.bool d∧SR K K_ w w_ [] []))
def aa4 (X:LS→Option Bool):Prop:=∀ {K w a b d e},X a=some e→GK K→tS K b d a→ SR K K w w [] []→Calls Tryz.prog 64 #[sl b a d,.func (.func 122) #[] #[]] w (Ret (fun v_ w_=>∃ K_,v_=.bool e∧SR K K_ w w_ [] []))
def abf (X:LS→Option Int):Prop:=∀ {K w a b d e},X a=some e→GK K→tS K b d a→ SR K K w w [] []→Calls Tryz.prog 91 #[sl b a d,.func (.func 122) #[] #[]] w (Ret (fun v_ w_=>∃ K_,v_=iI e∧SR K K_ w w_ [] []))
def abb (X:(List LS)→Option Bool):Prop:=∀ {K w a b d e},X a=some e→GK K→RSl LS (RSlE aaf (fun K=>(aai K)) 11 184 K) 1 24 K b d a→ SR K K w w [] []→Calls Tryz.prog 123 #[sl b a d,.func (.func 92) #[] #[]] w (Ret (fun v_ w_=>∃ K_,v_=.bool e∧SR K K_ w w_ [] []))
def aba (X:(List LS)→Option Int):Prop:=∀ {K w a b d e},X a=some e→GK K→RSl LS (RSlE aaf (fun K=>(aai K)) 11 184 K) 1 24 K b d a→ SR K K w w [] []→Calls Tryz.prog 148 #[sl b a d,.func (.func 92) #[] #[]] w (Ret (fun v_ w_=>∃ K_,v_=iI e∧SR K K_ w w_ [] []))
def abT (X:LS→Option Bool):Prop:=∀ {K w a b d e},X a=some e→GK K→tS K b d a→ SR K K w w [] []→Calls Tryz.prog 40 #[sl b a d] w (Ret (fun v_ w_=>∃ K_,v_=.bool e∧SR K K_ w w_ [] []))
def abS (X:aaf→Option Bool):Prop:=∀ {K w a b d},X a=some d→GK K→aai K a b→ SR K K w w [] []→Calls Tryz.prog 65 #[.agg b.toArray] w (Ret (fun v_ w_=>∃ K_,v_=.bool d∧SR K K_ w w_ [] []))
def abU (X:aaz→Option Bool):Prop:=∀ {K w a b d},X a=some d→GK K→aaB K a b→ SR K K w w [] []→Calls Tryz.prog 94 #[.agg b.toArray] w (Ret (fun v_ w_=>∃ K_,v_=.bool d∧SR K K_ w w_ [] []))
def aaS (X:LS→Option Bool):Prop:=∀ {K w a b d e},X a=some e→GK K→tS K b d a→ SR K K w w [] []→Calls Tryz.prog 64 #[sl b a d,.func (.func 65) #[] #[]] w (Ret (fun v_ w_=>∃ K_,v_=.bool e∧SR K K_ w w_ [] []))
def aaV (X:LS→Option Int):Prop:=∀ {K w a b d e},X a=some e→GK K→tS K b d a→ SR K K w w [] []→Calls Tryz.prog 91 #[sl b a d,.func (.func 65) #[] #[]] w (Ret (fun v_ w_=>∃ K_,v_=iI e∧SR K K_ w w_ [] []))
def aaR (X:LC→Option Bool):Prop:=∀ {K w a b d e},X a=some e→GK K→tC K b d a→ SR K K w w [] []→Calls Tryz.prog 93 #[sl b a d,.func (.func 94) #[] #[]] w (Ret (fun v_ w_=>∃ K_,v_=.bool e∧SR K K_ w w_ [] []))
def aaT (X:LC→Unit→Option Bool):Prop:=∀ {K w a b d g bs e},X a ()=some e→GK K→tC K b d a→ (fun E:Ents=>SR K K w w E E→Calls Tryz.prog 125 #[sl b a d,.func (.func 126) #[] #[.pointer (some ⟨g,0,none⟩)]] w (Ret (fun v_ w_=>∃ K_,v_=.bool e∧SR K K_ w w_ E E))) [.box bs g #[.func (.func 94) #[] #[]] 137]
def aaU (X:aaz→Unit→Option Bool):Prop:=∀ {K w a b g bs d},X a ()=some d→GK K→aaB K a b→ (fun E:Ents=>SR K K w w E E→Calls Tryz.prog 126 #[.agg b.toArray,.pointer (some ⟨g,0,none⟩)] w (Ret (fun v_ w_=>∃ K_,v_=.bool d∧SR K K_ w w_ E E))) [.box bs g #[.func (.func 94) #[] #[]] 137]
def aaW (X:LC→Unit→Option Int):Prop:=∀ {K w a b d g bs e},X a ()=some e→GK K→tC K b d a→ (fun E:Ents=>SR K K w w E E→Calls Tryz.prog 149 #[sl b a d,.func (.func 126) #[] #[.pointer (some ⟨g,0,none⟩)]] w (Ret (fun v_ w_=>∃ K_,v_=iI e∧SR K K_ w w_ E E))) [.box bs g #[.func (.func 94) #[] #[]] 137]
def alm (X:aac→Option (List Int)):Prop:=∀ {K w b d a},X b=some a→GK K→aar K b d→ SR K K w w [] []→Calls Tryz.prog 42 #[.agg d.toArray] w (Ret (fun v_ w_=>∃ K_ Ar0 cr0 yr0,v_=sl Ar0 a cr0∧SR K K_ w w_ [] [eW (zz w) Ar0 a cr0 3 1 yr0]∧Reps (RInt .i64) 1 a yr0∧a.length * 8 ≤ mB))
def amR (X:LP→Option LP):Prop:=∀ {K w a d e b},X a=some b→GK K→tP K d e a→ SR K K w w [] []→Calls Tryz.prog 129 #[sl d a e] w (Ret (fun v_ w_=>∃ K_ Ar0 cr0,v_=sl Ar0 b cr0∧SR K K_ w w_ [] []∧tP K_ Ar0 cr0 b))
def aiZ (X:aam→Option Int):Prop:=∀ {K w a b d},X a=some d→GK K→aan K a b→ SR K K w w [] []→Calls Tryz.prog 157 #[.agg b.toArray] w (Ret (fun v_ w_=>∃ K_,v_=iI d∧SR K K_ w w_ [] []))
def abK (X:LE→Option LE):Prop:=∀ {K w a d e b},X a=some b→GK K→tE K d e a→ SR K K w w [] []→Calls Tryz.prog 159 #[sl d a e,.func (.func 157) #[] #[]] w (Ret (fun v_ w_=>∃ K_ Ar0 cr0,v_=sl Ar0 b cr0∧SR K K_ w w_ [] []∧tE K_ Ar0 cr0 b))
def abI (X:aam→Option aam):Prop:=∀ {K w a b d},X a=some d→GK K→aan K a b→ SR K K w w [] []→Calls Tryz.prog 178 #[.agg b.toArray,.func (.func 157) #[] #[]] w (Ret (fun v_ w_=>∃ K_ csr0,v_=.agg csr0.toArray∧SR K K_ w w_ [] []∧aan K_ d csr0))
def ahN (X:aam→Option Int):Prop:=∀ {K w a b d},X a=some d→GK K→aan K a b→ SR K K w w [] []→Calls Tryz.prog 158 #[.agg b.toArray] w (Ret (fun v_ w_=>∃ K_,v_=iI d∧SR K K_ w w_ [] []))
def abJ (X:LE→Option LE):Prop:=∀ {K w a d e b},X a=some b→GK K→tE K d e a→ SR K K w w [] []→Calls Tryz.prog 159 #[sl d a e,.func (.func 158) #[] #[]] w (Ret (fun v_ w_=>∃ K_ Ar0 cr0,v_=sl Ar0 b cr0∧SR K K_ w w_ [] []∧tE K_ Ar0 cr0 b))
def abG (X:aam→Option aam):Prop:=∀ {K w a b d},X a=some d→GK K→aan K a b→ SR K K w w [] []→Calls Tryz.prog 178 #[.agg b.toArray,.func (.func 158) #[] #[]] w (Ret (fun v_ w_=>∃ K_ csr0,v_=.agg csr0.toArray∧SR K K_ w w_ [] []∧aan K_ d csr0))
def adZ (X:LS→Bool→Option LS):Prop:=∀ {K w a d e f b},X a f=some b→GK K→tS K d e a→ SR K K w w [] []→Calls Tryz.prog 130 #[sl d a e,.bool f] w (Ret (fun v_ w_=>∃ K_ Ar0 cr0,v_=sl Ar0 b cr0∧SR K K_ w w_ [] []∧tS K_ Ar0 cr0 b))
def ah3 (X:aaa→Bool→Option aaa):Prop:=∀ {K w a b d e},X a d=some e→GK K→aah K a b→ SR K K w w [] []→Calls Tryz.prog 100 #[.agg b.toArray,.bool d] w (Ret (fun v_ w_=>∃ K_ csr0,v_=.agg csr0.toArray∧SR K K_ w w_ [] []∧aah K_ e csr0))
def ahA (X:Bool→Int→Option (Except Int Unit)):Prop:=∀ {K w a b res_},X a b=some res_→GK K→ SR K K w w [] []→Calls Tryz.prog 98 #[.bool a,iI b] w (RetP (fun v_ w_=>∃ K_,res_=.ok ()∧v_=.tuple #[]∧SR K K_ w w_ [] []) (fun v_ w_=>∃ c_ K_,res_=.error c_∧v_=.iface 140 (.agg #[iI c_])∧SR K K_ w w_ [] []))
def ah4 (X:Option (List (Int × aaI))):Prop:=∀ {K w a},X =some a→GK K→ SR K K w w [] []→Calls Tryz.prog 189 #[] w (Ret (fun v_ w_=>∃ K_ br0 er0 cr0,v_=.map (some br0)∧SR K K_ w w_ [] [.mp (zz w) br0 er0 cr0]∧MapR kI (VAgg (aaJ K_)) a er0.toList))
def akX (X:Int→Int→Int→Option Bool):Prop:=∀ {K w a b d e},X a b d=some e→GK K→ SR K K w w [] []→Calls Tryz.prog 77 #[iI a,iI b,iI d] w (Ret (fun v_ w_=>∃ K_,v_=.bool e∧SR K K_ w w_ [] []))
def ahM (X:aaf→Option Bool):Prop:=∀ {K w a b d},X a=some d→GK K→aai K a b→ SR K K w w [] []→Calls Tryz.prog 190 #[.agg b.toArray] w (Ret (fun v_ w_=>∃ K_,v_=.bool d∧SR K K_ w w_ [] []))
def aj6 (X:aae→Int→Option (aae × Bool)):Prop:=∀ {K w g bs a b d e f h i j},X (aae.mk a b d) e=some ((aae.mk f h i),j)→GK K→ (fun E:Ents=>SR K K w w E E→Calls Tryz.prog 76 #[.pointer (some ⟨g,0,none⟩),iI e] w (Ret (fun v_ w_=>∃ K_,v_=.bool j∧SR K K_ w w_ E [.box bs g #[iI f,iI h,.bool i] 96]))) [.box bs g #[iI a,iI b,.bool d] 96]
def ais (X:Int→Option Bool):Prop:=∀ {K w a b},X a=some b→GK K→ SR K K w w [] []→Calls Tryz.prog 135 #[.int .u8 a] w (Ret (fun v_ w_=>∃ K_,v_=.bool b∧SR K K_ w w_ [] []))
def aiF (X:Int→Option Bool):Prop:=∀ {K w a b},X a=some b→GK K→ SR K K w w [] []→Calls Tryz.prog 136 #[.int .u8 a] w (Ret (fun v_ w_=>∃ K_,v_=.bool b∧SR K K_ w w_ [] []))
def air (X:BA→Option Bool):Prop:=∀ {K w a b},X a=some b→GK K→a.size ≤ mB→ SR K K w w [] []→Calls Tryz.prog 111 #[.string a] w (Ret (fun v_ w_=>∃ K_,v_=.bool b∧SR K K_ w w_ [] []))
def ai6 (X:LB→BA→Option Int):Prop:=∀ {K w a d e b f},X a b=some f→GK K→RSl BA RStr 1 16 K d e a→b.size ≤ mB→ SR K K w w [] []→Calls Tryz.prog 165 #[sl d a e,.string b] w (Ret (fun v_ w_=>∃ K_,v_=iI f∧SR K K_ w w_ [] []))
def ahZ (X:LB→BA→Option Bool):Prop:=∀ {K w a d e b f},X a b=some f→GK K→RSl BA RStr 1 16 K d e a→b.size ≤ mB→ SR K K w w [] []→Calls Tryz.prog 137 #[sl d a e,.string b] w (Ret (fun v_ w_=>∃ K_,v_=.bool f∧SR K K_ w w_ [] []))
def al6 (X:Option LB):Prop:=∀ {K w a},X =some a→GK K→ SR K K w w [] []→Calls Tryz.prog 138 #[] w (Ret (fun v_ w_=>∃ K_ Ar0 cr0,v_=sl Ar0 a cr0∧SR K K_ w w_ [] []∧RSl BA RStr 1 16 K_ Ar0 cr0 a))
def ait (X:BA→Option Bool):Prop:=∀ {K w a b},X a=some b→GK K→a.size ≤ mB→ SR K K w w [] []→Calls Tryz.prog 112 #[.string a] w (Ret (fun v_ w_=>∃ K_,v_=.bool b∧SR K K_ w w_ [] []))
def ak4 (X:BA→Option Bool):Prop:=∀ {K w a b},X a=some b→GK K→a.size ≤ mB→ SR K K w w [] []→Calls Tryz.prog 79 #[.string a] w (Ret (fun v_ w_=>∃ K_,v_=.bool b∧SR K K_ w w_ [] []))
def ahH (X:BA→Option Bool):Prop:=∀ {K w a b},X a=some b→GK K→a.size ≤ mB→ SR K K w w [] []→Calls Tryz.prog 95 #[.string a] w (Ret (fun v_ w_=>∃ K_,v_=.bool b∧SR K K_ w w_ [] []))
def aog (X:BA→Option Bool):Prop:=∀ {K w a b},X a=some b→GK K→a.size ≤ mB→ SR K K w w [] []→Calls Tryz.prog 78 #[.string a] w (Ret (fun v_ w_=>∃ K_,v_=.bool b∧SR K K_ w w_ [] []))
def aer (X:aae→aam→Int→Option (aae × Bool)):Prop:=∀ {K w g bs a b d e f h i j k l},X (aae.mk a b d) e h=some ((aae.mk i j k),l)→GK K→aan K e f→ (fun E:Ents=>SR K K w w E E→Calls Tryz.prog 53 #[.pointer (some ⟨g,0,none⟩),.agg f.toArray,iI h] w (Ret (fun v_ w_=>∃ K_,v_=.bool l∧SR K K_ w w_ E [.box bs g #[iI i,iI j,.bool k] 96]))) [.box bs g #[iI a,iI b,.bool d] 96]
def aeu (X:aae→LE→Int→Option (aae × Bool)):Prop:=∀ {K w g bs a b d e f h i j k l m},X (aae.mk a b d) e i=some ((aae.mk j k l),m)→GK K→tE K f h e→ (fun E:Ents=>SR K K w w E E→Calls Tryz.prog 80 #[.pointer (some ⟨g,0,none⟩),sl f e h,iI i] w (Ret (fun v_ w_=>∃ K_,v_=.bool m∧SR K K_ w w_ E [.box bs g #[iI j,iI k,.bool l] 96]))) [.box bs g #[iI a,iI b,.bool d] 96]
def ac2 (X:aae→LS→Int→Option (aae × Bool)):Prop:=∀ {K w g bs a b d e f h i j k l m},X (aae.mk a b d) e i=some ((aae.mk j k l),m)→GK K→tS K f h e→ (fun E:Ents=>SR K K w w E E→Calls Tryz.prog 156 #[.pointer (some ⟨g,0,none⟩),sl f e h,iI i] w (Ret (fun v_ w_=>∃ K_,v_=.bool m∧SR K K_ w w_ E [.box bs g #[iI j,iI k,.bool l] 96]))) [.box bs g #[iI a,iI b,.bool d] 96]
def ac5 (X:aae→aaf→Int→Option (aae × Bool)):Prop:=∀ {K w g bs a b d e f h i j k l},X (aae.mk a b d) e h=some ((aae.mk i j k),l)→GK K→aai K e f→ (fun E:Ents=>SR K K w w E E→Calls Tryz.prog 177 #[.pointer (some ⟨g,0,none⟩),.agg f.toArray,iI h] w (Ret (fun v_ w_=>∃ K_,v_=.bool l∧SR K K_ w w_ E [.box bs g #[iI i,iI j,.bool k] 96]))) [.box bs g #[iI a,iI b,.bool d] 96]
def acY (X:aae→aaz→Int→Option (aae × Bool)):Prop:=∀ {K w g bs a b d e f h i j k l},X (aae.mk a b d) e h=some ((aae.mk i j k),l)→GK K→aaB K e f→ (fun E:Ents=>SR K K w w E E→Calls Tryz.prog 191 #[.pointer (some ⟨g,0,none⟩),.agg f.toArray,iI h] w (Ret (fun v_ w_=>∃ K_,v_=.bool l∧SR K K_ w w_ E [.box bs g #[iI i,iI j,.bool k] 96]))) [.box bs g #[iI a,iI b,.bool d] 96]
def ail (X:aae→aaa→Option (aae × Bool)):Prop:=∀ {K w g bs a b d e f h i j k},X (aae.mk a b d) e=some ((aae.mk h i j),k)→GK K→aah K e f→ (fun E:Ents=>SR K K w w E E→Calls Tryz.prog 128 #[.pointer (some ⟨g,0,none⟩),.agg f.toArray] w (Ret (fun v_ w_=>∃ K_,v_=.bool k∧SR K K_ w w_ E [.box bs g #[iI h,iI i,.bool j] 96]))) [.box bs g #[iI a,iI b,.bool d] 96]
def ahJ (X:aaa→Bool→Option Bool):Prop:=∀ {K w a b d e},X a d=some e→GK K→aah K a b→ SR K K w w [] []→Calls Tryz.prog 99 #[.agg b.toArray,.bool d] w (Ret (fun v_ w_=>∃ K_,v_=.bool e∧SR K K_ w w_ [] []))
def akl (X:aaa→Option (Except Int aaa)):Prop:=∀ {K w a b res_},X a=some res_→GK K→aah K a b→ SR K K w w [] []→Calls Tryz.prog 70 #[.agg b.toArray] w (RetP (fun v_ w_=>∃ d K_ csr0,res_=.ok d∧v_=.agg csr0.toArray∧SR K K_ w w_ [] []∧aah K_ d csr0) (fun v_ w_=>∃ c_ K_,res_=.error c_∧v_=.iface 140 (.agg #[iI c_])∧SR K K_ w w_ [] []))
def aef (X:aaa→aaa→Option (Except Int (aaa × aaa))):Prop:=∀ {K w g bs a b d gA bsA sA_0 AsA_0 csA_0 res_},X (aaa.mk a) (aaa.mk sA_0)=some res_→GK K→tF K b d a→tF K AsA_0 csA_0 sA_0→ (fun E:Ents=>SR K K w w E E→Calls Tryz.prog 69 #[.pointer (some ⟨g,0,none⟩),.pointer (some ⟨gA,0,none⟩)] w (RetP (fun v_ w_=>∃ e zA_0 K_ Az_0 cz_0 AzA_0 czA_0,res_=.ok ((aaa.mk e),(aaa.mk zA_0))∧v_=.tuple #[]∧SR K K_ w w_ E [.box bs g #[sl Az_0 e cz_0] 24,.box bsA gA #[sl AzA_0 zA_0 czA_0] 24]∧tF K_ Az_0 cz_0 e∧tF K_ AzA_0 czA_0 zA_0) (fun v_ w_=>∃ c_ K_,res_=.error c_∧v_=.iface 140 (.agg #[iI c_])∧SR K K_ w w_ E E))) [.box bs g #[sl b a d] 24,.box bsA gA #[sl AsA_0 sA_0 csA_0] 24]
def af2 (X:aaa→aaa→Option (aaa × aaa × Int)):Prop:=∀ {K w g bs a b d gA bsA sA_0 AsA_0 csA_0 e zA_0 f},X (aaa.mk a) (aaa.mk sA_0)=some ((aaa.mk e),(aaa.mk zA_0),f)→GK K→tF K b d a→tF K AsA_0 csA_0 sA_0→ (fun E:Ents=>SR K K w w E E→Calls Tryz.prog 68 #[.func (.func 69) #[] #[.pointer (some ⟨g,0,none⟩),.pointer (some ⟨gA,0,none⟩)]] w (Ret (fun v_ w_=>∃ K_ Az_0 cz_0 AzA_0 czA_0,v_=iI f∧SR K K_ w w_ E [.box bs g #[sl Az_0 e cz_0] 24,.box bsA gA #[sl AzA_0 zA_0 czA_0] 24]∧tF K_ Az_0 cz_0 e∧tF K_ AzA_0 czA_0 zA_0))) [.box bs g #[sl b a d] 24,.box bsA gA #[sl AsA_0 sA_0 csA_0] 24]
def ak9 (X:aaa→Option (aaa × Int)):Prop:=∀ {K w a b d e},X a=some (d,e)→GK K→aah K a b→ SR K K w w [] []→Calls Tryz.prog 46 #[.agg b.toArray] w (Ret (fun v_ w_=>∃ K_ csr0,v_=.tuple #[.agg csr0.toArray,iI e]∧SR K K_ w w_ [] []∧aah K_ d csr0))
def aeq (X:aac→aac→Option Bool):Prop:=∀ {K w m n g bs a b e f h i j d k l o},X m (aac.mk a b h i j d)=some o→GK K→aar K m n→a.size ≤ mB→tP K e f b→tS K k l d→ (fun E:Ents=>SR K K w w E E→Calls Tryz.prog 103 #[.agg n.toArray,.pointer (some ⟨g,0,none⟩)] w (Ret (fun v_ w_=>∃ K_,v_=.bool o∧SR K K_ w w_ E E))) [.box bs g (aF a e b f h i j k d l) 52]
def aex (X:LF→aac→Option Int):Prop:=∀ {K w m n o g bs a b e f h i j d k l p},X m (aac.mk a b h i j d)=some p→GK K→tF K n o m→a.size ≤ mB→tP K e f b→tS K k l d→ (fun E:Ents=>SR K K w w E E→Calls Tryz.prog 132 #[sl n m o,.func (.func 103) #[] #[.pointer (some ⟨g,0,none⟩)]] w (Ret (fun v_ w_=>∃ K_,v_=iI p∧SR K K_ w w_ E E))) [.box bs g (aF a e b f h i j k d l) 52]
def ada (X:LF→aac→Option Bool):Prop:=∀ {K w m n o g bs a b e f h i j d k l p},X m (aac.mk a b h i j d)=some p→GK K→tF K n o m→a.size ≤ mB→tP K e f b→tS K k l d→ (fun E:Ents=>SR K K w w E E→Calls Tryz.prog 102 #[sl n m o,.func (.func 103) #[] #[.pointer (some ⟨g,0,none⟩)]] w (Ret (fun v_ w_=>∃ K_,v_=.bool p∧SR K K_ w w_ E E))) [.box bs g (aF a e b f h i j k d l) 52]
def aiO (X:aad→BA→Option (Int × Bool)):Prop:=∀ {K w g bs br i m n j k o p q r s l t u a d e v b f h x y z A B},X (aad.mk (aaa.mk i) (aac.mk j k q r s l) a b y) z=some (A,B)→GK K→tF K m n i→j.size ≤ mB→tP K o p k→tS K t u l→Reps RStr 1 a v→a.length * 16 ≤ mB→StkR kS VInt b x→b.length * 8 ≤ mB→br ≤ (zz w)→z.size ≤ mB→ (fun E:Ents=>SR K K w w E E→Calls Tryz.prog 160 #[.pointer (some ⟨g,0,none⟩),.string z] w (Ret (fun v_ w_=>∃ K_,v_=.tuple #[iI A,.bool B]∧SR K K_ w w_ E E))) [.box bs g (aR m i n j o k p q r s t l u d a e f b h y) 176,eW br d a e 9 1 v,eK br f b h 173 x]
def aie (X:aad→BA→Option (Except Int (aad × Int))):Prop:=∀ {K w g bs br i o p j k q r s t u l v x a d e y b f h z A B res_},X (aad.mk (aaa.mk i) (aac.mk j k s t u l) a b A) B=some res_→GK K→tF K o p i→j.size ≤ mB→tP K q r k→tS K v x l→Reps RStr 1 a y→a.length * 16 ≤ mB→StkR kS VInt b z→b.length * 8 ≤ mB→br ≤ (zz w)→B.size ≤ mB→ (fun E:Ents=>SR K K w w E E→Calls Tryz.prog 133 #[.pointer (some ⟨g,0,none⟩),.string B] w (RetP (fun v_ w_=>∃ C D G J N O I m n S U K_ Az_0_0 cz_0_0 Az_1_1 cz_1_1 Az_1_5 cz_1_5 Az_2 cz_2 yz_2 Az_3 cz_3 yz_3,res_=.ok ((aad.mk (aaa.mk C) (aac.mk D G J N O I) m n S),U)∧v_=iI U∧SR K K_ w w_ E [.box bs g (aR Az_0_0 C cz_0_0 D Az_1_1 G cz_1_1 J N O Az_1_5 I cz_1_5 Az_2 m cz_2 Az_3 n cz_3 S) 176,eW br Az_2 m cz_2 9 1 yz_2,eK br Az_3 n cz_3 173 yz_3]∧tF K_ Az_0_0 cz_0_0 C∧D.size ≤ mB∧tP K_ Az_1_1 cz_1_1 G∧tS K_ Az_1_5 cz_1_5 I∧Reps RStr 1 m yz_2∧m.length * 16 ≤ mB∧StkR kS VInt n yz_3∧n.length * 8 ≤ mB) (fun v_ w_=>∃ c_ K_,res_=.error c_∧v_=.iface 140 (.agg #[iI c_])∧SR K K_ w w_ E []))) [.box bs g (aR o i p j q k r s t u v l x d a e f b h A) 176,eW br d a e 9 1 y,eK br f b h 173 z]
def aew (X:aam→aad→Option (Except Int Int)):Prop:=∀ {K w z A gr bsr g bs br i m n j k o p q r s l t u a d e v b f h x y res_},X z (aad.mk (aaa.mk i) (aac.mk j k q r s l) a b y)=some res_→GK K→aan K z A→tF K m n i→j.size ≤ mB→tP K o p k→tS K t u l→Reps RStr 1 a v→a.length * 16 ≤ mB→StkR kS VInt b x→b.length * 8 ≤ mB→br ≤ (zz w)→ (fun E:Ents=>SR K K w w E E→Calls Tryz.prog 179 #[.agg A.toArray,.pointer (some ⟨gr,0,none⟩)] w (RetP (fun v_ w_=>∃ B K_,res_=.ok B∧v_=iI B∧SR K K_ w w_ E E) (fun v_ w_=>∃ c_ K_,res_=.error c_∧v_=.iface 140 (.agg #[iI c_])∧SR K K_ w w_ E []))) [.box bsr gr #[.pointer (some ⟨g,0,none⟩)] 172,.box bs g (aR m i n j o k p q r s t l u d a e f b h y) 176,eW br d a e 9 1 v,eK br f b h 173 x]
def abD (X:LE→aad→Option (Except Int LE)):Prop:=∀ {K w z B C gr bsr g bs br i m n j k o p q r s l t u a d e v b f h x y res_},X z (aad.mk (aaa.mk i) (aac.mk j k q r s l) a b y)=some res_→GK K→tE K B C z→tF K m n i→j.size ≤ mB→tP K o p k→tS K t u l→Reps RStr 1 a v→a.length * 16 ≤ mB→StkR kS VInt b x→b.length * 8 ≤ mB→br ≤ (zz w)→ (fun E:Ents=>SR K K w w E E→Calls Tryz.prog 159 #[sl B z C,.func (.func 179) #[] #[.pointer (some ⟨gr,0,none⟩)]] w (RetP (fun v_ w_=>∃ A K_ Ar0 cr0,res_=.ok A∧v_=sl Ar0 A cr0∧SR K K_ w w_ E E∧tE K_ Ar0 cr0 A) (fun v_ w_=>∃ c_ K_,res_=.error c_∧v_=.iface 140 (.agg #[iI c_])∧SR K K_ w w_ E []))) [.box bsr gr #[.pointer (some ⟨g,0,none⟩)] 172,.box bs g (aR m i n j o k p q r s t l u d a e f b h y) 176,eW br d a e 9 1 v,eK br f b h 173 x]
def abH (X:aam→aad→Option (Except Int aam)):Prop:=∀ {K w z A gr bsr g bs br i m n j k o p q r s l t u a d e v b f h x y res_},X z (aad.mk (aaa.mk i) (aac.mk j k q r s l) a b y)=some res_→GK K→aan K z A→tF K m n i→j.size ≤ mB→tP K o p k→tS K t u l→Reps RStr 1 a v→a.length * 16 ≤ mB→StkR kS VInt b x→b.length * 8 ≤ mB→br ≤ (zz w)→ (fun E:Ents=>SR K K w w E E→Calls Tryz.prog 178 #[.agg A.toArray,.func (.func 179) #[] #[.pointer (some ⟨gr,0,none⟩)]] w (RetP (fun v_ w_=>∃ B K_ csr0,res_=.ok B∧v_=.agg csr0.toArray∧SR K K_ w w_ E E∧aan K_ B csr0) (fun v_ w_=>∃ c_ K_,res_=.error c_∧v_=.iface 140 (.agg #[iI c_])∧SR K K_ w w_ E []))) [.box bsr gr #[.pointer (some ⟨g,0,none⟩)] 172,.box bs g (aR m i n j o k p q r s t l u d a e f b h y) 176,eW br d a e 9 1 v,eK br f b h 173 x]
def ahL (X:aad→LE→Option (Except Int LE)):Prop:=∀ {K w g bs br i m n j k o p q r s l t u a d e v b f h x y z B C res_},X (aad.mk (aaa.mk i) (aac.mk j k q r s l) a b y) z=some res_→GK K→tF K m n i→j.size ≤ mB→tP K o p k→tS K t u l→Reps RStr 1 a v→a.length * 16 ≤ mB→StkR kS VInt b x→b.length * 8 ≤ mB→br ≤ (zz w)→tE K B C z→ (fun E:Ents=>SR K K w w E E→Calls Tryz.prog 161 #[.pointer (some ⟨g,0,none⟩),sl B z C] w (RetP (fun v_ w_=>∃ A K_ Ar0 cr0,res_=.ok A∧v_=sl Ar0 A cr0∧SR K K_ w w_ E E∧tE K_ Ar0 cr0 A) (fun v_ w_=>∃ c_ K_,res_=.error c_∧v_=.iface 140 (.agg #[iI c_])∧SR K K_ w w_ E []))) [.box bs g (aR m i n j o k p q r s t l u d a e f b h y) 176,eW br d a e 9 1 v,eK br f b h 173 x]
def aet (X:aac→aaf→Option Bool):Prop:=∀ {K w y z gr bsr g bs j a k b l m d n o e p q f r s h t u i v x A},X y (aaf.mk j a k b l m d e f h i)=some A→GK K→aar K y z→a.size ≤ mB→b.size ≤ mB→tE K n o d→tS K p q e→tS K r s f→tS K t u h→tC K v x i→ (fun E:Ents=>SR K K w w E E→Calls Tryz.prog 180 #[.agg z.toArray,.pointer (some ⟨gr,0,none⟩)] w (Ret (fun v_ w_=>∃ K_,v_=.bool A∧SR K K_ w w_ E E))) [.box bsr gr #[.pointer (some ⟨g,0,none⟩)] 206,.box bs g (aS j a k b l m n d o p e q r f s t h u v i x) 62]
def aem (X:LF→aaf→Option Int):Prop:=∀ {K w y z A gr bsr g bs j a k b l m d n o e p q f r s h t u i v x B},X y (aaf.mk j a k b l m d e f h i)=some B→GK K→tF K z A y→a.size ≤ mB→b.size ≤ mB→tE K n o d→tS K p q e→tS K r s f→tS K t u h→tC K v x i→ (fun E:Ents=>SR K K w w E E→Calls Tryz.prog 132 #[sl z y A,.func (.func 180) #[] #[.pointer (some ⟨gr,0,none⟩)]] w (Ret (fun v_ w_=>∃ K_,v_=iI B∧SR K K_ w w_ E E))) [.box bsr gr #[.pointer (some ⟨g,0,none⟩)] 206,.box bs g (aS j a k b l m n d o p e q r f s t h u v i x) 62]
def ai4 (X:aad→aaf→Option (Except Int (aad × aaf))):Prop:=∀ {K w g bs br i o p j k q r s t u l v x a d e y b f h z A gA bsA sA_0 sA_1 sA_2 sA_3 sA_4 sA_5 sA_6 AsA_6 csA_6 sA_7 AsA_7 csA_7 sA_8 AsA_8 csA_8 sA_9 AsA_9 csA_9 sA_10 AsA_10 csA_10 res_},X (aad.mk (aaa.mk i) (aac.mk j k s t u l) a b A) (aaf.mk sA_0 sA_1 sA_2 sA_3 sA_4 sA_5 sA_6 sA_7 sA_8 sA_9 sA_10)=some res_→GK K→tF K o p i→j.size ≤ mB→tP K q r k→tS K v x l→Reps RStr 1 a y→a.length * 16 ≤ mB→StkR kS VInt b z→b.length * 8 ≤ mB→br ≤ (zz w)→sA_1.size ≤ mB→sA_3.size ≤ mB→tE K AsA_6 csA_6 sA_6→tS K AsA_7 csA_7 sA_7→tS K AsA_8 csA_8 sA_8→tS K AsA_9 csA_9 sA_9→tC K AsA_10 csA_10 sA_10→ (fun E:Ents=>SR K K w w E E→Calls Tryz.prog 163 #[.pointer (some ⟨g,0,none⟩),.pointer (some ⟨gA,0,none⟩)] w (RetP (fun v_ w_=>∃ B C D I J N G m n O zA_0 zA_1 zA_2 zA_3 zA_4 zA_5 zA_6 zA_7 zA_8 zA_9 zA_10 K_ Az_0_0 cz_0_0 Az_1_1 cz_1_1 Az_1_5 cz_1_5 Az_2 cz_2 yz_2 Az_3 cz_3 yz_3 AzA_6 czA_6 AzA_7 czA_7 AzA_8 czA_8 AzA_9 czA_9 AzA_10 czA_10,res_=.ok ((aad.mk (aaa.mk B) (aac.mk C D I J N G) m n O),(aaf.mk zA_0 zA_1 zA_2 zA_3 zA_4 zA_5 zA_6 zA_7 zA_8 zA_9 zA_10))∧v_=.tuple #[]∧SR K K_ w w_ E [.box bs g (aR Az_0_0 B cz_0_0 C Az_1_1 D cz_1_1 I J N Az_1_5 G cz_1_5 Az_2 m cz_2 Az_3 n cz_3 O) 176,eW br Az_2 m cz_2 9 1 yz_2,eK br Az_3 n cz_3 173 yz_3,.box bsA gA (aS zA_0 zA_1 zA_2 zA_3 zA_4 zA_5 AzA_6 zA_6 czA_6 AzA_7 zA_7 czA_7 AzA_8 zA_8 czA_8 AzA_9 zA_9 czA_9 AzA_10 zA_10 czA_10) 62]∧tF K_ Az_0_0 cz_0_0 B∧C.size ≤ mB∧tP K_ Az_1_1 cz_1_1 D∧tS K_ Az_1_5 cz_1_5 G∧Reps RStr 1 m yz_2∧m.length * 16 ≤ mB∧StkR kS VInt n yz_3∧n.length * 8 ≤ mB∧zA_1.size ≤ mB∧zA_3.size ≤ mB∧tE K_ AzA_6 czA_6 zA_6∧tS K_ AzA_7 czA_7 zA_7∧tS K_ AzA_8 czA_8 zA_8∧tS K_ AzA_9 czA_9 zA_9∧tC K_ AzA_10 czA_10 zA_10) (fun v_ w_=>∃ c_ K_,res_=.error c_∧v_=.iface 140 (.agg #[iI c_])∧SR K K_ w w_ E []))) [.box bs g (aR o i p j q k r s t u v l x d a e f b h A) 176,eW br d a e 9 1 y,eK br f b h 173 z,.box bsA gA (aS sA_0 sA_1 sA_2 sA_3 sA_4 sA_5 AsA_6 sA_6 csA_6 AsA_7 sA_7 csA_7 AsA_8 sA_8 csA_8 AsA_9 sA_9 csA_9 AsA_10 sA_10 csA_10) 62]
def ab3 (X:aad→aaf→Option (Except Int (aad × aaf))):Prop:=∀ {K w g bs br i o p j k q r s t u l v x a d e y b f h z A I J res_},X (aad.mk (aaa.mk i) (aac.mk j k s t u l) a b A) I=some res_→GK K→tF K o p i→j.size ≤ mB→tP K q r k→tS K v x l→Reps RStr 1 a y→a.length * 16 ≤ mB→StkR kS VInt b z→b.length * 8 ≤ mB→br ≤ (zz w)→aai K I J→ (fun E:Ents=>SR K K w w E E→Calls Tryz.prog 134 #[.pointer (some ⟨g,0,none⟩),.agg J.toArray] w (RetP (fun v_ w_=>∃ B C D N O S G m n U V K_ Az_0_0 cz_0_0 Az_1_1 cz_1_1 Az_1_5 cz_1_5 Az_2 cz_2 yz_2 Az_3 cz_3 yz_3 csr0,res_=.ok ((aad.mk (aaa.mk B) (aac.mk C D N O S G) m n U),V)∧v_=.agg csr0.toArray∧SR K K_ w w_ E [.box bs g (aR Az_0_0 B cz_0_0 C Az_1_1 D cz_1_1 N O S Az_1_5 G cz_1_5 Az_2 m cz_2 Az_3 n cz_3 U) 176,eW br Az_2 m cz_2 9 1 yz_2,eK br Az_3 n cz_3 173 yz_3]∧tF K_ Az_0_0 cz_0_0 B∧C.size ≤ mB∧tP K_ Az_1_1 cz_1_1 D∧tS K_ Az_1_5 cz_1_5 G∧Reps RStr 1 m yz_2∧m.length * 16 ≤ mB∧StkR kS VInt n yz_3∧n.length * 8 ≤ mB∧aai K_ V csr0) (fun v_ w_=>∃ c_ K_,res_=.error c_∧v_=.iface 140 (.agg #[iI c_])∧SR K K_ w w_ E []))) [.box bs g (aR o i p j q k r s t u v l x d a e f b h A) 176,eW br d a e 9 1 y,eK br f b h 173 z]
def abc (X:aad→BA→LS→aaz→Option (Except Int (aad × aaz × LS))):Prop:=∀ {K w g bs br i o p j k q r s t u l v x a d e y b f h z A B C O S gA bsA sA_0 sA_1 sA_2 sA_3 AsA_3 csA_3 sA_4 AsA_4 csA_4 res_},X (aad.mk (aaa.mk i) (aac.mk j k s t u l) a b A) B C (aaz.mk sA_0 sA_1 sA_2 sA_3 sA_4)=some res_→GK K→tF K o p i→j.size ≤ mB→tP K q r k→tS K v x l→Reps RStr 1 a y→a.length * 16 ≤ mB→StkR kS VInt b z→b.length * 8 ≤ mB→br ≤ (zz w)→B.size ≤ mB→tS K O S C→sA_1.size ≤ mB→tE K AsA_3 csA_3 sA_3→tS K AsA_4 csA_4 sA_4→ (fun E:Ents=>SR K K w w E E→Calls Tryz.prog 162 #[.pointer (some ⟨g,0,none⟩),.string B,sl O C S,.pointer (some ⟨gA,2,none⟩)] w (RetP (fun v_ w_=>∃ D G I U V W J m n Y zA_0 zA_1 zA_2 zA_3 zA_4 N K_ Az_0_0 cz_0_0 Az_1_1 cz_1_1 Az_1_5 cz_1_5 Az_2 cz_2 yz_2 Az_3 cz_3 yz_3 AzA_3 czA_3 AzA_4 czA_4 Ar0 cr0,res_=.ok ((aad.mk (aaa.mk D) (aac.mk G I U V W J) m n Y),(aaz.mk zA_0 zA_1 zA_2 zA_3 zA_4),N)∧v_=sl Ar0 N cr0∧SR K K_ w w_ E [.box bs g (aR Az_0_0 D cz_0_0 G Az_1_1 I cz_1_1 U V W Az_1_5 J cz_1_5 Az_2 m cz_2 Az_3 n cz_3 Y) 176,eW br Az_2 m cz_2 9 1 yz_2,eK br Az_3 n cz_3 173 yz_3,.box bsA gA (aC' zA_0 zA_1 zA_2 AzA_3 zA_3 czA_3 AzA_4 zA_4 czA_4) 84]∧tF K_ Az_0_0 cz_0_0 D∧G.size ≤ mB∧tP K_ Az_1_1 cz_1_1 I∧tS K_ Az_1_5 cz_1_5 J∧Reps RStr 1 m yz_2∧m.length * 16 ≤ mB∧StkR kS VInt n yz_3∧n.length * 8 ≤ mB∧zA_1.size ≤ mB∧tE K_ AzA_3 czA_3 zA_3∧tS K_ AzA_4 czA_4 zA_4∧tS K_ Ar0 cr0 N) (fun v_ w_=>∃ c_ K_,res_=.error c_∧v_=.iface 140 (.agg #[iI c_])∧SR K K_ w w_ E []))) [.box bs g (aR o i p j q k r s t u v l x d a e f b h A) 176,eW br d a e 9 1 y,eK br f b h 173 z,.box bsA gA (aC' sA_0 sA_1 sA_2 AsA_3 sA_3 csA_3 AsA_4 sA_4 csA_4) 84]
def aa5 (X:aad→BA→LS→aaf→Option (Except Int (aad × aaf × LS))):Prop:=∀ {K w g bs br i o p j k q r s t u l v x a d e y b f h z A B C O S gA bsA sA_0 sA_1 sA_2 sA_3 sA_4 sA_5 sA_6 AsA_6 csA_6 sA_7 AsA_7 csA_7 sA_8 AsA_8 csA_8 sA_9 AsA_9 csA_9 sA_10 AsA_10 csA_10 res_},X (aad.mk (aaa.mk i) (aac.mk j k s t u l) a b A) B C (aaf.mk sA_0 sA_1 sA_2 sA_3 sA_4 sA_5 sA_6 sA_7 sA_8 sA_9 sA_10)=some res_→GK K→tF K o p i→j.size ≤ mB→tP K q r k→tS K v x l→Reps RStr 1 a y→a.length * 16 ≤ mB→StkR kS VInt b z→b.length * 8 ≤ mB→br ≤ (zz w)→B.size ≤ mB→tS K O S C→sA_1.size ≤ mB→sA_3.size ≤ mB→tE K AsA_6 csA_6 sA_6→tS K AsA_7 csA_7 sA_7→tS K AsA_8 csA_8 sA_8→tS K AsA_9 csA_9 sA_9→tC K AsA_10 csA_10 sA_10→ (fun E:Ents=>SR K K w w E E→Calls Tryz.prog 162 #[.pointer (some ⟨g,0,none⟩),.string B,sl O C S,.pointer (some ⟨gA,2,none⟩)] w (RetP (fun v_ w_=>∃ D G I U V W J m n Y zA_0 zA_1 zA_2 zA_3 zA_4 zA_5 zA_6 zA_7 zA_8 zA_9 zA_10 N K_ Az_0_0 cz_0_0 Az_1_1 cz_1_1 Az_1_5 cz_1_5 Az_2 cz_2 yz_2 Az_3 cz_3 yz_3 AzA_6 czA_6 AzA_7 czA_7 AzA_8 czA_8 AzA_9 czA_9 AzA_10 czA_10 Ar0 cr0,res_=.ok ((aad.mk (aaa.mk D) (aac.mk G I U V W J) m n Y),(aaf.mk zA_0 zA_1 zA_2 zA_3 zA_4 zA_5 zA_6 zA_7 zA_8 zA_9 zA_10),N)∧v_=sl Ar0 N cr0∧SR K K_ w w_ E [.box bs g (aR Az_0_0 D cz_0_0 G Az_1_1 I cz_1_1 U V W Az_1_5 J cz_1_5 Az_2 m cz_2 Az_3 n cz_3 Y) 176,eW br Az_2 m cz_2 9 1 yz_2,eK br Az_3 n cz_3 173 yz_3,.box bsA gA (aS zA_0 zA_1 zA_2 zA_3 zA_4 zA_5 AzA_6 zA_6 czA_6 AzA_7 zA_7 czA_7 AzA_8 zA_8 czA_8 AzA_9 zA_9 czA_9 AzA_10 zA_10 czA_10) 62]∧tF K_ Az_0_0 cz_0_0 D∧G.size ≤ mB∧tP K_ Az_1_1 cz_1_1 I∧tS K_ Az_1_5 cz_1_5 J∧Reps RStr 1 m yz_2∧m.length * 16 ≤ mB∧StkR kS VInt n yz_3∧n.length * 8 ≤ mB∧zA_1.size ≤ mB∧zA_3.size ≤ mB∧tE K_ AzA_6 czA_6 zA_6∧tS K_ AzA_7 czA_7 zA_7∧tS K_ AzA_8 czA_8 zA_8∧tS K_ AzA_9 czA_9 zA_9∧tC K_ AzA_10 czA_10 zA_10∧tS K_ Ar0 cr0 N) (fun v_ w_=>∃ c_ K_,res_=.error c_∧v_=.iface 140 (.agg #[iI c_])∧SR K K_ w w_ E []))) [.box bs g (aR o i p j q k r s t u v l x d a e f b h A) 176,eW br d a e 9 1 y,eK br f b h 173 z,.box bsA gA (aS sA_0 sA_1 sA_2 sA_3 sA_4 sA_5 AsA_6 sA_6 csA_6 AsA_7 sA_7 csA_7 AsA_8 sA_8 csA_8 AsA_9 sA_9 csA_9 AsA_10 sA_10 csA_10) 62]
def aa6 (X:aad→BA→LS→Option (Except Int (aad × LS))):Prop:=∀ {K w g bs br i o p j k q r s t u l v x a d e y b f h z A B C O S res_},X (aad.mk (aaa.mk i) (aac.mk j k s t u l) a b A) B C=some res_→GK K→tF K o p i→j.size ≤ mB→tP K q r k→tS K v x l→Reps RStr 1 a y→a.length * 16 ≤ mB→StkR kS VInt b z→b.length * 8 ≤ mB→br ≤ (zz w)→B.size ≤ mB→tS K O S C→ (fun E:Ents=>SR K K w w E E→Calls Tryz.prog 162 #[.pointer (some ⟨g,0,none⟩),.string B,sl O C S,.pointer none] w (RetP (fun v_ w_=>∃ D G I U V W J m n Y N K_ Az_0_0 cz_0_0 Az_1_1 cz_1_1 Az_1_5 cz_1_5 Az_2 cz_2 yz_2 Az_3 cz_3 yz_3 Ar0 cr0,res_=.ok ((aad.mk (aaa.mk D) (aac.mk G I U V W J) m n Y),N)∧v_=sl Ar0 N cr0∧SR K K_ w w_ E [.box bs g (aR Az_0_0 D cz_0_0 G Az_1_1 I cz_1_1 U V W Az_1_5 J cz_1_5 Az_2 m cz_2 Az_3 n cz_3 Y) 176,eW br Az_2 m cz_2 9 1 yz_2,eK br Az_3 n cz_3 173 yz_3]∧tF K_ Az_0_0 cz_0_0 D∧G.size ≤ mB∧tP K_ Az_1_1 cz_1_1 I∧tS K_ Az_1_5 cz_1_5 J∧Reps RStr 1 m yz_2∧m.length * 16 ≤ mB∧StkR kS VInt n yz_3∧n.length * 8 ≤ mB∧tS K_ Ar0 cr0 N) (fun v_ w_=>∃ c_ K_,res_=.error c_∧v_=.iface 140 (.agg #[iI c_])∧SR K K_ w w_ E []))) [.box bs g (aR o i p j q k r s t u v l x d a e f b h A) 176,eW br d a e 9 1 y,eK br f b h 173 z]
def abd (X:aad→BA→LS→aaf→Option (Except Int (aad × aaf × LS))):Prop:=∀ {K w g bs br i o p j k q r s t u l v x a d e y b f h z A B C O S gA bsA sA_0 sA_1 sA_2 sA_3 sA_4 sA_5 sA_6 AsA_6 csA_6 sA_7 AsA_7 csA_7 sA_8 AsA_8 csA_8 sA_9 AsA_9 csA_9 sA_10 AsA_10 csA_10 res_},X (aad.mk (aaa.mk i) (aac.mk j k s t u l) a b A) B C (aaf.mk sA_0 sA_1 sA_2 sA_3 sA_4 sA_5 sA_6 sA_7 sA_8 sA_9 sA_10)=some res_→GK K→tF K o p i→j.size ≤ mB→tP K q r k→tS K v x l→Reps RStr 1 a y→a.length * 16 ≤ mB→StkR kS VInt b z→b.length * 8 ≤ mB→br ≤ (zz w)→B.size ≤ mB→tS K O S C→sA_1.size ≤ mB→sA_3.size ≤ mB→tE K AsA_6 csA_6 sA_6→tS K AsA_7 csA_7 sA_7→tS K AsA_8 csA_8 sA_8→tS K AsA_9 csA_9 sA_9→tC K AsA_10 csA_10 sA_10→ (fun E:Ents=>SR K K w w E E→Calls Tryz.prog 164 #[.pointer (some ⟨g,0,none⟩),.string B,sl O C S,.pointer (some ⟨gA,2,none⟩)] w (RetP (fun v_ w_=>∃ D G I U V W J m n Y zA_0 zA_1 zA_2 zA_3 zA_4 zA_5 zA_6 zA_7 zA_8 zA_9 zA_10 N K_ Az_0_0 cz_0_0 Az_1_1 cz_1_1 Az_1_5 cz_1_5 Az_2 cz_2 yz_2 Az_3 cz_3 yz_3 AzA_6 czA_6 AzA_7 czA_7 AzA_8 czA_8 AzA_9 czA_9 AzA_10 czA_10 Ar0 cr0,res_=.ok ((aad.mk (aaa.mk D) (aac.mk G I U V W J) m n Y),(aaf.mk zA_0 zA_1 zA_2 zA_3 zA_4 zA_5 zA_6 zA_7 zA_8 zA_9 zA_10),N)∧v_=sl Ar0 N cr0∧SR K K_ w w_ E [.box bs g (aR Az_0_0 D cz_0_0 G Az_1_1 I cz_1_1 U V W Az_1_5 J cz_1_5 Az_2 m cz_2 Az_3 n cz_3 Y) 176,eW br Az_2 m cz_2 9 1 yz_2,eK br Az_3 n cz_3 173 yz_3,.box bsA gA (aS zA_0 zA_1 zA_2 zA_3 zA_4 zA_5 AzA_6 zA_6 czA_6 AzA_7 zA_7 czA_7 AzA_8 zA_8 czA_8 AzA_9 zA_9 czA_9 AzA_10 zA_10 czA_10) 62]∧tF K_ Az_0_0 cz_0_0 D∧G.size ≤ mB∧tP K_ Az_1_1 cz_1_1 I∧tS K_ Az_1_5 cz_1_5 J∧Reps RStr 1 m yz_2∧m.length * 16 ≤ mB∧StkR kS VInt n yz_3∧n.length * 8 ≤ mB∧zA_1.size ≤ mB∧zA_3.size ≤ mB∧tE K_ AzA_6 czA_6 zA_6∧tS K_ AzA_7 czA_7 zA_7∧tS K_ AzA_8 czA_8 zA_8∧tS K_ AzA_9 czA_9 zA_9∧tC K_ AzA_10 czA_10 zA_10∧tS K_ Ar0 cr0 N) (fun v_ w_=>∃ c_ K_,res_=.error c_∧v_=.iface 140 (.agg #[iI c_])∧SR K K_ w w_ E []))) [.box bs g (aR o i p j q k r s t u v l x d a e f b h A) 176,eW br d a e 9 1 y,eK br f b h 173 z,.box bsA gA (aS sA_0 sA_1 sA_2 sA_3 sA_4 sA_5 AsA_6 sA_6 csA_6 AsA_7 sA_7 csA_7 AsA_8 sA_8 csA_8 AsA_9 sA_9 csA_9 AsA_10 sA_10 csA_10) 62]
def aa8 (X:aad→BA→LS→Option (Except Int (aad × LS))):Prop:=∀ {K w g bs br i o p j k q r s t u l v x a d e y b f h z A B C O S res_},X (aad.mk (aaa.mk i) (aac.mk j k s t u l) a b A) B C=some res_→GK K→tF K o p i→j.size ≤ mB→tP K q r k→tS K v x l→Reps RStr 1 a y→a.length * 16 ≤ mB→StkR kS VInt b z→b.length * 8 ≤ mB→br ≤ (zz w)→B.size ≤ mB→tS K O S C→ (fun E:Ents=>SR K K w w E E→Calls Tryz.prog 164 #[.pointer (some ⟨g,0,none⟩),.string B,sl O C S,.pointer none] w (RetP (fun v_ w_=>∃ D G I U V W J m n Y N K_ Az_0_0 cz_0_0 Az_1_1 cz_1_1 Az_1_5 cz_1_5 Az_2 cz_2 yz_2 Az_3 cz_3 yz_3 Ar0 cr0,res_=.ok ((aad.mk (aaa.mk D) (aac.mk G I U V W J) m n Y),N)∧v_=sl Ar0 N cr0∧SR K K_ w w_ E [.box bs g (aR Az_0_0 D cz_0_0 G Az_1_1 I cz_1_1 U V W Az_1_5 J cz_1_5 Az_2 m cz_2 Az_3 n cz_3 Y) 176,eW br Az_2 m cz_2 9 1 yz_2,eK br Az_3 n cz_3 173 yz_3]∧tF K_ Az_0_0 cz_0_0 D∧G.size ≤ mB∧tP K_ Az_1_1 cz_1_1 I∧tS K_ Az_1_5 cz_1_5 J∧Reps RStr 1 m yz_2∧m.length * 16 ≤ mB∧StkR kS VInt n yz_3∧n.length * 8 ≤ mB∧tS K_ Ar0 cr0 N) (fun v_ w_=>∃ c_ K_,res_=.error c_∧v_=.iface 140 (.agg #[iI c_])∧SR K K_ w w_ E []))) [.box bs g (aR o i p j q k r s t u v l x d a e f b h A) 176,eW br d a e 9 1 y,eK br f b h 173 z]
def af0 (X:aaa→aac→Option (Except Int (aac × LB))):Prop:=∀ {K w b d e f res_},X b e=some res_→GK K→aah K b d→aar K e f→ SR K K w w [] []→Calls Tryz.prog 104 #[.agg d.toArray,.agg f.toArray] w (RetP (fun v_ w_=>∃ g a K_ csr0 Ar1 cr1,res_=.ok (g,a)∧v_=.tuple #[.agg csr0.toArray,sl Ar1 a cr1]∧SR K K_ w w_ [] []∧aar K_ g csr0∧RSl BA RStr 1 16 K_ Ar1 cr1 a) (fun v_ w_=>∃ c_ K_,res_=.error c_∧v_=.iface 140 (.agg #[iI c_])∧SR K K_ w w_ [] []))
def akI (X:aaa→Option (Except Int (aaa × (List LB)))):Prop:=∀ (K:KH) (w:World) (b:aaa) (d:List Value) (res_:(Except Int (aaa × (List LB)))),X b=some res_→GK K→aah K b d→ SR K K w w [] []→Calls Tryz.prog 72 #[.agg d.toArray] w (RetP (fun v_ w_=>∃ e a K_ csr0 Ar1 cr1,res_=.ok (e,a)∧v_=.tuple #[.agg csr0.toArray,sl Ar1 a cr1]∧SR K K_ w w_ [] []∧aah K_ e csr0∧RSl LB (RSlE BA (fun K=>RStr) 1 16 K_) 1 24 K_ Ar1 cr1 a) (fun v_ w_=>∃ c_ K_,res_=.error c_∧v_=.iface 140 (.agg #[iI c_])∧SR K K_ w w_ [] []))
def aeA (X:aaa→aaa→Option (Except Int (aaa × aaa))):Prop:=∀ {K w g bs a b d gA bsA sA_0 AsA_0 csA_0 res_},X (aaa.mk a) (aaa.mk sA_0)=some res_→GK K→tF K b d a→tF K AsA_0 csA_0 sA_0→ (fun E:Ents=>SR K K w w E E→Calls Tryz.prog 71 #[.pointer (some ⟨g,0,none⟩),.pointer (some ⟨gA,0,none⟩)] w (RetP (fun v_ w_=>∃ e zA_0 K_ Az_0 cz_0 AzA_0 czA_0,res_=.ok ((aaa.mk e),(aaa.mk zA_0))∧v_=.tuple #[]∧SR K K_ w w_ E [.box bs g #[sl Az_0 e cz_0] 24,.box bsA gA #[sl AzA_0 zA_0 czA_0] 24]∧tF K_ Az_0 cz_0 e∧tF K_ AzA_0 czA_0 zA_0) (fun v_ w_=>∃ c_ K_,res_=.error c_∧v_=.iface 140 (.agg #[iI c_])∧SR K K_ w w_ E E))) [.box bs g #[sl b a d] 24,.box bsA gA #[sl AsA_0 sA_0 csA_0] 24]
def agc (X:aaa→aaa→Option (aaa × aaa × Int)):Prop:=∀ {K w g bs a b d gA bsA sA_0 AsA_0 csA_0 e zA_0 f},X (aaa.mk a) (aaa.mk sA_0)=some ((aaa.mk e),(aaa.mk zA_0),f)→GK K→tF K b d a→tF K AsA_0 csA_0 sA_0→ (fun E:Ents=>SR K K w w E E→Calls Tryz.prog 68 #[.func (.func 71) #[] #[.pointer (some ⟨g,0,none⟩),.pointer (some ⟨gA,0,none⟩)]] w (Ret (fun v_ w_=>∃ K_ Az_0 cz_0 AzA_0 czA_0,v_=iI f∧SR K K_ w w_ E [.box bs g #[sl Az_0 e cz_0] 24,.box bsA gA #[sl AzA_0 zA_0 czA_0] 24]∧tF K_ Az_0 cz_0 e∧tF K_ AzA_0 czA_0 zA_0))) [.box bs g #[sl b a d] 24,.box bsA gA #[sl AsA_0 sA_0 csA_0] 24]
def akY (X:aaa→Option (aaa × Int)):Prop:=∀ {K w a b d e},X a=some (d,e)→GK K→aah K a b→ SR K K w w [] []→Calls Tryz.prog 47 #[.agg b.toArray] w (Ret (fun v_ w_=>∃ K_ csr0,v_=.tuple #[.agg csr0.toArray,iI e]∧SR K K_ w w_ [] []∧aah K_ d csr0))
def alA (X:Option (List (Int × aaH))):Prop:=∀ {K w a},X =some a→GK K→ SR K K w w [] []→Calls Tryz.prog 56 #[] w (Ret (fun v_ w_=>∃ K_ br0 er0 cr0,v_=.map (some br0)∧SR K K_ w w_ [] [.mp (zz w) br0 er0 cr0]∧MapR kI (VAgg (aaw K_)) a er0.toList))
def akD (X:(List Int)→Int→Option Int):Prop:=∀ {K w a b d e f},X a e=some f→GK K→RSl Int (RInt .i64) 1 8 K b d a→ SR K K w w [] []→Calls Tryz.prog 83 #[sl b a d,iI e] w (Ret (fun v_ w_=>∃ K_,v_=iI f∧SR K K_ w w_ [] []))
def aku (X:(List Int)→Int→Option Bool):Prop:=∀ {K w a b d e f},X a e=some f→GK K→RSl Int (RInt .i64) 1 8 K b d a→ SR K K w w [] []→Calls Tryz.prog 57 #[sl b a d,iI e] w (Ret (fun v_ w_=>∃ K_,v_=.bool f∧SR K K_ w w_ [] []))
def afq (X:aam→(List Int)→Option Int):Prop:=∀ {K w b d a e f g},X b a=some g→GK K→aan K b d→RSl Int (RInt .i64) 1 8 K e f a→ SR K K w w [] []→Calls Tryz.prog 33 #[.agg d.toArray,sl e a f] w (Ret (fun v_ w_=>∃ K_,v_=iI g∧SR K K_ w w_ [] []))
def ai0 (X:aaq→LE→(List Int)→Option Bool):Prop:=∀ {K w g bs br e j k f h l m n o p i q r a b d s t v x u y z A},X (aaq.mk (aaa.mk e) (aac.mk f h n o p i) a) t u=some A→GK K→tF K j k e→f.size ≤ mB→tP K l m h→tS K q r i→Reps (RInt .i64) 1 a s→a.length * 8 ≤ mB→br ≤ (zz w)→tE K v x t→RSl Int (RInt .i64) 1 8 K y z u→ (fun E:Ents=>SR K K w w E E→Calls Tryz.prog 105 #[.pointer (some ⟨g,0,none⟩),sl v t x,sl y u z] w (Ret (fun v_ w_=>∃ K_,v_=.bool A∧SR K K_ w w_ E E))) [.box bs g #[sl j e k,.string f,sl l h m,iI n,.bool o,iI p,sl q i r,sl b a d] 87,eW br b a d 3 1 s]
def aib (X:Option (List (Int × (List Int)))):Prop:=∀ {K w a},X =some a→GK K→ SR K K w w [] []→Calls Tryz.prog 106 #[] w (Ret (fun v_ w_=>∃ K_ br0 er0 cr0,v_=.map (some br0)∧SR K K_ w w_ [] [.mp (zz w) br0 er0 cr0]∧MapR kI (VSl Int (RInt .i64) 1 8 K_) a er0.toList))
def aep (X:aaq→LS→Option (aaq × Bool)):Prop:=∀ {K w g bs br f k l h i m n o p q j r s a b d t u A B v x y C D G z e I},X (aaq.mk (aaa.mk f) (aac.mk h i o p q j) a) u=some ((aaq.mk (aaa.mk v) (aac.mk x y C D G z) e),I)→GK K→tF K k l f→h.size ≤ mB→tP K m n i→tS K r s j→Reps (RInt .i64) 1 a t→a.length * 8 ≤ mB→br ≤ (zz w)→tS K A B u→ (fun E:Ents=>SR K K w w E E→Calls Tryz.prog 48 #[.pointer (some ⟨g,0,none⟩),sl A u B] w (Ret (fun v_ w_=>∃ K_ Az_0_0 cz_0_0 Az_1_1 cz_1_1 Az_1_5 cz_1_5 Az_2 cz_2 yz_2,v_=.bool I∧SR K K_ w w_ E [.box bs g #[sl Az_0_0 v cz_0_0,.string x,sl Az_1_1 y cz_1_1,iI C,.bool D,iI G,sl Az_1_5 z cz_1_5,sl Az_2 e cz_2] 87,eW br Az_2 e cz_2 3 1 yz_2]∧tF K_ Az_0_0 cz_0_0 v∧x.size ≤ mB∧tP K_ Az_1_1 cz_1_1 y∧tS K_ Az_1_5 cz_1_5 z∧Reps (RInt .i64) 1 e yz_2∧e.length * 8 ≤ mB))) [.box bs g #[sl k f l,.string h,sl m i n,iI o,.bool p,iI q,sl r j s,sl b a d] 87,eW br b a d 3 1 t]
def aev (X:aaq→aaf→Option (aaq × Bool)):Prop:=∀ {K w g bs br f k l h i m n o p q j r s a b d t z A u v x B C D y e G},X (aaq.mk (aaa.mk f) (aac.mk h i o p q j) a) z=some ((aaq.mk (aaa.mk u) (aac.mk v x B C D y) e),G)→GK K→tF K k l f→h.size ≤ mB→tP K m n i→tS K r s j→Reps (RInt .i64) 1 a t→a.length * 8 ≤ mB→br ≤ (zz w)→aai K z A→ (fun E:Ents=>SR K K w w E E→Calls Tryz.prog 73 #[.pointer (some ⟨g,0,none⟩),.agg A.toArray] w (Ret (fun v_ w_=>∃ K_ Az_0_0 cz_0_0 Az_1_1 cz_1_1 Az_1_5 cz_1_5 Az_2 cz_2 yz_2,v_=.bool G∧SR K K_ w w_ E [.box bs g #[sl Az_0_0 u cz_0_0,.string v,sl Az_1_1 x cz_1_1,iI B,.bool C,iI D,sl Az_1_5 y cz_1_5,sl Az_2 e cz_2] 87,eW br Az_2 e cz_2 3 1 yz_2]∧tF K_ Az_0_0 cz_0_0 u∧v.size ≤ mB∧tP K_ Az_1_1 cz_1_1 x∧tS K_ Az_1_5 cz_1_5 y∧Reps (RInt .i64) 1 e yz_2∧e.length * 8 ≤ mB))) [.box bs g #[sl k f l,.string h,sl m i n,iI o,.bool p,iI q,sl r j s,sl b a d] 87,eW br b a d 3 1 t]
def alK (X:aaa→Option (aaa × (List (List Int)) × Int)):Prop:=∀ {K w b d e a f},X b=some (e,a,f)→GK K→aah K b d→ SR K K w w [] []→Calls Tryz.prog 26 #[.agg d.toArray] w (Ret (fun v_ w_=>∃ K_ csr0 Ar1 cr1,v_=.tuple #[.agg csr0.toArray,sl Ar1 a cr1,iI f]∧SR K K_ w w_ [] []∧aah K_ e csr0∧RSl (List Int) (RSlE Int (fun K=>(RInt .i64)) 1 8 K_) 1 24 K_ Ar1 cr1 a))
def alt (X:aaa→Option (aaa × Int)):Prop:=∀ {K w a b d e},X a=some (d,e)→GK K→aah K a b→ SR K K w w [] []→Calls Tryz.prog 10 #[.agg b.toArray] w (Ret (fun v_ w_=>∃ K_ csr0,v_=.tuple #[.agg csr0.toArray,iI e]∧SR K K_ w w_ [] []∧aah K_ d csr0))
def ad2 (X:LE→Option LE):Prop:=∀ {K w a d e b},X a=some b→GK K→tE K d e a→ SR K K w w [] []→Calls Tryz.prog 121 #[sl d a e] w (Ret (fun v_ w_=>∃ K_ Ar0 cr0,v_=sl Ar0 b cr0∧SR K K_ w w_ [] []∧tE K_ Ar0 cr0 b))
def afo (X:LS→Option LS):Prop:=∀ {K w a d e b},X a=some b→GK K→tS K d e a→ SR K K w w [] []→Calls Tryz.prog 89 #[sl d a e] w (Ret (fun v_ w_=>∃ K_ Ar0 cr0,v_=sl Ar0 b cr0∧SR K K_ w w_ [] []∧tS K_ Ar0 cr0 b))
def akM (X:aaa→Option aaa):Prop:=∀ {K w b d a},X b=some (aaa.mk a)→GK K→aah K b d→ SR K K w w [] []→Calls Tryz.prog 62 #[.agg d.toArray] w (Ret (fun v_ w_=>∃ K_ Ar0_0 cr0_0 yr0_0,v_=.agg #[sl Ar0_0 a cr0_0]∧SR K K_ w w_ [] [eW (zz w) Ar0_0 a cr0_0 52 6 yr0_0]∧Reps (aar K_) 6 a yr0_0∧a.length * 88 ≤ mB))
def afv (X:LE→Option LE):Prop:=∀ {K w a d e b},X a=some b→GK K→tE K d e a→ SR K K w w [] []→Calls Tryz.prog 90 #[sl d a e] w (Ret (fun v_ w_=>∃ K_ Ar0 cr0,v_=sl Ar0 b cr0∧SR K K_ w w_ [] []∧tE K_ Ar0 cr0 b))
def ae8 (X:LS→Option LS):Prop:=∀ {K w a d e b},X a=some b→GK K→tS K d e a→ SR K K w w [] []→Calls Tryz.prog 63 #[sl d a e] w (Ret (fun v_ w_=>∃ K_ Ar0 cr0,v_=sl Ar0 b cr0∧SR K K_ w w_ [] []∧tS K_ Ar0 cr0 b))
def akj (X:aaa→Option aaa):Prop:=∀ {K w a b d},X a=some d→GK K→aah K a b→ SR K K w w [] []→Calls Tryz.prog 39 #[.agg b.toArray] w (Ret (fun v_ w_=>∃ K_ csr0,v_=.agg csr0.toArray∧SR K K_ w w_ [] []∧aah K_ d csr0))
def ajh (X:aap→Int→Option aap):Prop:=∀ {K w g bs a b d e f h i},X (aap.mk a b d) e=some (aap.mk f h i)→GK K→ (fun E:Ents=>SR K K w w E E→Calls Tryz.prog 114 #[.pointer (some ⟨g,0,none⟩),iI e] w (Ret (fun v_ w_=>∃ K_,v_=.tuple #[]∧SR K K_ w w_ E [.box bs g #[iI f,iI h,.bool i] 104]))) [.box bs g #[iI a,iI b,.bool d] 104]
def ai7 (X:aap→Bool→Option aap):Prop:=∀ {K w g bs a b d e f h i},X (aap.mk a b d) e=some (aap.mk f h i)→GK K→ (fun E:Ents=>SR K K w w E E→Calls Tryz.prog 115 #[.pointer (some ⟨g,0,none⟩),.bool e] w (Ret (fun v_ w_=>∃ K_,v_=.tuple #[]∧SR K K_ w w_ E [.box bs g #[iI f,iI h,.bool i] 104]))) [.box bs g #[iI a,iI b,.bool d] 104]
def ahO (X:Int→Option Bool):Prop:=∀ {K w a b},X a=some b→GK K→ SR K K w w [] []→Calls Tryz.prog 139 #[.int .u8 a] w (Ret (fun v_ w_=>∃ K_,v_=.bool b∧SR K K_ w w_ [] []))
def aic (X:Int→Option Bool):Prop:=∀ {K w a b},X a=some b→GK K→ SR K K w w [] []→Calls Tryz.prog 140 #[.int .u8 a] w (Ret (fun v_ w_=>∃ K_,v_=.bool b∧SR K K_ w w_ [] []))
def ajj (X:Option LB):Prop:=∀ {K w a},X =some a→GK K→ SR K K w w [] []→Calls Tryz.prog 167 #[] w (Ret (fun v_ w_=>∃ K_ Ar0 cr0,v_=sl Ar0 a cr0∧SR K K_ w w_ [] []∧RSl BA RStr 1 16 K_ Ar0 cr0 a))
def aiA (X:BA→Option Bool):Prop:=∀ {K w a b},X a=some b→GK K→a.size ≤ mB→ SR K K w w [] []→Calls Tryz.prog 141 #[.string a] w (Ret (fun v_ w_=>∃ K_,v_=.bool b∧SR K K_ w w_ [] []))
def aiH (X:BA→Option Bool):Prop:=∀ {K w a b},X a=some b→GK K→a.size ≤ mB→ SR K K w w [] []→Calls Tryz.prog 117 #[.string a] w (Ret (fun v_ w_=>∃ K_,v_=.bool b∧SR K K_ w w_ [] []))
def ahY (X:Int→Option (abo × Bool)):Prop:=∀ {K w a b d},X a=some (b,d)→GK K→ SR K K w w [] []→Calls Tryz.prog 168 #[iI a] w (Ret (fun v_ w_=>∃ K_ csr0,v_=.tuple #[.agg csr0.toArray,.bool d]∧SR K K_ w w_ [] []∧acM K_ b csr0))
def aiJ (X:BA→Option Bool):Prop:=∀ {K w a b},X a=some b→GK K→a.size ≤ mB→ SR K K w w [] []→Calls Tryz.prog 116 #[.string a] w (Ret (fun v_ w_=>∃ K_,v_=.bool b∧SR K K_ w w_ [] []))
def afp (X:aap→aam→Int→Bool→Option aap):Prop:=∀ {K w g bs a b d e f h i j k l},X (aap.mk a b d) e h i=some (aap.mk j k l)→GK K→aan K e f→ (fun E:Ents=>SR K K w w E E→Calls Tryz.prog 84 #[.pointer (some ⟨g,0,none⟩),.agg f.toArray,iI h,.bool i] w (Ret (fun v_ w_=>∃ K_,v_=.tuple #[]∧SR K K_ w w_ E [.box bs g #[iI j,iI k,.bool l] 104]))) [.box bs g #[iI a,iI b,.bool d] 104]
def acZ (X:aap→LS→Int→Option aap):Prop:=∀ {K w g bs a b d e f h i j k l},X (aap.mk a b d) e i=some (aap.mk j k l)→GK K→tS K f h e→ (fun E:Ents=>SR K K w w E E→Calls Tryz.prog 118 #[.pointer (some ⟨g,0,none⟩),sl f e h,iI i] w (Ret (fun v_ w_=>∃ K_,v_=.tuple #[]∧SR K K_ w w_ E [.box bs g #[iI j,iI k,.bool l] 104]))) [.box bs g #[iI a,iI b,.bool d] 104]
def ac3 (X:aap→aaf→Int→Option aap):Prop:=∀ {K w g bs a b d e f h i j k},X (aap.mk a b d) e h=some (aap.mk i j k)→GK K→aai K e f→ (fun E:Ents=>SR K K w w E E→Calls Tryz.prog 142 #[.pointer (some ⟨g,0,none⟩),.agg f.toArray,iI h] w (Ret (fun v_ w_=>∃ K_,v_=.tuple #[]∧SR K K_ w w_ E [.box bs g #[iI i,iI j,.bool k] 104]))) [.box bs g #[iI a,iI b,.bool d] 104]
def acW (X:aap→aaz→Int→Option aap):Prop:=∀ {K w g bs a b d e f h i j k},X (aap.mk a b d) e h=some (aap.mk i j k)→GK K→aaB K e f→ (fun E:Ents=>SR K K w w E E→Calls Tryz.prog 169 #[.pointer (some ⟨g,0,none⟩),.agg f.toArray,iI h] w (Ret (fun v_ w_=>∃ K_,v_=.tuple #[]∧SR K K_ w w_ E [.box bs g #[iI i,iI j,.bool k] 104]))) [.box bs g #[iI a,iI b,.bool d] 104]
def akS (X:aaa→Option aap):Prop:=∀ {K w a b d},X a=some d→GK K→aah K a b→ SR K K w w [] []→Calls Tryz.prog 85 #[.agg b.toArray] w (Ret (fun v_ w_=>∃ K_ csr0,v_=.agg csr0.toArray∧SR K K_ w w_ [] []∧adC K_ d csr0))
def akp (X:aaa→Option Bool):Prop:=∀ {K w a b d},X a=some d→GK K→aah K a b→ SR K K w w [] []→Calls Tryz.prog 59 #[.agg b.toArray] w (Ret (fun v_ w_=>∃ K_,v_=.bool d∧SR K K_ w w_ [] []))
def alI (X:aaa→Option Bool):Prop:=∀ {K w a b d},X a=some d→GK K→aah K a b→ SR K K w w [] []→Calls Tryz.prog 37 #[.agg b.toArray] w (Ret (fun v_ w_=>∃ K_,v_=.bool d∧SR K K_ w w_ [] []))
def ala (X:LF→BA→Option Int):Prop:=∀ {K w a d e b f},X a b=some f→GK K→tF K d e a→b.size ≤ mB→ SR K K w w [] []→Calls Tryz.prog 60 #[sl d a e,.string b] w (Ret (fun v_ w_=>∃ K_,v_=iI f∧SR K K_ w w_ [] []))
def aiR (X:aas→BA→Option (aas × Int)):Prop:=∀ {K w g bs br k o p l m q r s t u n v x a d e y b f h z A B C D G I N O S J i j U V W},X (aas.mk k (aac.mk l m s t u n) a b A B) C=some ((aas.mk D (aac.mk G I N O S J) i j U V),W)→GK K→tF K o p k→l.size ≤ mB→tP K q r m→tS K v x n→Reps RStr 1 a y→a.length * 16 ≤ mB→Reps (RInt .i64) 1 b z→b.length * 8 ≤ mB→br ≤ (zz w)→C.size ≤ mB→ (fun E:Ents=>SR K K w w E E→Calls Tryz.prog 119 #[.pointer (some ⟨g,0,none⟩),.string C] w (Ret (fun v_ w_=>∃ K_ Az_0 cz_0 Az_1_1 cz_1_1 Az_1_5 cz_1_5 Az_2 cz_2 yz_2 Az_3 cz_3 yz_3,v_=iI W∧SR K K_ w w_ E [.box bs g #[sl Az_0 D cz_0,.string G,sl Az_1_1 I cz_1_1,iI N,.bool O,iI S,sl Az_1_5 J cz_1_5,sl Az_2 i cz_2,sl Az_3 j cz_3,iI U,iI V] 109,eW br Az_2 i cz_2 9 1 yz_2,eW br Az_3 j cz_3 3 1 yz_3]∧tF K_ Az_0 cz_0 D∧G.size ≤ mB∧tP K_ Az_1_1 cz_1_1 I∧tS K_ Az_1_5 cz_1_5 J∧Reps RStr 1 i yz_2∧i.length * 16 ≤ mB∧Reps (RInt .i64) 1 j yz_3∧j.length * 8 ≤ mB))) [.box bs g #[sl o k p,.string l,sl q m r,iI s,.bool t,iI u,sl v n x,sl d a e,sl f b h,iI A,iI B] 109,eW br d a e 9 1 y,eW br f b h 3 1 z]
def alk (X:aas→Bool→Int→Option aas):Prop:=∀ {K w g bs br k o p l m q r s t u n v x a d e y b f h z A B J N C D G O S U I i j V W},X (aas.mk k (aac.mk l m s t u n) a b A B) J N=some (aas.mk C (aac.mk D G O S U I) i j V W)→GK K→tF K o p k→l.size ≤ mB→tP K q r m→tS K v x n→Reps RStr 1 a y→a.length * 16 ≤ mB→Reps (RInt .i64) 1 b z→b.length * 8 ≤ mB→br ≤ (zz w)→ (fun E:Ents=>SR K K w w E E→Calls Tryz.prog 88 #[.pointer (some ⟨g,0,none⟩),.bool J,iI N] w (Ret (fun v_ w_=>∃ K_ Az_0 cz_0 Az_1_1 cz_1_1 Az_1_5 cz_1_5 Az_2 cz_2 yz_2 Az_3 cz_3 yz_3,v_=.tuple #[]∧SR K K_ w w_ E [.box bs g #[sl Az_0 C cz_0,.string D,sl Az_1_1 G cz_1_1,iI O,.bool S,iI U,sl Az_1_5 I cz_1_5,sl Az_2 i cz_2,sl Az_3 j cz_3,iI V,iI W] 109,eW br Az_2 i cz_2 9 1 yz_2,eW br Az_3 j cz_3 3 1 yz_3]∧tF K_ Az_0 cz_0 C∧D.size ≤ mB∧tP K_ Az_1_1 cz_1_1 G∧tS K_ Az_1_5 cz_1_5 I∧Reps RStr 1 i yz_2∧i.length * 16 ≤ mB∧Reps (RInt .i64) 1 j yz_3∧j.length * 8 ≤ mB))) [.box bs g #[sl o k p,.string l,sl q m r,iI s,.bool t,iI u,sl v n x,sl d a e,sl f b h,iI A,iI B] 109,eW br d a e 9 1 y,eW br f b h 3 1 z]
def ald (X:aas→BA→Option (aas × Int)):Prop:=∀ {K w g bs br k o p l m q r s t u n v x a d e y b f h z A B C D G I N O S J i j U V W},X (aas.mk k (aac.mk l m s t u n) a b A B) C=some ((aas.mk D (aac.mk G I N O S J) i j U V),W)→GK K→tF K o p k→l.size ≤ mB→tP K q r m→tS K v x n→Reps RStr 1 a y→a.length * 16 ≤ mB→Reps (RInt .i64) 1 b z→b.length * 8 ≤ mB→br ≤ (zz w)→C.size ≤ mB→ (fun E:Ents=>SR K K w w E E→Calls Tryz.prog 86 #[.pointer (some ⟨g,0,none⟩),.string C] w (Ret (fun v_ w_=>∃ K_ Az_0 cz_0 Az_1_1 cz_1_1 Az_1_5 cz_1_5 Az_2 cz_2 yz_2 Az_3 cz_3 yz_3,v_=iI W∧SR K K_ w w_ E [.box bs g #[sl Az_0 D cz_0,.string G,sl Az_1_1 I cz_1_1,iI N,.bool O,iI S,sl Az_1_5 J cz_1_5,sl Az_2 i cz_2,sl Az_3 j cz_3,iI U,iI V] 109,eW br Az_2 i cz_2 9 1 yz_2,eW br Az_3 j cz_3 3 1 yz_3]∧tF K_ Az_0 cz_0 D∧G.size ≤ mB∧tP K_ Az_1_1 cz_1_1 I∧tS K_ Az_1_5 cz_1_5 J∧Reps RStr 1 i yz_2∧i.length * 16 ≤ mB∧Reps (RInt .i64) 1 j yz_3∧j.length * 8 ≤ mB))) [.box bs g #[sl o k p,.string l,sl q m r,iI s,.bool t,iI u,sl v n x,sl d a e,sl f b h,iI A,iI B] 109,eW br d a e 9 1 y,eW br f b h 3 1 z]
def adm (X:aas→LE→Option (aas × LE)):Prop:=∀ {K w g bs br k o p l m q r s t u n v x a d e y b f h z A B C O S D G I U V W J i j Y Z N},X (aas.mk k (aac.mk l m s t u n) a b A B) C=some ((aas.mk D (aac.mk G I U V W J) i j Y Z),N)→GK K→tF K o p k→l.size ≤ mB→tP K q r m→tS K v x n→Reps RStr 1 a y→a.length * 16 ≤ mB→Reps (RInt .i64) 1 b z→b.length * 8 ≤ mB→br ≤ (zz w)→tE K O S C→ (fun E:Ents=>SR K K w w E E→Calls Tryz.prog 143 #[.pointer (some ⟨g,0,none⟩),sl O C S] w (Ret (fun v_ w_=>∃ K_ Az_0 cz_0 Az_1_1 cz_1_1 Az_1_5 cz_1_5 Az_2 cz_2 yz_2 Az_3 cz_3 yz_3 Ar0 cr0,v_=sl Ar0 N cr0∧SR K K_ w w_ E [.box bs g #[sl Az_0 D cz_0,.string G,sl Az_1_1 I cz_1_1,iI U,.bool V,iI W,sl Az_1_5 J cz_1_5,sl Az_2 i cz_2,sl Az_3 j cz_3,iI Y,iI Z] 109,eW br Az_2 i cz_2 9 1 yz_2,eW br Az_3 j cz_3 3 1 yz_3]∧tF K_ Az_0 cz_0 D∧G.size ≤ mB∧tP K_ Az_1_1 cz_1_1 I∧tS K_ Az_1_5 cz_1_5 J∧Reps RStr 1 i yz_2∧i.length * 16 ≤ mB∧Reps (RInt .i64) 1 j yz_3∧j.length * 8 ≤ mB∧tE K_ Ar0 cr0 N))) [.box bs g #[sl o k p,.string l,sl q m r,iI s,.bool t,iI u,sl v n x,sl d a e,sl f b h,iI A,iI B] 109,eW br d a e 9 1 y,eW br f b h 3 1 z]
def adA (X:aas→aam→Option (aas × aam)):Prop:=∀ {K w g bs br k o p l m q r s t u n v x a d e y b f h z A B J N C D G O S U I i j V W Y},X (aas.mk k (aac.mk l m s t u n) a b A B) J=some ((aas.mk C (aac.mk D G O S U I) i j V W),Y)→GK K→tF K o p k→l.size ≤ mB→tP K q r m→tS K v x n→Reps RStr 1 a y→a.length * 16 ≤ mB→Reps (RInt .i64) 1 b z→b.length * 8 ≤ mB→br ≤ (zz w)→aan K J N→ (fun E:Ents=>SR K K w w E E→Calls Tryz.prog 170 #[.pointer (some ⟨g,0,none⟩),.agg N.toArray] w (Ret (fun v_ w_=>∃ K_ Az_0 cz_0 Az_1_1 cz_1_1 Az_1_5 cz_1_5 Az_2 cz_2 yz_2 Az_3 cz_3 yz_3 csr0,v_=.agg csr0.toArray∧SR K K_ w w_ E [.box bs g #[sl Az_0 C cz_0,.string D,sl Az_1_1 G cz_1_1,iI O,.bool S,iI U,sl Az_1_5 I cz_1_5,sl Az_2 i cz_2,sl Az_3 j cz_3,iI V,iI W] 109,eW br Az_2 i cz_2 9 1 yz_2,eW br Az_3 j cz_3 3 1 yz_3]∧tF K_ Az_0 cz_0 C∧D.size ≤ mB∧tP K_ Az_1_1 cz_1_1 G∧tS K_ Az_1_5 cz_1_5 I∧Reps RStr 1 i yz_2∧i.length * 16 ≤ mB∧Reps (RInt .i64) 1 j yz_3∧j.length * 8 ≤ mB∧aan K_ Y csr0))) [.box bs g #[sl o k p,.string l,sl q m r,iI s,.bool t,iI u,sl v n x,sl d a e,sl f b h,iI A,iI B] 109,eW br d a e 9 1 y,eW br f b h 3 1 z]
def ah0 (X:aas→aaf→Option (aas × Int)):Prop:=∀ {K w g bs br k o p l m q r s t u n v x a d e y b f h z A B J N C D G O S U I i j V W Y},X (aas.mk k (aac.mk l m s t u n) a b A B) J=some ((aas.mk C (aac.mk D G O S U I) i j V W),Y)→GK K→tF K o p k→l.size ≤ mB→tP K q r m→tS K v x n→Reps RStr 1 a y→a.length * 16 ≤ mB→Reps (RInt .i64) 1 b z→b.length * 8 ≤ mB→br ≤ (zz w)→aai K J N→ (fun E:Ents=>SR K K w w E E→Calls Tryz.prog 144 #[.pointer (some ⟨g,0,none⟩),.agg N.toArray] w (Ret (fun v_ w_=>∃ K_ Az_0 cz_0 Az_1_1 cz_1_1 Az_1_5 cz_1_5 Az_2 cz_2 yz_2 Az_3 cz_3 yz_3,v_=iI Y∧SR K K_ w w_ E [.box bs g #[sl Az_0 C cz_0,.string D,sl Az_1_1 G cz_1_1,iI O,.bool S,iI U,sl Az_1_5 I cz_1_5,sl Az_2 i cz_2,sl Az_3 j cz_3,iI V,iI W] 109,eW br Az_2 i cz_2 9 1 yz_2,eW br Az_3 j cz_3 3 1 yz_3]∧tF K_ Az_0 cz_0 C∧D.size ≤ mB∧tP K_ Az_1_1 cz_1_1 G∧tS K_ Az_1_5 cz_1_5 I∧Reps RStr 1 i yz_2∧i.length * 16 ≤ mB∧Reps (RInt .i64) 1 j yz_3∧j.length * 8 ≤ mB))) [.box bs g #[sl o k p,.string l,sl q m r,iI s,.bool t,iI u,sl v n x,sl d a e,sl f b h,iI A,iI B] 109,eW br d a e 9 1 y,eW br f b h 3 1 z]
def ajg (X:Int→Option Bool):Prop:=∀ {K w a b},X a=some b→GK K→ SR K K w w [] []→Calls Tryz.prog 145 #[iI a] w (Ret (fun v_ w_=>∃ K_,v_=.bool b∧SR K K_ w w_ [] []))
def ac9 (X:aas→LS→Int→Option (aas × LS)):Prop:=∀ {K w g bs br k o p l m q r s t u n v x a d e y b f h z A B C O S U D G I V W Y J i j Z ab N},X (aas.mk k (aac.mk l m s t u n) a b A B) C U=some ((aas.mk D (aac.mk G I V W Y J) i j Z ab),N)→GK K→tF K o p k→l.size ≤ mB→tP K q r m→tS K v x n→Reps RStr 1 a y→a.length * 16 ≤ mB→Reps (RInt .i64) 1 b z→b.length * 8 ≤ mB→br ≤ (zz w)→tS K O S C→ (fun E:Ents=>SR K K w w E E→Calls Tryz.prog 87 #[.pointer (some ⟨g,0,none⟩),sl O C S,iI U] w (Ret (fun v_ w_=>∃ K_ Az_0 cz_0 Az_1_1 cz_1_1 Az_1_5 cz_1_5 Az_2 cz_2 yz_2 Az_3 cz_3 yz_3 Ar0 cr0,v_=sl Ar0 N cr0∧SR K K_ w w_ E [.box bs g #[sl Az_0 D cz_0,.string G,sl Az_1_1 I cz_1_1,iI V,.bool W,iI Y,sl Az_1_5 J cz_1_5,sl Az_2 i cz_2,sl Az_3 j cz_3,iI Z,iI ab] 109,eW br Az_2 i cz_2 9 1 yz_2,eW br Az_3 j cz_3 3 1 yz_3]∧tF K_ Az_0 cz_0 D∧G.size ≤ mB∧tP K_ Az_1_1 cz_1_1 I∧tS K_ Az_1_5 cz_1_5 J∧Reps RStr 1 i yz_2∧i.length * 16 ≤ mB∧Reps (RInt .i64) 1 j yz_3∧j.length * 8 ≤ mB∧tS K_ Ar0 cr0 N))) [.box bs g #[sl o k p,.string l,sl q m r,iI s,.bool t,iI u,sl v n x,sl d a e,sl f b h,iI A,iI B] 109,eW br d a e 9 1 y,eW br f b h 3 1 z]
def acG (X:aas→aaf→Option (aas × aaf)):Prop:=∀ {K w g bs br k o p l m q r s t u n v x a d e y b f h z A B J N C D G O S U I i j V W Y},X (aas.mk k (aac.mk l m s t u n) a b A B) J=some ((aas.mk C (aac.mk D G O S U I) i j V W),Y)→GK K→tF K o p k→l.size ≤ mB→tP K q r m→tS K v x n→Reps RStr 1 a y→a.length * 16 ≤ mB→Reps (RInt .i64) 1 b z→b.length * 8 ≤ mB→br ≤ (zz w)→aai K J N→ (fun E:Ents=>SR K K w w E E→Calls Tryz.prog 120 #[.pointer (some ⟨g,0,none⟩),.agg N.toArray] w (Ret (fun v_ w_=>∃ K_ Az_0 cz_0 Az_1_1 cz_1_1 Az_1_5 cz_1_5 Az_2 cz_2 yz_2 Az_3 cz_3 yz_3 csr0,v_=.agg csr0.toArray∧SR K K_ w w_ E [.box bs g #[sl Az_0 C cz_0,.string D,sl Az_1_1 G cz_1_1,iI O,.bool S,iI U,sl Az_1_5 I cz_1_5,sl Az_2 i cz_2,sl Az_3 j cz_3,iI V,iI W] 109,eW br Az_2 i cz_2 9 1 yz_2,eW br Az_3 j cz_3 3 1 yz_3]∧tF K_ Az_0 cz_0 C∧D.size ≤ mB∧tP K_ Az_1_1 cz_1_1 G∧tS K_ Az_1_5 cz_1_5 I∧Reps RStr 1 i yz_2∧i.length * 16 ≤ mB∧Reps (RInt .i64) 1 j yz_3∧j.length * 8 ≤ mB∧aai K_ Y csr0))) [.box bs g #[sl o k p,.string l,sl q m r,iI s,.bool t,iI u,sl v n x,sl d a e,sl f b h,iI A,iI B] 109,eW br d a e 9 1 y,eW br f b h 3 1 z]
def acC (X:aas→BA→LS→Int→Option (aas × Int × LS)):Prop:=∀ {K w g bs br k o p l m q r s t u n v x a d e y b f h z A B C D S U V G I J W Y Z N i j ab ac ad O},X (aas.mk k (aac.mk l m s t u n) a b A B) C D V=some ((aas.mk G (aac.mk I J W Y Z N) i j ab ac),ad,O)→GK K→tF K o p k→l.size ≤ mB→tP K q r m→tS K v x n→Reps RStr 1 a y→a.length * 16 ≤ mB→Reps (RInt .i64) 1 b z→b.length * 8 ≤ mB→br ≤ (zz w)→C.size ≤ mB→tS K S U D→ (fun E:Ents=>SR K K w w E E→Calls Tryz.prog 146 #[.pointer (some ⟨g,0,none⟩),.string C,sl S D U,iI V] w (Ret (fun v_ w_=>∃ K_ Az_0 cz_0 Az_1_1 cz_1_1 Az_1_5 cz_1_5 Az_2 cz_2 yz_2 Az_3 cz_3 yz_3 Ar1 cr1,v_=.tuple #[iI ad,sl Ar1 O cr1]∧SR K K_ w w_ E [.box bs g #[sl Az_0 G cz_0,.string I,sl Az_1_1 J cz_1_1,iI W,.bool Y,iI Z,sl Az_1_5 N cz_1_5,sl Az_2 i cz_2,sl Az_3 j cz_3,iI ab,iI ac] 109,eW br Az_2 i cz_2 9 1 yz_2,eW br Az_3 j cz_3 3 1 yz_3]∧tF K_ Az_0 cz_0 G∧I.size ≤ mB∧tP K_ Az_1_1 cz_1_1 J∧tS K_ Az_1_5 cz_1_5 N∧Reps RStr 1 i yz_2∧i.length * 16 ≤ mB∧Reps (RInt .i64) 1 j yz_3∧j.length * 8 ≤ mB∧tS K_ Ar1 cr1 O))) [.box bs g #[sl o k p,.string l,sl q m r,iI s,.bool t,iI u,sl v n x,sl d a e,sl f b h,iI A,iI B] 109,eW br d a e 9 1 y,eW br f b h 3 1 z]
def acz (X:aas→aaz→Option (aas × aaz)):Prop:=∀ {K w g bs br k o p l m q r s t u n v x a d e y b f h z A B J N C D G O S U I i j V W Y},X (aas.mk k (aac.mk l m s t u n) a b A B) J=some ((aas.mk C (aac.mk D G O S U I) i j V W),Y)→GK K→tF K o p k→l.size ≤ mB→tP K q r m→tS K v x n→Reps RStr 1 a y→a.length * 16 ≤ mB→Reps (RInt .i64) 1 b z→b.length * 8 ≤ mB→br ≤ (zz w)→aaB K J N→ (fun E:Ents=>SR K K w w E E→Calls Tryz.prog 147 #[.pointer (some ⟨g,0,none⟩),.agg N.toArray] w (Ret (fun v_ w_=>∃ K_ Az_0 cz_0 Az_1_1 cz_1_1 Az_1_5 cz_1_5 Az_2 cz_2 yz_2 Az_3 cz_3 yz_3 csr0,v_=.agg csr0.toArray∧SR K K_ w w_ E [.box bs g #[sl Az_0 C cz_0,.string D,sl Az_1_1 G cz_1_1,iI O,.bool S,iI U,sl Az_1_5 I cz_1_5,sl Az_2 i cz_2,sl Az_3 j cz_3,iI V,iI W] 109,eW br Az_2 i cz_2 9 1 yz_2,eW br Az_3 j cz_3 3 1 yz_3]∧tF K_ Az_0 cz_0 C∧D.size ≤ mB∧tP K_ Az_1_1 cz_1_1 G∧tS K_ Az_1_5 cz_1_5 I∧Reps RStr 1 i yz_2∧i.length * 16 ≤ mB∧Reps (RInt .i64) 1 j yz_3∧j.length * 8 ≤ mB∧aaB K_ Y csr0))) [.box bs g #[sl o k p,.string l,sl q m r,iI s,.bool t,iI u,sl v n x,sl d a e,sl f b h,iI A,iI B] 109,eW br d a e 9 1 y,eW br f b h 3 1 z]
def alw (X:LF→aac→Option (aas × aac)):Prop:=∀ {K w a b d e f g h},X a e=some (g,h)→GK K→tF K b d a→aar K e f→ SR K K w w [] []→Calls Tryz.prog 61 #[sl b a d,.agg f.toArray] w (Ret (fun v_ w_=>∃ K_ csr0 csr1,v_=.tuple #[.agg csr0.toArray,.agg csr1.toArray]∧SR K K_ w w_ [] []∧acE K_ g csr0∧aar K_ h csr1))
def aly (X:aaa→Option (aaa × Int)):Prop:=∀ {K w a b d e},X a=some (d,e)→GK K→aah K a b→ SR K K w w [] []→Calls Tryz.prog 38 #[.agg b.toArray] w (Ret (fun v_ w_=>∃ K_ csr0,v_=.tuple #[.agg csr0.toArray,iI e]∧SR K K_ w w_ [] []∧aah K_ d csr0))
def akA (X:aaa→Option (aaa × Int)):Prop:=∀ {K w a b d e},X a=some (d,e)→GK K→aah K a b→ SR K K w w [] []→Calls Tryz.prog 16 #[.agg b.toArray] w (Ret (fun v_ w_=>∃ K_ csr0,v_=.tuple #[.agg csr0.toArray,iI e]∧SR K K_ w w_ [] []∧aah K_ d csr0))
def afs (X:LE→Int→Option Int):Prop:=∀ {K w a b d e f},X a e=some f→GK K→tE K b d a→ SR K K w w [] []→Calls Tryz.prog 45 #[sl b a d,iI e] w (Ret (fun v_ w_=>∃ K_,v_=iI f∧SR K K_ w w_ [] []))
def afg (X:LS→Int→Option Int):Prop:=∀ {K w a b d e f},X a e=some f→GK K→tS K b d a→ SR K K w w [] []→Calls Tryz.prog 24 #[sl b a d,iI e] w (Ret (fun v_ w_=>∃ K_,v_=iI f∧SR K K_ w w_ [] []))
def anA (X:aaa→Option Bool):Prop:=∀ {K w a b d},X a=some d→GK K→aah K a b→ SR K K w w [] []→Calls Tryz.prog 8 #[.agg b.toArray] w (Ret (fun v_ w_=>∃ K_,v_=.bool d∧SR K K_ w w_ [] []))
def akE (X:Int→Option Bool):Prop:=∀ {K w a b},X a=some b→GK K→ SR K K w w [] []→Calls Tryz.prog 30 #[iI a] w (Ret (fun v_ w_=>∃ K_,v_=.bool b∧SR K K_ w w_ [] []))
def aee (X:(List Int)→Option Int):Prop:=∀ {K w a b d e},X a=some e→GK K→RSl Int (RInt .i64) 1 8 K b d a→ SR K K w w [] []→Calls Tryz.prog 52 #[sl b a d,.func (.func 30) #[] #[]] w (Ret (fun v_ w_=>∃ K_,v_=iI e∧SR K K_ w w_ [] []))
def aeo (X:(List Int)→Option Bool):Prop:=∀ {K w a b d e},X a=some e→GK K→RSl Int (RInt .i64) 1 8 K b d a→ SR K K w w [] []→Calls Tryz.prog 29 #[sl b a d,.func (.func 30) #[] #[]] w (Ret (fun v_ w_=>∃ K_,v_=.bool e∧SR K K_ w w_ [] []))
def aki (X:aam→Bool→Option Bool):Prop:=∀ {K w a b d e},X a d=some e→GK K→aan K a b→ SR K K w w [] []→Calls Tryz.prog 31 #[.agg b.toArray,.bool d] w (Ret (fun v_ w_=>∃ K_,v_=.bool e∧SR K K_ w w_ [] []))
def acN (X:aam→Int→Option Bool):Prop:=∀ {K w a b d e},X a d=some e→GK K→aan K a b→ SR K K w w [] []→Calls Tryz.prog 32 #[.agg b.toArray,iI d] w (Ret (fun v_ w_=>∃ K_,v_=.bool e∧SR K K_ w w_ [] []))
def abg (X:LE→Int→Option Bool):Prop:=∀ {K w a b d g bs s e},X a s=some e→GK K→tE K b d a→ (fun E:Ents=>SR K K w w E E→Calls Tryz.prog 54 #[sl b a d,.func (.func 55) #[] #[.pointer (some ⟨g,0,none⟩)]] w (Ret (fun v_ w_=>∃ K_,v_=.bool e∧SR K K_ w w_ E E))) [.box bs g #[iI s] 3]
def aa9 (X:aam→Int→Option Bool):Prop:=∀ {K w a b g bs s d},X a s=some d→GK K→aan K a b→ (fun E:Ents=>SR K K w w E E→Calls Tryz.prog 55 #[.agg b.toArray,.pointer (some ⟨g,0,none⟩)] w (Ret (fun v_ w_=>∃ K_,v_=.bool d∧SR K K_ w w_ E E))) [.box bs g #[iI s] 3]
def abe (X:LE→Unit→Int→Option Bool):Prop:=∀ {K w a b d g bs gA bsA sA e},X a () sA=some e→GK K→tE K b d a→ (fun E:Ents=>SR K K w w E E→Calls Tryz.prog 81 #[sl b a d,.func (.func 82) #[] #[.pointer (some ⟨g,0,none⟩)]] w (Ret (fun v_ w_=>∃ K_,v_=.bool e∧SR K K_ w w_ E E))) [.box bs g #[.func (.func 55) #[] #[.pointer (some ⟨gA,0,none⟩)]] 74,.box bsA gA #[iI sA] 3]
def aa3 (X:aam→Unit→Int→Option Bool):Prop:=∀ {K w a b g bs gA bsA sA d},X a () sA=some d→GK K→aan K a b→ (fun E:Ents=>SR K K w w E E→Calls Tryz.prog 82 #[.agg b.toArray,.pointer (some ⟨g,0,none⟩)] w (Ret (fun v_ w_=>∃ K_,v_=.bool d∧SR K K_ w w_ E E))) [.box bs g #[.func (.func 55) #[] #[.pointer (some ⟨gA,0,none⟩)]] 74,.box bsA gA #[iI sA] 3]
def aa7 (X:LE→Unit→Int→Option Int):Prop:=∀ {K w a b d g bs gA bsA sA e},X a () sA=some e→GK K→tE K b d a→ (fun E:Ents=>SR K K w w E E→Calls Tryz.prog 113 #[sl b a d,.func (.func 82) #[] #[.pointer (some ⟨g,0,none⟩)]] w (Ret (fun v_ w_=>∃ K_,v_=iI e∧SR K K_ w w_ E E))) [.box bs g #[.func (.func 55) #[] #[.pointer (some ⟨gA,0,none⟩)]] 74,.box bsA gA #[iI sA] 3]
def aj5 (X:aam→(List Int)→Option (Int × Int)):Prop:=∀ {K w b d a e f g h},X b a=some (g,h)→GK K→aan K b d→RSl Int (RInt .i64) 1 8 K e f a→ SR K K w w [] []→Calls Tryz.prog 13 #[.agg d.toArray,sl e a f] w (Ret (fun v_ w_=>∃ K_,v_=.tuple #[iI g,iI h]∧SR K K_ w w_ [] []))
def alz (X:LS→Option aaa):Prop:=∀ {K w a b d e},X a=some e→GK K→tS K b d a→ SR K K w w [] []→Calls Tryz.prog 25 #[sl b a d] w (Ret (fun v_ w_=>∃ K_ csr0,v_=.agg csr0.toArray∧SR K K_ w w_ [] []∧aah K_ e csr0))
def anP (X:Option Bool):Prop:=∀ {K w a},X =some a→GK K→ SR K K w w [] []→Calls Tryz.prog 9 #[] w (Ret (fun v_ w_=>∃ K_,v_=.bool a∧SR K K_ w w_ [] []))
def anK (X:aaa→Option Bool):Prop:=∀ {K w a b d},X a=some d→GK K→aah K a b→ SR K K w w [] []→Calls Tryz.prog 5 #[.agg b.toArray] w (Ret (fun v_ w_=>∃ K_,v_=.bool d∧SR K K_ w w_ [] []))
end Go.Proofs.YtphdlngnegjgcaaGreatDoor
set_option maxRecDepth 100000
set_option maxHeartbeats 20000000
namespace Go.Proofs.YtphdlngnegjgcaaGreatDoor
open Go
theorem aso (k:Nat):ah6 (aoi k):=by
 unfold ah6;intro K wi ak aW aX h hG al am;obtain ⟨r_,hr_,h⟩:=rz h;obtain ⟨aY,aZ,a1,a2,a3,a4,a5,s,t,u,x⟩:=ak;obtain ⟨a6,a7,y,z,A,B,C,D,an,ao,rfl,a8,a9,ba,ap,aq,ar,U⟩:=aai.open al;refine aat Tryz.func124 rfl (n:=27) rfl ?_;unfold aoi at h;refine gI 14 [7,1,8,1,9,1] [] am (fun au av=>(bsl (e:=50) (cells:=#[sl y s z,sl A t B,sl C u D]) (vs:=[(0,sl y s z),(1,sl A t B),(2,sl C u D)]) av rfl (fun w=>by kernel_rfl) (fun bb aw=>(have V:=aw.boxrowN (i:=0) (size:=1) (m:=3) rfl rfl (by decide);(gP 13 [10,2] V (aaC (fun g_ a w=>∃ W g,∃ (l:Nat),∃ d G I O,g_=g.length∧a=fr 27 (updL W [(3,sl G d I),(14,sl an x ao),(15,iI (x.length:Int)),(16,iI (l:Int))])∧SR K K wi w [] [eW (zz wi) G d I 50 1 O]∧x.drop l=g∧Reps (RSlE aaf (fun K=>(aai K)) 11 184 K) 1 d O∧d.length * 24 ≤ mB∧ae5 k g l d=some r_) x.length ?_ ?_))))))
 ·exact ⟨_,x,0,[s,t,u],(some ⟨(zz au),0,none⟩),3,[sl y s z,sl A t B,sl C u D],rfl,fR,(V.sel [0]),List.drop_zero,⟨[sl y s z],_,rfl,rfl,⟨_,_,rfl,ap⟩,⟨[sl A t B],_,rfl,rfl,⟨_,_,rfl,aq⟩,⟨[sl C u D],_,rfl,rfl,⟨_,_,rfl,ar⟩,(aa1 (R:=(RSlE aaf (fun K=>(aai K)) 11 184 K)) (size:=1))⟩⟩⟩,(Nat.le_of_ble_eq_true rfl),h⟩
 ·rintro _ _ ax ⟨W,g,l,d,G,I,O,rfl,rfl,S,q,X,ay,h⟩;rcases g with _ | ⟨⟨Y,Z,ab,ac,f⟩,g⟩
  ·unfold ae5 at h;refine gd 2 (bcm (r:=false) rfl rfl (congrArg some (aal q)) (go 16 ?_));obtain ⟨az,aA,bd,aB⟩:=ab4 (i:=0) (bytes:=24) (R:=fun K=>(RSlE aaf (fun K=>(aai K)) 11 184 K)) S rfl (Nat.le_refl _) X ay (fun hs=>(fun _ _ h=>RSlE.mono (R:=fun K=>(aai K)) (fun hs _ _ h=>aai.mono hs h) hs h));cases (oi h).trans hr_;exact aau rfl (resT rfl) ⟨az,G,I,rfl,aA,aB⟩
  ·unfold ae5 at h;refine gd 2 (bcm (r:=true) rfl rfl (congrArg some (aak q)) (go 10 ?_));obtain ⟨aG,aH,be,aI,bf,aJ,aK⟩:=(U).row.at_ (aaj q);obtain ⟨ad,ae,J,N,rfl,bg,bh,aL⟩:=aaB.open aK;refine idxN (b:=aG) (o:=aH) (i:=l) acX acg rfl aI rfl (aab q) (lD (vC Y Z ab ad ac ae J f N) ag5 acg rfl (fun j v hj=>S.cell (kr.cell (aJ j v hj))) (gR 8 [0,4,1] [[iI 0,sE,iI 0,nS,nS]] S (fun bi bj aM=>(bsl (e:=50) (cells:=#[sl J f N]) (vs:=[(0,sl J f N)]) aM rfl (aao aqw awP az9 rfl (by decide) (by decide) rfl) (fun bk aN=>?_)))));obtain ⟨af,h⟩:=aaE h;refine apR (R:=(RSlE aaf (fun K=>(aai K)) 11 184 K)) (p:=f) (i:=2) (j:=0) aN rfl rfl aqw aAv rfl (by decide) rfl rfl X ⟨_,_,rfl,aL⟩ rfl rfl (Nat.le_refl _) af (by decide) (fun ah ai aj aP aT aU=>?_);have aV:=p12 aT;exact go 5 (bar (r:=((l + 1:Nat):Int)) rfl rfl (aaK (aaM ((U).len) (by decide) (aab q))) (go 3 (⟨_,Nat.lt_succ_self _,_,g,l + 1,(d ++ [f]),ah,ai,aj,rfl,fR,(aV.sel [1]),aag q,aU,(aaG af),h⟩)))
theorem aqA (k:Nat):ah6 (f124 k):=aso k
theorem at2 (k:Nat) (F:aeL) (IH92:acK F.f92) (IH122:ab6 F.f122) (IH1006489:aa4 F.f1006489) (IH1009189:abf F.f1009189) (IH1012326:abb F.f1012326) (IH1014826:aba F.f1014826):acK (avx k F):=by
 unfold acK;intro K wi j l m b h hG d a;obtain ⟨r_,hr_,h⟩:=rz h;refine aat Tryz.func92 rfl (n:=5) rfl ?_;unfold avx at h;refine gd 8 (cB h axJ (fun _ e=>IH1006489 e (hG.mono kr) d (pt a)) ?_);rintro b _ o ⟨f,rfl,g⟩ h;have i:=ca g a;refine go 4 ?_;cases (oi h).trans hr_;exact aau rfl (resT rfl) ⟨f,rfl,i⟩
theorem aqV (k:Nat) (F:aeL) (IH92:acK F.f92) (IH122:ab6 F.f122) (IH1006489:aa4 F.f1006489) (IH1009189:abf F.f1009189) (IH1012326:abb F.f1012326) (IH1014826:aba F.f1014826):ab6 (amY k F):=by
 unfold ab6;intro K wi V az aA h hG W X;obtain ⟨r_,hr_,h⟩:=rz h;obtain ⟨f,m,o,p,q,r,s,t,u,v,x⟩:=V;obtain ⟨Y,Z,ab,ac,ad,ae,af,ah,ai,aj,rfl,y,z,A,B,C,D,G⟩:=aai.open W;refine aat Tryz.func122 rfl (n:=29) rfl ?_;unfold amY at h;refine gI 7 [] [] X (fun aB d=>(aav (fun a w=>∃ I g,a=fr 29 (updL I [(1,pp (zz wi) 0),(10,.bool g)])∧SR K K wi w [] [.box (zz wi) (zz wi) (aS f m o p q r Y s Z ab t ac ad u ae af v ah ai x aj) 62]∧aji k F f m o p q r s t u v x g=some r_) ?_ ?_))
 ·refine gD 5 [0,1] d (bO 6 h (fun _ h=>?_) (fun _ h=>?_))
  ·exact go 6 (⟨_,true,fR,d,h⟩)
  ·exact gP 9 [0,1] d (⟨_,(f == 28),fR,d,h⟩)
 ·rintro _ aG ⟨I,g,rfl,b,h⟩;unfold aji at h;refine bC 10 h (fun _ h=>?_) (fun _ h=>?_)
  ·refine gd 8 ?_;cases (oi h).trans hr_;exact aau rfl (resT rfl) ⟨K,rfl,(b.sel [])⟩
  ·refine gd 3 (aav (fun a w=>∃ J e i,a=fr 29 (updL J [(2,.bool i)])∧KH.sub K e∧SR K e wi w [] []∧afN k F i=some r_) ?_ ?_)
   ·refine gD 5 [0,1] b (bO 14 h (fun _ h=>?_) (fun _ h=>?_))
    ·exact go 17 (⟨_,K,true,fR,kr,(b.sel []),h⟩)
    ·refine gP 8 [0,1] b (bO 18 h (fun _ h=>?_) (fun _ h=>?_))
     ·refine gP 10 [5,1] b (bO 24 h (fun _ h=>?_) (fun _ h=>?_))
      ·exact go 7 (⟨_,K,true,fR,kr,(b.sel []),h⟩)
      ·refine gP 3 [0,0,11] b (cB h aum (fun _ ak=>(aqA k) ak (hG.mono kr) (aai.intro y z A B C D G) (pt b)) ?_);rintro aH _ aI ⟨aJ,aK,aL,rfl,j,al⟩ h;have N:=ca j b;refine go 1 (cB h auh (fun _ am=>IH1012326 am (hG.mono j.sub) al (pt N)) ?_);rintro an _ aM ⟨ao,rfl,O⟩ h;have ap:=ca O N;exact go 4 (⟨_,ao,an,fR,(j.sub.trans O.sub),(ap.sel []),h⟩)
     ·refine gP 10 [0,0,11] b (cB h aum (fun _ aq=>(aqA k) aq (hG.mono kr) (aai.intro y z A B C D G) (pt b)) ?_);rintro aN _ aP ⟨aT,aU,aV,rfl,l,ar⟩ h;have S:=ca l b;refine go 1 (cB h auh (fun _ au=>IH1012326 au (hG.mono l.sub) ar (pt S)) ?_);rintro av _ aW ⟨aw,rfl,U⟩ h;have ax:=ca U S;exact go 4 (⟨_,aw,av,fR,(l.sub.trans U.sub),(ax.sel []),h⟩)
   ·rintro _ aX ⟨J,e,i,rfl,aY,ay,h⟩;unfold afN at h;refine gd 1 ?_;cases (oi h).trans hr_;exact aau rfl (resT rfl) ⟨e,rfl,ay⟩
theorem ak8 (k:Nat) (F:aeL) (IH92:acK F.f92) (IH122:ab6 F.f122) (IH1006489:aa4 F.f1006489) (IH1009189:abf F.f1009189) (IH1012326:abb F.f1012326) (IH1014826:aba F.f1014826):aa4 (agZ k F):=by
 unfold aa4;intro K wi j l m b h hG d a;obtain ⟨r_,hr_,h⟩:=rz h;refine aat Tryz.func64 rfl (n:=9) rfl ?_;unfold agZ at h;refine gd 9 (cB h ayN (fun _ e=>IH1009189 e (hG.mono kr) d (pt a)) ?_);rintro b _ o ⟨f,rfl,g⟩ h;have i:=ca g a;refine go 5 ?_;cases (oi h).trans hr_;exact aau rfl (resT rfl) ⟨f,rfl,i⟩
theorem alB (k:Nat) (F:aeL) (IH92:acK F.f92) (IH122:ab6 F.f122) (IH1006489:aa4 F.f1006489) (IH1009189:abf F.f1009189) (IH1012326:abb F.f1012326) (IH1014826:aba F.f1014826):abf (ag6 k F):=by
 unfold abf;intro K wi g z A ao h hG q B;obtain ⟨r_,hr_,h⟩:=rz h;refine aat Tryz.func91 rfl (n:=19) rfl ?_;unfold ag6 at h;refine gd 14 (aaC (fun g_ a w=>∃ s l d,∃ (e:Nat),g_=d.length∧a=fr 19 (updL s [(0,sl z g A),(1,.func (.func 122) #[] #[]),(7,iI (g.length:Int)),(8,iI (e:Int))])∧KH.sub K l∧SR K l wi w [] []∧g.drop e=d∧acb k F d e=some r_) g.length ?_ ?_)
 ·exact ⟨_,K,g,0,rfl,fR,kr,B,List.drop_zero,h⟩
 ·rintro _ _ ap ⟨s,l,d,e,rfl,rfl,m,p,f,h⟩;rcases d with _ | ⟨⟨C,D,G,I,J,N,O,S,U,V,W⟩,d⟩
  ·unfold acb at h;refine gd 2 (bcm (r:=false) rfl rfl (congrArg some (aal f)) (go 15 ?_));cases (oi h).trans hr_;exact aau rfl (resT rfl) ⟨l,rfl,p⟩
  ·unfold acb at h;refine gd 2 (bcm (r:=true) rfl rfl (congrArg some (aak f)) (go 19 ?_));obtain ⟨X,Y,aq,Z,ar,ab,t⟩:=((ms q m)).row.at_ (aaj f);obtain ⟨ac,ad,ae,af,ah,ai,aj,ak,al,am,rfl,au,av,aw,ax,ay,az,aA⟩:=aai.open t;refine idxN (b:=X) (o:=Y) (i:=e) ab2 abx rfl Z rfl (aab f) (lD (vS C D G I J N ac O ad ae S af ah U ai aj V ak al W am) aeH abx rfl (fun j v hj=>p.cell (kr.cell (ab j v hj))) (cB h ayq (fun _ an=>IH122 an (hG.mono m) t (pt p)) ?_));rintro aB _ aG ⟨u,rfl,x⟩ h;have y:=ca x p;refine go 2 (bC 16 h (fun _ h=>?_) (fun _ h=>?_))
   ·refine gd 13 ?_;cases (oi h).trans hr_;exact aau rfl (resT rfl) ⟨u,rfl,y⟩
   ·exact gd 5 (bar (r:=((e + 1:Nat):Int)) rfl rfl (aaK (aaM (((ms q m)).len) (by decide) (aab f))) (go 3 (⟨_,Nat.lt_succ_self _,_,u,d,e + 1,rfl,fR,(m.trans x.sub),y,aag f,h⟩)))
theorem alJ (k:Nat) (F:aeL) (IH92:acK F.f92) (IH122:ab6 F.f122) (IH1006489:aa4 F.f1006489) (IH1009189:abf F.f1009189) (IH1012326:abb F.f1012326) (IH1014826:aba F.f1014826):abb (ags k F):=by
 unfold abb;intro K wi j l m b h hG d a;obtain ⟨r_,hr_,h⟩:=rz h;refine aat Tryz.func123 rfl (n:=9) rfl ?_;unfold ags at h;refine gd 9 (cB h ayF (fun _ e=>IH1014826 e (hG.mono kr) d (pt a)) ?_);rintro b _ o ⟨f,rfl,g⟩ h;have i:=ca g a;refine go 5 ?_;cases (oi h).trans hr_;exact aau rfl (resT rfl) ⟨f,rfl,i⟩
theorem ale (k:Nat) (F:aeL) (IH92:acK F.f92) (IH122:ab6 F.f122) (IH1006489:aa4 F.f1006489) (IH1009189:abf F.f1009189) (IH1012326:abb F.f1012326) (IH1014826:aba F.f1014826):aba (agS k F):=by
 unfold aba;intro K wi j x y U h hG p z;obtain ⟨r_,hr_,h⟩:=rz h;refine aat Tryz.func148 rfl (n:=19) rfl ?_;unfold agS at h;refine gd 14 (aaC (fun g_ a w=>∃ q l d,∃ (e:Nat),g_=d.length∧a=fr 19 (updL q [(0,sl x j y),(1,.func (.func 92) #[] #[]),(7,iI (j.length:Int)),(8,iI (e:Int))])∧KH.sub K l∧SR K l wi w [] []∧j.drop e=d∧acq k F d e=some r_) j.length ?_ ?_)
 ·exact ⟨_,K,j,0,rfl,fR,kr,z,List.drop_zero,h⟩
 ·rintro _ _ V ⟨q,l,d,e,rfl,rfl,f,m,g,h⟩;rcases d with _ | ⟨A,d⟩
  ·unfold acq at h;refine gd 2 (bcm (r:=false) rfl rfl (congrArg some (aal g)) (go 15 ?_));cases (oi h).trans hr_;exact aau rfl (resT rfl) ⟨l,rfl,m⟩
  ·unfold acq at h;refine gd 2 (bcm (r:=true) rfl rfl (congrArg some (aak g)) (go 19 ?_));obtain ⟨B,C,W,D,X,G,I⟩:=((p.mono f (fun _ _ h=>RSlE.mono (R:=fun K=>(aai K)) (fun hs _ _ h=>aai.mono hs h) f h))).row.at_ (aaj g);obtain ⟨J,N,rfl,O⟩:=I;refine idxN (b:=B) (o:=C) (i:=e) aqw awP rfl D rfl (aab g) (ld1 (v:=sl J A N) asz rfl (m.cell (kr.cell (G 0 _ rfl))) (cB h azg (fun _ S=>IH92 S (hG.mono f) O (pt m)) ?_));rintro Y _ Z ⟨s,rfl,t⟩ h;have u:=ca t m;refine go 2 (bC 16 h (fun _ h=>?_) (fun _ h=>?_))
   ·refine gd 13 ?_;cases (oi h).trans hr_;exact aau rfl (resT rfl) ⟨s,rfl,u⟩
   ·exact gd 5 (bar (r:=((e + 1:Nat):Int)) rfl rfl (aaK (aaM (((p.mono f (fun _ _ h=>RSlE.mono (R:=fun K=>(aai K)) (fun hs _ _ h=>aai.mono hs h) f h))).len) (by decide) (aab g))) (go 3 (⟨_,Nat.lt_succ_self _,_,s,d,e + 1,rfl,fR,(f.trans t.sub),u,aag g,h⟩)))
theorem afe (k0:Nat) : ∀ k,acK (ace k0 k).f92∧ab6 (ace k0 k).f122∧aa4 (ace k0 k).f1006489∧abf (ace k0 k).f1009189∧abb (ace k0 k).f1012326∧aba (ace k0 k).f1014826:=by
 intro k;induction k with
 | zero=>exact ⟨(by unfold acK; intro _ _ _ _ _ _ h_; cases h_),(by unfold ab6; intro _ _ _ _ _ h_; cases h_),(by unfold aa4; intro _ _ _ _ _ _ h_; cases h_),(by unfold abf; intro _ _ _ _ _ _ h_; cases h_),(by unfold abb; intro _ _ _ _ _ _ h_; cases h_),(by unfold aba; intro _ _ _ _ _ _ h_; cases h_)⟩
 | succ k ih=>exact ⟨at2 k0 (ace k0 k) ih.1 ih.2.1 ih.2.2.1 ih.2.2.2.1 ih.2.2.2.2.1 ih.2.2.2.2.2,aqV k0 (ace k0 k) ih.1 ih.2.1 ih.2.2.1 ih.2.2.2.1 ih.2.2.2.2.1 ih.2.2.2.2.2,ak8 k0 (ace k0 k) ih.1 ih.2.1 ih.2.2.1 ih.2.2.2.1 ih.2.2.2.2.1 ih.2.2.2.2.2,alB k0 (ace k0 k) ih.1 ih.2.1 ih.2.2.1 ih.2.2.2.1 ih.2.2.2.2.1 ih.2.2.2.2.2,alJ k0 (ace k0 k) ih.1 ih.2.1 ih.2.2.1 ih.2.2.2.1 ih.2.2.2.2.1 ih.2.2.2.2.2,ale k0 (ace k0 k) ih.1 ih.2.1 ih.2.2.1 ih.2.2.2.1 ih.2.2.2.2.1 ih.2.2.2.2.2⟩
theorem ax4 (k:Nat):acK (f92 k):=(afe k k).1
theorem azL (k:Nat):ab6 (f122 k):=(afe k k).2.1
theorem awp (k:Nat):aa4 (f1006489 k):=(afe k k).2.2.1
theorem aw7 (k:Nat):abf (f1009189 k):=(afe k k).2.2.2.1
theorem avw (k:Nat):abb (f1012326 k):=(afe k k).2.2.2.2.1
theorem awl (k:Nat):aba (f1014826 k):=(afe k k).2.2.2.2.2
theorem as8 (k:Nat) (F:ac1) (IH40:abT F.f40) (IH65:abS F.f65) (IH94:abU F.f94) (IH1006449:aaS F.f1006449) (IH1009149:aaV F.f1009149) (IH1009388:aaR F.f1009388) (IH1012547:aaT F.f1012547) (IH1012626:aaU F.f1012626) (IH1014947:aaW F.f1014947):abT (avJ k F):=by
 unfold abT;intro K wi j l m b h hG d a;obtain ⟨r_,hr_,h⟩:=rz h;refine aat Tryz.func40 rfl (n:=5) rfl ?_;unfold avJ at h;refine gd 8 (cB h axJ (fun _ e=>IH1006449 e (hG.mono kr) d (pt a)) ?_);rintro b _ o ⟨f,rfl,g⟩ h;have i:=ca g a;refine go 4 ?_;cases (oi h).trans hr_;exact aau rfl (resT rfl) ⟨f,rfl,i⟩
theorem atC (k:Nat) (F:ac1) (IH40:abT F.f40) (IH65:abS F.f65) (IH94:abU F.f94) (IH1006449:aaS F.f1006449) (IH1009149:aaV F.f1009149) (IH1009388:aaR F.f1009388) (IH1012547:aaT F.f1012547) (IH1012626:aaU F.f1012626) (IH1014947:aaW F.f1014947):abS (aqQ k F):=by
 unfold abS;intro K wi aB bs bu h hG aG aH;obtain ⟨r_,hr_,h⟩:=rz h;obtain ⟨e,W,X,Y,Z,m,J,s,t,u,x⟩:=aB;obtain ⟨ab,ac,ad,ae,af,ah,ai,aj,ak,al,rfl,bv,bw,aI,y,am,aJ,aK⟩:=aai.open aG;refine aat Tryz.func65 rfl (n:=80) rfl ?_;unfold aqQ at h;refine gI 14 [0,1] [] aH (fun bx z=>(aav (fun a w=>∃ an N,a=fr 80 (updL an [(1,pp (zz wi) 0),(4,iI e),(5,.bool N)])∧SR K K wi w [] [.box (zz wi) (zz wi) (aS e W X Y Z m ab J ac ad s ae af t ah ai u aj ak x al) 62]∧ahT k F e m J s t u x N=some r_) ?_ ?_))
 ·refine gd 6 (bC 5 h (fun aL h=>?_) (fun _ h=>?_))
  ·exact gd 3 (lX 5 aL.symm (⟨_,(e == 17),fR,z,h⟩))
  ·refine gd 7 (bC 5 h (fun aM h=>?_) (fun _ h=>?_))
   ·exact gd 3 (lX 5 aM.symm (⟨_,(e == 15),fR,z,h⟩))
   ·refine gd 7 (bC 5 h (fun aN h=>?_) (fun _ h=>?_))
    ·exact gd 3 (lX 5 aN.symm (⟨_,(e == 18),fR,z,h⟩))
    ·exact gd 6 (⟨_,(e == 19),fR,z,h⟩)
 ·rintro _ bz ⟨an,N,rfl,d,h⟩;unfold ahT at h;refine bC 5 h (fun _ h=>?_) (fun _ h=>?_)
  ·refine gd 9 ?_;cases (oi h).trans hr_;exact aau rfl (resT rfl) ⟨K,rfl,(d.sel [])⟩
  ·refine gd 7 (bC 10 h (fun _ h=>?_) (fun _ h=>?_))
   ·refine gd 1 (aav (fun a w=>∃ ao A O,a=fr 80 (updL ao [(2,.bool O)])∧KH.sub K A∧SR K A wi w [] []∧aju k F O=some r_) ?_ ?_)
    ·refine gD 5 [5,1] d (bO 15 h (fun _ h=>?_) (fun _ h=>?_))
     ·refine gP 5 [7,1] d (cB h amX (fun _ aP=>IH40 aP (hG.mono kr) y (pt d)) ?_);rintro bB _ bD ⟨aT,rfl,p⟩ h;have B:=ca p d;refine go 2 (bO 20 h (fun _ h=>?_) (fun _ h=>?_))
      ·refine gP 5 [8,1] B (cB h amX (fun _ aU=>IH40 aU (hG.mono p.sub) (ms am p.sub) (pt B)) ?_);rintro aV _ bE ⟨aW,rfl,ap⟩ h;have aX:=ca ap B;exact go 4 (⟨_,aW,aV,fR,(p.sub.trans ap.sub),(aX.sel []),h⟩)
      ·exact go 7 (⟨_,aT,false,fR,p.sub,(B.sel []),h⟩)
     ·exact go 12 (⟨_,K,false,fR,kr,(d.sel []),h⟩)
    ·rintro _ bF ⟨ao,A,O,rfl,bG,aY,h⟩;unfold aju at h;refine gd 3 ?_;cases (oi h).trans hr_;exact aau rfl (resT rfl) ⟨A,rfl,aY⟩
   ·refine gd 7 (bC 25 h (fun _ h=>?_) (fun _ h=>?_))
    ·refine gd 1 (aav (fun a w=>∃ aq C S,a=fr 80 (updL aq [(2,.bool S)])∧KH.sub K C∧SR K C wi w [] []∧aj1 k F S=some r_) ?_ ?_)
     ·refine gD 3 [6,1] d ?_;obtain ⟨⟨aZ,a1,bH,bI,bJ⟩,q,h⟩:=ob h;obtain ⟨ar,D,bK,au,bL,av,a2⟩:=(aI).row.at_ (aaA q).1;obtain ⟨bM,bP,rfl,bQ,bR⟩:=aan.open a2;refine idxG (b:=ar) (o:=D) (i:=0) ack abp rfl au rfl (aaA q).2.1 (aaA q).2.2 (fd (D + (0:Int).toNat * 5 + 0) avZ rfl (ld1 (v:=iI aZ) Tya3 rfl (d.cell (kr.cell (av 0 _ rfl))) (go 2 (bO 33 h (fun _ h=>?_) (fun _ h=>?_)))))
      ·refine gP 5 [6,1] d (idxG (b:=ar) (o:=D) (i:=0) ack abp rfl au rfl (aaA q).2.1 (aaA q).2.2 (go 1 (fd (D + (0:Int).toNat * 5 + 1) au8 rfl (go 1 (ld1 (v:=iI a1) Tya3 rfl (d.cell (kr.cell (av 1 _ rfl))) (go 4 (bO 41 h (fun _ h=>?_) (fun _ h=>?_))))))))
       ·refine gP 5 [7,1] d (cB h azg (fun _ a3=>(ax4 k) a3 (hG.mono kr) y (pt d)) ?_);rintro a4 _ bS ⟨a5,rfl,aw⟩ h;have a6:=ca aw d;exact go 6 (⟨_,a5,(!a4),fR,aw.sub,(a6.sel []),h⟩)
       ·exact go 8 (⟨_,K,false,fR,kr,(d.sel []),h⟩)
      ·exact go 16 (⟨_,K,false,fR,kr,(d.sel []),h⟩)
     ·rintro _ bT ⟨aq,C,S,rfl,bU,a7,h⟩;unfold aj1 at h;refine gd 3 ?_;cases (oi h).trans hr_;exact aau rfl (resT rfl) ⟨C,rfl,a7⟩
    ·refine gd 1 (aav (fun a w=>∃ ax U,a=fr 80 (updL ax [(1,pp (zz wi) 0),(4,iI e),(47,.bool U)])∧SR K K wi w [] [.box (zz wi) (zz wi) (aS e W X Y Z m ab J ac ad s ae af t ah ai u aj ak x al) 62]∧ajL k F e m s t u x U=some r_) ?_ ?_)
     ·refine gd 6 (bC 47 h (fun a8 h=>?_) (fun _ h=>?_))
      ·exact gd 3 (lX 47 a8.symm (⟨_,(e == 23),fR,d,h⟩))
      ·refine gd 7 (bC 47 h (fun a9 h=>?_) (fun _ h=>?_))
       ·exact gd 3 (lX 47 a9.symm (⟨_,(e == 25),fR,d,h⟩))
       ·exact gd 6 (⟨_,(e == 26),fR,d,h⟩)
     ·rintro _ bV ⟨ax,U,rfl,f,h⟩;unfold ajL at h;refine bC 47 h (fun _ h=>?_) (fun _ h=>?_)
      ·refine gD 5 [7,1] f (cB h amX (fun _ ba=>IH40 ba (hG.mono kr) y (pt f)) ?_);rintro bW _ bX ⟨bb,rfl,bd⟩ h;have be:=ca bd f;refine go 6 ?_;cases (oi h).trans hr_;exact aau rfl (resT rfl) ⟨bb,rfl,(be.sel [])⟩
      ·refine gd 7 (bC 54 h (fun _ h=>?_) (fun _ h=>?_))
       ·refine gd 1 (aav (fun a w=>∃ ay G V,a=fr 80 (updL ay [(2,.bool V)])∧KH.sub K G∧SR K G wi w [] []∧aja k F V=some r_) ?_ ?_)
        ·refine gD 3 [9,1] f (cB h amX (fun _ bf=>IH40 bf (hG.mono kr) aJ (pt f)) ?_);rintro bY _ bZ ⟨bg,rfl,g⟩ h;have I:=ca g f;refine go 1 (bO 59 h (fun _ h=>?_) (fun _ h=>?_))
         ·exact go 18 (⟨_,bg,true,fR,g.sub,(I.sel []),h⟩)
         ·refine gP 5 [7,1] I (cB h amX (fun _ bh=>IH40 bh (hG.mono g.sub) (ms y g.sub) (pt I)) ?_);rintro b0 _ b1 ⟨az,rfl,j⟩ h;have l:=ca j I;refine go 2 (bO 63 h (fun _ h=>?_) (fun _ h=>?_))
          ·refine gP 5 [5,1] l (bbt (r:=(IntKind.i64.wrap (BitVec.ofInt IntKind.i64.bits m &&& BitVec.ofInt IntKind.i64.bits 1).toNat)) rfl rfl rfl (go 4 (bO 68 h (fun _ h=>?_) (fun _ h=>?_))))
           ·exact go 11 (⟨_,az,true,fR,(g.sub.trans j.sub),(l.sel []),h⟩)
           ·refine gP 5 [8,1] l (cB h amX (fun _ bi=>IH40 bi (hG.mono (g.sub.trans j.sub)) (ms am (g.sub.trans j.sub)) (pt l)) ?_);rintro bj _ b2 ⟨bk,rfl,aA⟩ h;have bm:=ca aA l;exact go 8 (⟨_,bk,bj,fR,((g.sub.trans j.sub).trans aA.sub),(bm.sel []),h⟩)
          ·exact go 15 (⟨_,az,false,fR,(g.sub.trans j.sub),(l.sel []),h⟩)
        ·rintro _ b3 ⟨ay,G,V,rfl,b4,bn,h⟩;unfold aja at h;refine gd 3 ?_;cases (oi h).trans hr_;exact aau rfl (resT rfl) ⟨G,rfl,bn⟩
       ·refine gd 7 (bC 75 h (fun _ h=>?_) (fun _ h=>?_))
        ·refine gD 5 [10,1] f (cB h azX (fun _ bo=>IH1009388 bo (hG.mono kr) aK (pt f)) ?_);rintro b5 _ b6 ⟨bp,rfl,bq⟩ h;have br:=ca bq f;refine go 6 ?_;cases (oi h).trans hr_;exact aau rfl (resT rfl) ⟨bp,rfl,(br.sel [])⟩
        ·refine gd 10 ?_;cases (oi h).trans hr_;exact aau rfl (resT rfl) ⟨K,rfl,(f.sel [])⟩
theorem atL (k:Nat) (F:ac1) (IH40:abT F.f40) (IH65:abS F.f65) (IH94:abU F.f94) (IH1006449:aaS F.f1006449) (IH1009149:aaV F.f1009149) (IH1009388:aaR F.f1009388) (IH1012547:aaT F.f1012547) (IH1012626:aaU F.f1012626) (IH1014947:aaW F.f1014947):abU (avQ k F):=by
 unfold abU;intro K wi b m o h hG d e;obtain ⟨r_,hr_,h⟩:=rz h;obtain ⟨p,q,r,s,t⟩:=b;obtain ⟨u,v,x,y,rfl,z,A,f⟩:=aaB.open d;refine aat Tryz.func94 rfl (n:=6) rfl ?_;unfold avQ at h;refine gI 10 [4,1] [] e (fun B a=>(cB h amX (fun _ g=>IH40 g (hG.mono kr) f (pt a)) ?_));rintro C _ D ⟨i,rfl,j⟩ h;have l:=ca j a;refine go 4 ?_;cases (oi h).trans hr_;exact aau rfl (resT rfl) ⟨i,rfl,(l.sel [])⟩
theorem akh (k:Nat) (F:ac1) (IH40:abT F.f40) (IH65:abS F.f65) (IH94:abU F.f94) (IH1006449:aaS F.f1006449) (IH1009149:aaV F.f1009149) (IH1009388:aaR F.f1009388) (IH1012547:aaT F.f1012547) (IH1012626:aaU F.f1012626) (IH1014947:aaW F.f1014947):aaS (agQ k F):=by
 unfold aaS;intro K wi j l m b h hG d a;obtain ⟨r_,hr_,h⟩:=rz h;refine aat Tryz.func64 rfl (n:=9) rfl ?_;unfold agQ at h;refine gd 9 (cB h ayN (fun _ e=>IH1009149 e (hG.mono kr) d (pt a)) ?_);rintro b _ o ⟨f,rfl,g⟩ h;have i:=ca g a;refine go 5 ?_;cases (oi h).trans hr_;exact aau rfl (resT rfl) ⟨f,rfl,i⟩
theorem alg (k:Nat) (F:ac1) (IH40:abT F.f40) (IH65:abS F.f65) (IH94:abU F.f94) (IH1006449:aaS F.f1006449) (IH1009149:aaV F.f1009149) (IH1009388:aaR F.f1009388) (IH1012547:aaT F.f1012547) (IH1012626:aaU F.f1012626) (IH1014947:aaW F.f1014947):aaV (agA k F):=by
 unfold aaV;intro K wi g z A ao h hG q B;obtain ⟨r_,hr_,h⟩:=rz h;refine aat Tryz.func91 rfl (n:=19) rfl ?_;unfold agA at h;refine gd 14 (aaC (fun g_ a w=>∃ s l d,∃ (e:Nat),g_=d.length∧a=fr 19 (updL s [(0,sl z g A),(1,.func (.func 65) #[] #[]),(7,iI (g.length:Int)),(8,iI (e:Int))])∧KH.sub K l∧SR K l wi w [] []∧g.drop e=d∧ab1 k F d e=some r_) g.length ?_ ?_)
 ·exact ⟨_,K,g,0,rfl,fR,kr,B,List.drop_zero,h⟩
 ·rintro _ _ ap ⟨s,l,d,e,rfl,rfl,m,p,f,h⟩;rcases d with _ | ⟨⟨C,D,G,I,J,N,O,S,U,V,W⟩,d⟩
  ·unfold ab1 at h;refine gd 2 (bcm (r:=false) rfl rfl (congrArg some (aal f)) (go 15 ?_));cases (oi h).trans hr_;exact aau rfl (resT rfl) ⟨l,rfl,p⟩
  ·unfold ab1 at h;refine gd 2 (bcm (r:=true) rfl rfl (congrArg some (aak f)) (go 19 ?_));obtain ⟨X,Y,aq,Z,ar,ab,t⟩:=((ms q m)).row.at_ (aaj f);obtain ⟨ac,ad,ae,af,ah,ai,aj,ak,al,am,rfl,au,av,aw,ax,ay,az,aA⟩:=aai.open t;refine idxN (b:=X) (o:=Y) (i:=e) ab2 abx rfl Z rfl (aab f) (lD (vS C D G I J N ac O ad ae S af ah U ai aj V ak al W am) aeH abx rfl (fun j v hj=>p.cell (kr.cell (ab j v hj))) (cB h aAl (fun _ an=>IH65 an (hG.mono m) t (pt p)) ?_));rintro aB _ aG ⟨u,rfl,x⟩ h;have y:=ca x p;refine go 2 (bC 16 h (fun _ h=>?_) (fun _ h=>?_))
   ·refine gd 13 ?_;cases (oi h).trans hr_;exact aau rfl (resT rfl) ⟨u,rfl,y⟩
   ·exact gd 5 (bar (r:=((e + 1:Nat):Int)) rfl rfl (aaK (aaM (((ms q m)).len) (by decide) (aab f))) (go 3 (⟨_,Nat.lt_succ_self _,_,u,d,e + 1,rfl,fR,(m.trans x.sub),y,aag f,h⟩)))
theorem alr (k:Nat) (F:ac1) (IH40:abT F.f40) (IH65:abS F.f65) (IH94:abU F.f94) (IH1006449:aaS F.f1006449) (IH1009149:aaV F.f1009149) (IH1009388:aaR F.f1009388) (IH1012547:aaT F.f1012547) (IH1012626:aaU F.f1012626) (IH1014947:aaW F.f1014947):aaR (agF k F):=by
 unfold aaR;intro K wi i j l m h hG b a;obtain ⟨r_,hr_,h⟩:=rz h;refine aat Tryz.func93 rfl (n:=9) rfl ?_;unfold agF at h;refine gI 9 [] [] a (fun o a=>(mkf (us:=[]) (vs:=[pp (zz wi) 0]) rfl rfl (cB h axV (fun _ d=>IH1012547 d (hG.mono kr) b (pt a)) ?_)));rintro p _ q ⟨e,rfl,f⟩ h;have g:=ca f a;refine go 5 ?_;cases (oi h).trans hr_;exact aau rfl (resT rfl) ⟨e,rfl,(g.sel [])⟩
theorem akq (k:Nat) (F:ac1) (IH40:abT F.f40) (IH65:abS F.f65) (IH94:abU F.f94) (IH1006449:aaS F.f1006449) (IH1009149:aaV F.f1009149) (IH1009388:aaR F.f1009388) (IH1012547:aaT F.f1012547) (IH1012626:aaU F.f1012626) (IH1014947:aaW F.f1014947):aaT (agY k F):=by
 unfold aaT;intro K wi l m o g bs b h hG d a;obtain ⟨r_,hr_,h⟩:=rz h;refine aat Tryz.func125 rfl (n:=9) rfl ?_;unfold agY at h;refine gd 9 (cB h ax1 (fun _ e=>IH1014947 e (hG.mono kr) d (pt a)) ?_);rintro b _ p ⟨f,rfl,i⟩ h;have j:=ca i a;refine go 5 ?_;cases (oi h).trans hr_;exact aau rfl (resT rfl) ⟨f,rfl,j⟩
theorem akN (k:Nat) (F:ac1) (IH40:abT F.f40) (IH65:abS F.f65) (IH94:abU F.f94) (IH1006449:aaS F.f1006449) (IH1009149:aaV F.f1009149) (IH1009388:aaR F.f1009388) (IH1012547:aaT F.f1012547) (IH1012626:aaU F.f1012626) (IH1014947:aaW F.f1014947):aaU (agW k F):=by
 unfold aaU;intro K wi b q g bs r h hG d e;obtain ⟨r_,hr_,h⟩:=rz h;obtain ⟨s,t,u,v,x⟩:=b;obtain ⟨y,z,A,B,rfl,f,i,j⟩:=aaB.open d;refine aat Tryz.func126 rfl (n:=8) rfl ?_;unfold agW at h;refine gI 10 [2,0,0,5] [] e (fun C a=>(cB h aAg (fun _ l=>IH94 l (hG.mono kr) (aaB.intro f i j) (pt a)) ?_));rintro D _ G ⟨m,rfl,o⟩ h;have p:=ca o a;refine go 5 ?_;cases (oi h).trans hr_;exact aau rfl (resT rfl) ⟨m,rfl,(p.sel [1])⟩
theorem alf (k:Nat) (F:ac1) (IH40:abT F.f40) (IH65:abS F.f65) (IH94:abU F.f94) (IH1006449:aaS F.f1006449) (IH1009149:aaV F.f1009149) (IH1009388:aaR F.f1009388) (IH1012547:aaT F.f1012547) (IH1012626:aaU F.f1012626) (IH1014947:aaW F.f1014947):aaW (agz k F):=by
 unfold aaW;intro K wi l S U g bs ac h hG s V;obtain ⟨r_,hr_,h⟩:=rz h;refine aat Tryz.func149 rfl (n:=19) rfl ?_;unfold agz at h;refine gd 14 (aaC (fun g_ a w=>∃ t m d,∃ (e:Nat),g_=d.length∧a=fr 19 (updL t [(0,sl S l U),(1,.func (.func 126) #[] #[pp g 0]),(7,iI (l.length:Int)),(8,iI (e:Int))])∧KH.sub K m∧SR K m wi w [.box bs g #[.func (.func 94) #[] #[]] 137] [.box bs g #[.func (.func 94) #[] #[]] 137]∧l.drop e=d∧ab8 k F d e=some r_) l.length ?_ ?_)
 ·exact ⟨_,K,l,0,rfl,fR,kr,V,List.drop_zero,h⟩
 ·rintro _ _ ad ⟨t,m,d,e,rfl,rfl,p,q,f,h⟩;rcases d with _ | ⟨⟨u,x,y,z,A⟩,d⟩
  ·unfold ab8 at h;refine gd 2 (bcm (r:=false) rfl rfl (congrArg some (aal f)) (go 15 ?_));cases (oi h).trans hr_;exact aau rfl (resT rfl) ⟨m,rfl,q⟩
  ·unfold ab8 at h;refine gd 2 (bcm (r:=true) rfl rfl (congrArg some (aak f)) (go 19 ?_));obtain ⟨W,X,ae,Y,af,Z,B⟩:=((mc s p)).row.at_ (aaj f);obtain ⟨C,D,G,I,rfl,ah,ai,aj⟩:=aaB.open B;refine idxN (b:=W) (o:=X) (i:=e) acX acg rfl Y rfl (aab f) (lD (vC u x y C z D G A I) ag5 acg rfl (fun j v hj=>q.cell (kr.cell (Z j v hj))) ?_);obtain ⟨ak,ab,h⟩:=ob h;refine clV (caps:=#[pp g 0]) (vs:=[.agg (aC' u x y C z D G A I),pp g 0]) rfl ayW rfl (IH1012626 ab (hG.mono p) B (pt q)) ?_;rintro _ al ⟨J,rfl,N⟩;have O:=ca N q;refine go 2 (bC 16 h (fun _ h=>?_) (fun _ h=>?_))
   ·refine gd 13 ?_;cases (oi h).trans hr_;exact aau rfl (resT rfl) ⟨J,rfl,O⟩
   ·exact gd 5 (bar (r:=((e + 1:Nat):Int)) rfl rfl (aaK (aaM (((mc s p)).len) (by decide) (aab f))) (go 3 (⟨_,Nat.lt_succ_self _,_,J,d,e + 1,rfl,fR,(p.trans N.sub),O,aag f,h⟩)))
theorem adb (k0:Nat) : ∀ k,abT (abs k0 k).f40∧abS (abs k0 k).f65∧abU (abs k0 k).f94∧aaS (abs k0 k).f1006449∧aaV (abs k0 k).f1009149∧aaR (abs k0 k).f1009388∧aaT (abs k0 k).f1012547∧aaU (abs k0 k).f1012626∧aaW (abs k0 k).f1014947:=by
 intro k;induction k with
 | zero=>exact ⟨(by unfold abT; intro _ _ _ _ _ _ h_; cases h_),(by unfold abS; intro _ _ _ _ _ h_; cases h_),(by unfold abU; intro _ _ _ _ _ h_; cases h_),(by unfold aaS; intro _ _ _ _ _ _ h_; cases h_),(by unfold aaV; intro _ _ _ _ _ _ h_; cases h_),(by unfold aaR; intro _ _ _ _ _ _ h_; cases h_),(by unfold aaT; intro _ _ _ _ _ _ _ _ h_; cases h_),(by unfold aaU; intro _ _ _ _ _ _ _ h_; cases h_),(by unfold aaW; intro _ _ _ _ _ _ _ _ h_; cases h_)⟩
 | succ k ih=>exact ⟨as8 k0 (abs k0 k) ih.1 ih.2.1 ih.2.2.1 ih.2.2.2.1 ih.2.2.2.2.1 ih.2.2.2.2.2.1 ih.2.2.2.2.2.2.1 ih.2.2.2.2.2.2.2.1 ih.2.2.2.2.2.2.2.2,atC k0 (abs k0 k) ih.1 ih.2.1 ih.2.2.1 ih.2.2.2.1 ih.2.2.2.2.1 ih.2.2.2.2.2.1 ih.2.2.2.2.2.2.1 ih.2.2.2.2.2.2.2.1 ih.2.2.2.2.2.2.2.2,atL k0 (abs k0 k) ih.1 ih.2.1 ih.2.2.1 ih.2.2.2.1 ih.2.2.2.2.1 ih.2.2.2.2.2.1 ih.2.2.2.2.2.2.1 ih.2.2.2.2.2.2.2.1 ih.2.2.2.2.2.2.2.2,akh k0 (abs k0 k) ih.1 ih.2.1 ih.2.2.1 ih.2.2.2.1 ih.2.2.2.2.1 ih.2.2.2.2.2.1 ih.2.2.2.2.2.2.1 ih.2.2.2.2.2.2.2.1 ih.2.2.2.2.2.2.2.2,alg k0 (abs k0 k) ih.1 ih.2.1 ih.2.2.1 ih.2.2.2.1 ih.2.2.2.2.1 ih.2.2.2.2.2.1 ih.2.2.2.2.2.2.1 ih.2.2.2.2.2.2.2.1 ih.2.2.2.2.2.2.2.2,alr k0 (abs k0 k) ih.1 ih.2.1 ih.2.2.1 ih.2.2.2.1 ih.2.2.2.2.1 ih.2.2.2.2.2.1 ih.2.2.2.2.2.2.1 ih.2.2.2.2.2.2.2.1 ih.2.2.2.2.2.2.2.2,akq k0 (abs k0 k) ih.1 ih.2.1 ih.2.2.1 ih.2.2.2.1 ih.2.2.2.2.1 ih.2.2.2.2.2.1 ih.2.2.2.2.2.2.1 ih.2.2.2.2.2.2.2.1 ih.2.2.2.2.2.2.2.2,akN k0 (abs k0 k) ih.1 ih.2.1 ih.2.2.1 ih.2.2.2.1 ih.2.2.2.2.1 ih.2.2.2.2.2.1 ih.2.2.2.2.2.2.1 ih.2.2.2.2.2.2.2.1 ih.2.2.2.2.2.2.2.2,alf k0 (abs k0 k) ih.1 ih.2.1 ih.2.2.1 ih.2.2.2.1 ih.2.2.2.2.1 ih.2.2.2.2.2.1 ih.2.2.2.2.2.2.1 ih.2.2.2.2.2.2.2.1 ih.2.2.2.2.2.2.2.2⟩
theorem ayx (k:Nat):abT (f40 k):=(adb k k).1
theorem aAA (k:Nat):abS (f65 k):=(adb k k).2.1
theorem aAB (k:Nat):abU (f94 k):=(adb k k).2.2.1
theorem av4 (k:Nat):aaS (f1006449 k):=(adb k k).2.2.2.1
theorem avn (k:Nat):aaV (f1009149 k):=(adb k k).2.2.2.2.1
theorem awZ (k:Nat):aaR (f1009388 k):=(adb k k).2.2.2.2.2.1
theorem awW (k:Nat):aaT (f1012547 k):=(adb k k).2.2.2.2.2.2.1
theorem auU (k:Nat):aaU (f1012626 k):=(adb k k).2.2.2.2.2.2.2.1
theorem awi (k:Nat):aaW (f1014947 k):=(adb k k).2.2.2.2.2.2.2.2
theorem asP (k:Nat):alm (atu k):=by
 unfold alm;intro K wi J am an h hG N O;obtain ⟨r_,hr_,h⟩:=rz h;obtain ⟨ao,q,ap,aq,ar,au⟩:=J;obtain ⟨S,U,av,aw,rfl,ax,y,ay⟩:=aar.open N;refine aat Tryz.func42 rfl (n:=20) rfl ?_;unfold atu at h;refine gI 21 [1,1] [] O (fun az V=>?_);have W:=V.row_ (zz wi) 3 1;refine aaC (fun g_ a w=>∃ z g,∃ (l:Nat),∃ d s t u,g_=g.length∧a=fr 20 (updL z [(3,sl s d t),(7,sl S q U),(8,iI (q.length:Int)),(9,iI (l:Int))])∧SR K K wi w [] [eW (zz wi) s d t 3 1 u]∧q.drop l=g∧Reps (RInt .i64) 1 d u∧d.length * 8 ≤ mB∧ag9 k g l d=some r_) q.length ?_ ?_
 ·exact ⟨_,q,0,([]:List Int),none,0,[],rfl,fR,(W.sel [0]),List.drop_zero,(aa1 (R:=(RInt .i64)) (size:=1)),(by simp),h⟩
 ·rintro _ _ X ⟨z,g,l,d,s,t,u,rfl,rfl,x,m,A,Y,h⟩;rcases g with _ | ⟨⟨B,f⟩,g⟩
  ·unfold ag9 at h;refine gd 2 (bcm (r:=false) rfl rfl (congrArg some (aal m)) (go 16 ?_));cases (oi h).trans hr_;exact aau rfl (resT rfl) ⟨K,s,t,u,rfl,x,A,Y⟩
  ·unfold ag9 at h;refine gd 2 (bcm (r:=true) rfl rfl (congrArg some (aak m)) (go 10 ?_));obtain ⟨Z,ab,aA,ac,aB,ad,ae⟩:=(y).row.at_ (aaj m);obtain ⟨rfl,aG⟩:=aaN.open ae;refine idxN (b:=Z) (o:=ab) (i:=l) ajk ajn rfl ac rfl (aab m) (lD ([.string B,iI f]) au3 ajn rfl (fun j v hj=>x.cell (kr.cell (ad j v hj))) (gR 8 [0,1,1] [[sE,iI 0]] x (fun aH aI af=>(bsl (e:=3) (cells:=#[iI f]) (vs:=[(0,iI f)]) af rfl (aao abv Tys3 Tyz3 rfl (by decide) (by decide) rfl) (fun aJ ah=>?_)))));obtain ⟨C,h⟩:=aaE h;refine apR (R:=(RInt .i64)) (p:=f) (i:=2) (j:=0) ah rfl rfl abv Tyi3 rfl (by decide) rfl rfl A rfl rfl rfl (Nat.le_refl _) C (by decide) (fun D G I ai aj ak=>?_);have al:=p12 aj;exact go 5 (bar (r:=((l + 1:Nat):Int)) rfl rfl (aaK (aaM ((y).len) (by decide) (aab m))) (go 3 (⟨_,Nat.lt_succ_self _,_,g,l + 1,(d ++ [f]),D,G,I,rfl,fR,(al.sel [1]),aag m,ak,(aaG C),h⟩)))
theorem ajJ (k:Nat):alm (f42 k):=asP k
theorem arz (k:Nat):amR (f129 k):=by
 unfold amR;intro K wi a0 Aa0 ca0 r0 h hG ha0 S0;unfold f129 at h;obtain ⟨hn,h⟩:=aaE h;have e_:=Option.some.inj h;subst e_;refine enter Tryz.func129 rfl (n:=8) rfl ?_;refine wp_seq ?_;refine wp_region_lit ?_;refine asg (v:=.slice none 0 0) rfl ?_;refine wpList_nil ?_;refine aaX ?_;refine wp_seq ?_;refine wp_seq ?_;refine wp_region_lit ?_;refine mv (v:=.slice Aa0 a0.length ca0) rfl ?_;refine bsn (A:=Aa0) ajk rfl rfl ?_;refine wpList_nil ?_;refine aaX ?_;rcases Bool.eq_false_or_eq_true Aa0.isNone with hb1 | hb1
 ·have ha:a0=[]:=by
   obtain ⟨b,o,cs,g1,g2,g3⟩:=ha0.row;cases a0 with
   | nil=>rfl
   | cons x xs=>rw [g1 (by simp)] at hb1; cases hb1
  subst ha;refine cndT (congrArg Value.bool hb1) ?_;refine wp_seq ?_;refine wp_region_lit ?_;refine asg (v:=.slice none 0 0) rfl ?_;refine wpList_nil ?_;refine aaX ?_;refine wp_ret ?_;refine at1 ?_;exact aau rfl (resT rfl) ⟨K,none,0,rfl,S0,(RSl.nil _ _ _ _ _ _)⟩
 ·refine cndF (congrArg Value.bool hb1) ?_;refine wp_skip ?_;refine aaX ?_;refine wp_seq ?_;refine wp_region_lit ?_;refine bsl (e:=70) (cells:=#[]) (vs:=[]) S0 rfl (fun w=>by kernel_rfl) ?_;intro w3 S2;have S4:=S2.boxrow (i:=0) (size:=2) rfl;refine mv (v:=.slice Aa0 a0.length ca0) rfl ?_;have hn11:(([]:List aaL).length + a0.length) * 24≤mB:=by simpa using hn
  refine apS (R:=fun K=>(aaN K)) (zs:=a0) (i:=0) S4 rfl ajk ayV rfl (by decide) rfl rfl (aa1 (R:=(aaN K)) (size:=2)) ha0 (fun _ _ h=>aaN.one h) (Nat.le_refl _) hn11 (by decide) ?_;intro A5 c6 ys7 w8 S9 hr10;refine asg (v:=.slice A5 (([]:List aaL) ++ a0).length c6) rfl ?_;refine wpList_nil ?_;refine aaX ?_;refine wp_ret ?_;obtain ⟨K12,S13,hs14,hr15⟩:=ab4 (i:=0) (bytes:=24) (R:=fun K=>(aaN K)) S9 rfl (Nat.le_refl _) hr10 (ajr hn11) (fun hs=>(fun _ _ h=>aaN.mono hs h));exact aau rfl (resT rfl) ⟨K12,A5,c6,rfl,S13,hr15⟩
theorem arC (k:Nat):aiZ (aoc k):=by
 unfold aiZ;intro K wi a f g h hG b d;obtain ⟨r_,hr_,h⟩:=rz h;obtain ⟨i,j,l,m,o⟩:=a;obtain ⟨p,q,rfl,r,s⟩:=aan.open b;refine aat Tryz.func157 rfl (n:=3) rfl ?_;unfold aoc at h;refine gI 12 [] [] d (fun t e=>?_);cases (oi h).trans hr_;exact aau rfl (resT rfl) ⟨K,rfl,(e.sel [])⟩
theorem awz (k:Nat):aiZ (f157 k):=arC k
theorem akQ (k:Nat) (F:ade) (IH1015923:abK F.f1015923) (IH1017823:abI F.f1017823):abK (agB k F):=by
 unfold abK;intro K wi x ak al aN h hG J am;obtain ⟨r_,hr_,h⟩:=rz h;refine aat Tryz.func159 rfl (n:=22) rfl ?_;unfold agB at h;refine gd 19 ?_;have an:=am.row_ (zz wi) 35 5;refine aaC (fun g_ a w=>∃ N y f,∃ (g:Nat),∃ d z A C,g_=f.length∧a=fr 22 (updL N [(1,.func (.func 157) #[] #[]),(5,sl z d A),(8,sl ak x al),(9,iI (x.length:Int)),(10,iI (g:Int))])∧KH.sub K y∧SR K y wi w [] [eW (zz wi) z d A 35 5 C]∧x.drop g=f∧Reps (aan y) 5 d C∧d.length * 64 ≤ mB∧abE k F f g d=some r_) x.length ?_ ?_
 ·exact ⟨_,K,x,0,([]:LE),none,0,[],rfl,fR,kr,an,List.drop_zero,(aa1 (R:=(aan K)) (size:=5)),(by simp),h⟩
 ·rintro _ _ ao ⟨N,y,f,g,d,z,A,C,rfl,rfl,B,D,l,O,ap,h⟩;rcases f with _ | ⟨⟨S,U,V,W,X⟩,f⟩
  ·unfold abE at h;refine gd 2 (bcm (r:=false) rfl rfl (congrArg some (aal l)) (go 16 ?_));obtain ⟨aq,ar,aP,au⟩:=ab4 (i:=0) (bytes:=64) (R:=fun K=>(aan K)) D rfl (Nat.le_refl _) O ap (fun hs=>(fun _ _ h=>aan.mono hs h));cases (oi h).trans hr_;exact aau rfl (resT rfl) ⟨aq,z,A,rfl,ar,au⟩
  ·unfold abE at h;refine gd 2 (bcm (r:=true) rfl rfl (congrArg some (aak l)) (go 10 ?_));obtain ⟨av,aw,aT,ax,aU,ay,az⟩:=((me J B)).row.at_ (aaj l);obtain ⟨Y,Z,rfl,aA,aB⟩:=aan.open az;refine idxN (b:=av) (o:=aw) (i:=g) ack abp rfl ax rfl (aab l) (lD (vE S U V W Y X Z) adO abp rfl (fun j v hj=>D.cell (kr.cell (ay j v hj))) (gR 8 [0,0,0,5] [[iI 0,iI 0,sE,iI 0,nS]] D (fun aV aW ab=>(cB h aqy (fun _ aG=>IH1017823 aG (hG.mono B) (aan.intro aA aB) (pt ab)) ?_))));rintro ⟨m,q,s,t,u⟩ _ aX ⟨G,aY,rfl,I,ac⟩ h;have aH:=ca I ab;obtain ⟨ad,ae,rfl,aZ,a1⟩:=aan.open ac;refine bsl (e:=35) (cells:=(aE m q s t ad u ae)) (vs:=[(0,.agg (aE m q s t ad u ae))]) aH rfl (aao ack abp anR rfl (by decide) (by decide) rfl) (fun a2 aI=>?_);obtain ⟨af,h⟩:=aaE h;refine apR (R:=(aan G)) (p:=(aam.mk m q s t u)) (i:=2) (j:=0) aI rfl rfl ack apw rfl (by decide) rfl rfl (O.mono (fun _ _ h=>aan.mono I.sub h)) ac rfl rfl (Nat.le_refl _) af (by decide) (fun ah ai aj aJ aK aL=>?_);have aM:=p12 aK;exact go 5 (bar (r:=((g + 1:Nat):Int)) rfl rfl (aaK (aaM (((me J B)).len) (by decide) (aab l))) (go 3 (⟨_,Nat.lt_succ_self _,_,G,f,g + 1,(d ++ [(aam.mk m q s t u)]),ah,ai,aj,rfl,fR,(B.trans I.sub),(aM.sel [1]),aag l,aL,(aaG af),h⟩)))
theorem aks (k:Nat) (F:ade) (IH1015923:abK F.f1015923) (IH1017823:abI F.f1017823):abI (adY k F):=by
 unfold abI;intro K wi u G I h hG v x;obtain ⟨r_,hr_,h⟩:=rz h;obtain ⟨a,b,d,J,N⟩:=u;obtain ⟨O,S,rfl,e,y⟩:=aan.open v;refine aat Tryz.func178 rfl (n:=15) rfl ?_;unfold adY at h;refine gI 11 [4,2] [[iI 0,iI 0,sE,iI 0,nS]] x (fun U V f=>(cB h ahm (fun _ z=>IH1015923 z (hG.mono kr) y (pt f)) ?_));rintro g _ W ⟨X,j,m,rfl,o,p⟩ h;have A:=ca o f;refine gR 8 [4,1,0,1,5] [] A (fun Y q=>(cB h ayR (fun _ B=>(awz k) B (hG.mono o.sub) (aan.intro e p) (pt q)) ?_));rintro r _ Z ⟨C,rfl,s⟩ h;have D:=ca s q;refine gR 11 [3,1,0,1,5,0] [] D (fun ab ac t=>?_);cases (oi h).trans hr_;exact aau rfl (resN (i:=0) (l:=(vE a b d r j g m)) t rfl adO abp rfl rfl rfl) ⟨C,(vE a b d r j g m),rfl,(t.sel []),(aan.intro e (me p s.sub))⟩
theorem agl (k0:Nat) : ∀ k,abK (abq k0 k).f1015923∧abI (abq k0 k).f1017823:=by
 intro k;induction k with
 | zero=>exact ⟨(by unfold abK; intro _ _ _ _ _ _ h_; cases h_),(by unfold abI; intro _ _ _ _ _ h_; cases h_)⟩
 | succ k ih=>exact ⟨akQ k0 (abq k0 k) ih.1 ih.2,aks k0 (abq k0 k) ih.1 ih.2⟩
theorem aiD (k:Nat):abK (f1015923 k):=(agl k k).1
theorem aww (k:Nat):abI (f1017823 k):=(agl k k).2
theorem ar7 (k:Nat):ahN (aqz k):=by
 unfold ahN;intro K wi a f g h hG b d;obtain ⟨r_,hr_,h⟩:=rz h;obtain ⟨i,j,l,m,o⟩:=a;obtain ⟨p,q,rfl,r,s⟩:=aan.open b;refine aat Tryz.func158 rfl (n:=5) rfl ?_;unfold aqz at h;refine gI 14 [3,1] [] d (fun t e=>?_);cases (oi h).trans hr_;exact aau rfl (resT rfl) ⟨K,rfl,(e.sel [])⟩
theorem awB (k:Nat):ahN (f158 k):=ar7 k
theorem alp (k:Nat) (F:adf) (IH1015954:abJ F.f1015954) (IH1017854:abG F.f1017854):abJ (agr k F):=by
 unfold abJ;intro K wi x ak al aN h hG J am;obtain ⟨r_,hr_,h⟩:=rz h;refine aat Tryz.func159 rfl (n:=22) rfl ?_;unfold agr at h;refine gd 19 ?_;have an:=am.row_ (zz wi) 35 5;refine aaC (fun g_ a w=>∃ N y f,∃ (g:Nat),∃ d z A C,g_=f.length∧a=fr 22 (updL N [(1,.func (.func 158) #[] #[]),(5,sl z d A),(8,sl ak x al),(9,iI (x.length:Int)),(10,iI (g:Int))])∧KH.sub K y∧SR K y wi w [] [eW (zz wi) z d A 35 5 C]∧x.drop g=f∧Reps (aan y) 5 d C∧d.length * 64 ≤ mB∧adw k F f g d=some r_) x.length ?_ ?_
 ·exact ⟨_,K,x,0,([]:LE),none,0,[],rfl,fR,kr,an,List.drop_zero,(aa1 (R:=(aan K)) (size:=5)),(by simp),h⟩
 ·rintro _ _ ao ⟨N,y,f,g,d,z,A,C,rfl,rfl,B,D,l,O,ap,h⟩;rcases f with _ | ⟨⟨S,U,V,W,X⟩,f⟩
  ·unfold adw at h;refine gd 2 (bcm (r:=false) rfl rfl (congrArg some (aal l)) (go 16 ?_));obtain ⟨aq,ar,aP,au⟩:=ab4 (i:=0) (bytes:=64) (R:=fun K=>(aan K)) D rfl (Nat.le_refl _) O ap (fun hs=>(fun _ _ h=>aan.mono hs h));cases (oi h).trans hr_;exact aau rfl (resT rfl) ⟨aq,z,A,rfl,ar,au⟩
  ·unfold adw at h;refine gd 2 (bcm (r:=true) rfl rfl (congrArg some (aak l)) (go 10 ?_));obtain ⟨av,aw,aT,ax,aU,ay,az⟩:=((me J B)).row.at_ (aaj l);obtain ⟨Y,Z,rfl,aA,aB⟩:=aan.open az;refine idxN (b:=av) (o:=aw) (i:=g) ack abp rfl ax rfl (aab l) (lD (vE S U V W Y X Z) adO abp rfl (fun j v hj=>D.cell (kr.cell (ay j v hj))) (gR 8 [0,0,0,5] [[iI 0,iI 0,sE,iI 0,nS]] D (fun aV aW ab=>(cB h aqy (fun _ aG=>IH1017854 aG (hG.mono B) (aan.intro aA aB) (pt ab)) ?_))));rintro ⟨m,q,s,t,u⟩ _ aX ⟨G,aY,rfl,I,ac⟩ h;have aH:=ca I ab;obtain ⟨ad,ae,rfl,aZ,a1⟩:=aan.open ac;refine bsl (e:=35) (cells:=(aE m q s t ad u ae)) (vs:=[(0,.agg (aE m q s t ad u ae))]) aH rfl (aao ack abp anR rfl (by decide) (by decide) rfl) (fun a2 aI=>?_);obtain ⟨af,h⟩:=aaE h;refine apR (R:=(aan G)) (p:=(aam.mk m q s t u)) (i:=2) (j:=0) aI rfl rfl ack apw rfl (by decide) rfl rfl (O.mono (fun _ _ h=>aan.mono I.sub h)) ac rfl rfl (Nat.le_refl _) af (by decide) (fun ah ai aj aJ aK aL=>?_);have aM:=p12 aK;exact go 5 (bar (r:=((g + 1:Nat):Int)) rfl rfl (aaK (aaM (((me J B)).len) (by decide) (aab l))) (go 3 (⟨_,Nat.lt_succ_self _,_,G,f,g + 1,(d ++ [(aam.mk m q s t u)]),ah,ai,aj,rfl,fR,(B.trans I.sub),(aM.sel [1]),aag l,aL,(aaG af),h⟩)))
theorem aj7 (k:Nat) (F:adf) (IH1015954:abJ F.f1015954) (IH1017854:abG F.f1017854):abG (ag4 k F):=by
 unfold abG;intro K wi u G I h hG v x;obtain ⟨r_,hr_,h⟩:=rz h;obtain ⟨a,b,d,J,N⟩:=u;obtain ⟨O,S,rfl,e,y⟩:=aan.open v;refine aat Tryz.func178 rfl (n:=15) rfl ?_;unfold ag4 at h;refine gI 11 [4,2] [[iI 0,iI 0,sE,iI 0,nS]] x (fun U V f=>(cB h ahm (fun _ z=>IH1015954 z (hG.mono kr) y (pt f)) ?_));rintro g _ W ⟨X,j,m,rfl,o,p⟩ h;have A:=ca o f;refine gR 8 [4,1,0,1,5] [] A (fun Y q=>(cB h azf (fun _ B=>(awB k) B (hG.mono o.sub) (aan.intro e p) (pt q)) ?_));rintro r _ Z ⟨C,rfl,s⟩ h;have D:=ca s q;refine gR 11 [3,1,0,1,5,0] [] D (fun ab ac t=>?_);cases (oi h).trans hr_;exact aau rfl (resN (i:=0) (l:=(vE a b d r j g m)) t rfl adO abp rfl rfl rfl) ⟨C,(vE a b d r j g m),rfl,(t.sel []),(aan.intro e (me p s.sub))⟩
theorem af3 (k0:Nat) : ∀ k,abJ (acw k0 k).f1015954∧abG (acw k0 k).f1017854:=by
 intro k;induction k with
 | zero=>exact ⟨(by unfold abJ; intro _ _ _ _ _ _ h_; cases h_),(by unfold abG; intro _ _ _ _ _ h_; cases h_)⟩
 | succ k ih=>exact ⟨alp k0 (acw k0 k) ih.1 ih.2,aj7 k0 (acw k0 k) ih.1 ih.2⟩
theorem ajc (k:Nat):abJ (f1015954 k):=(af3 k k).1
theorem av6 (k:Nat):abG (f1017854 k):=(af3 k k).2
theorem arN (k:Nat) (F:aeY) (IH130:adZ F.f130):adZ (apP k F):=by
 unfold adZ;intro K wi l aK aL d fW h hG bI ct;obtain ⟨r_,hr_,h⟩:=rz h;refine aat Tryz.func130 rfl (n:=76) rfl ?_;unfold apP at h;refine gd 16 (bC 12 h (fun _ h=>?_) (fun _ h=>?_))
 ·refine gd 19 ?_;have dN:=ct.row_ (zz wi) 62 11;refine aaC (fun g_ a w=>∃ cu bB aq,∃ (J:Nat),∃ f ai aj aY,g_=aq.length∧a=fr 76 (updL cu [(1,.bool d),(5,.func (.func 158) #[] #[]),(6,sl ai f aj),(13,sl aK l aL),(14,iI (l.length:Int)),(15,iI (J:Int))])∧KH.sub K bB∧SR K bB wi w [] [eW (zz wi) ai f aj 62 11 aY]∧l.drop J=aq∧Reps (aai bB) 11 f aY∧f.length * 184 ≤ mB∧aei k F d aq J f=some r_) l.length ?_ ?_
  ·exact ⟨_,K,l,0,([]:LS),none,0,[],rfl,fR,kr,dN,List.drop_zero,(aa1 (R:=(aai K)) (size:=11)),(by simp),h⟩
  ·rintro _ _ aM ⟨cu,bB,aq,J,f,ai,aj,aY,rfl,rfl,aG,bP,ba,cw,dO,h⟩;rcases aq with _ | ⟨⟨s,t,cx,u,cy,x,bQ,bR,bS,bT,N⟩,aq⟩
   ·unfold aei at h;refine gd 2 (bcm (r:=false) rfl rfl (congrArg some (aal ba)) (go 16 ?_));obtain ⟨dP,dQ,fX,dR⟩:=ab4 (i:=0) (bytes:=184) (R:=fun K=>(aai K)) bP rfl (Nat.le_refl _) cw dO (fun hs=>(fun _ _ h=>aai.mono hs h));cases (oi h).trans hr_;exact aau rfl (resT rfl) ⟨dP,ai,aj,rfl,dQ,dR⟩
   ·unfold aei at h;refine gd 2 (bcm (r:=true) rfl rfl (congrArg some (aak ba)) (go 10 ?_));obtain ⟨dS,dT,fY,dU,fZ,dV,dW⟩:=((ms bI aG)).row.at_ (aaj ba);obtain ⟨cz,cA,cC,cD,cG,cH,cI,cJ,aZ,a2,rfl,dX,dY,dZ,d0,d1,d2,cK⟩:=aai.open dW;refine idxN (b:=dS) (o:=dT) (i:=J) ab2 abx rfl dU rfl (aab ba) (lD (vS s t cx u cy x cz bQ cA cC bR cD cG bS cH cI bT cJ aZ N a2) aeH abx rfl (fun j v hj=>bP.cell (kr.cell (dV j v hj))) (gR 4 [0] [[iI 0,sE,iI 0,sE,iI 0,iI 0,nS,nS,nS,nS,nS]] bP (fun f0 f1 cL=>(aav (fun a w=>∃ cM y z,a=fr 76 (updL cM [(1,.bool d),(5,.func (.func 158) #[] #[]),(6,sl ai f aj),(8,pp (zz aM) 0),(13,sl aK l aL),(14,iI (l.length:Int)),(15,iI (J:Int))])∧SR K bB wi w [] [.box (zz wi) (zz aM) (aS s t y u z x cz bQ cA cC bR cD cG bS cH cI bT cJ aZ N a2) 62,eW (zz wi) ai f aj 62 11 aY]∧akd k F d f J s t u x bQ bR bS bT N y z (aei k F d aq)=some r_) ?_ ?_))))
    ·refine gd 6 (bC 20 h (fun _ h=>?_) (fun _ h=>?_))
     ·exact gI 8 [2,0,4,0] [] cL (fun f2 f3 d3=>(⟨_,0,0,fR,d3,h⟩))
     ·exact gd 3 (⟨_,cx,cy,fR,cL,h⟩)
    ·rintro _ f4 ⟨cM,y,z,rfl,bU,h⟩;unfold akd at h;refine gD 5 [6,1] bU (cB h ahm (fun _ d4=>(ajc k) d4 (hG.mono aG) dZ (pt bU)) ?_);rintro W _ f6 ⟨f7,bb,bd,rfl,O,d5⟩ h;have d6:=ca O bU;refine gR 9 [6,0,7,1] [] d6 (fun ga cN=>(cB h age (fun _ d7=>IH130 d7 (hG.mono (aG.trans O.sub)) (ms d0 O.sub) (pt cN)) ?_));rintro X _ gb ⟨gc,be,bf,rfl,Y,d8⟩ h;have d9:=ca Y cN;refine gR 9 [7,0,8,1] [] d9 (fun ge cO=>(cB h age (fun _ ea=>IH130 ea (hG.mono ((aG.trans O.sub).trans Y.sub)) (ms d1 (O.sub.trans Y.sub)) (pt cO)) ?_));rintro Z _ gf ⟨gg,bg,bh,rfl,ak,ec⟩ h;have ed:=ca ak cO;refine gR 9 [8,0,9,1] [] ed (fun gh cP=>(cB h age (fun _ ee=>IH130 ee (hG.mono (((aG.trans O.sub).trans Y.sub).trans ak.sub)) (ms d2 ((O.sub.trans Y.sub).trans ak.sub)) (pt cP)) ?_));rintro ab _ gi ⟨bV,bi,bj,rfl,ar,ef⟩ h;have eg:=ca ar cP;refine gR 19 [9,0,10,1] [] eg (fun gj eh=>?_);have ei:=eh.row_ (zz wi) 84 5;refine aaC (fun g_ a w=>∃ cQ bD aN,∃ (aH:Nat),∃ m aP aT bJ,g_=aN.length∧a=fr 76 (updL cQ [(1,.bool d),(5,.func (.func 158) #[] #[]),(6,sl ai f aj),(8,pp (zz aM) 0),(9,sl aP m aT),(13,sl aK l aL),(14,iI (l.length:Int)),(15,iI (J:Int)),(44,sl aZ N a2),(45,iI (N.length:Int)),(46,iI (aH:Int))])∧KH.sub bV bD∧SR K bD wi w [] [.box (zz wi) (zz aM) (aS s t y u z x bb W bd be X bf bg Z bh bi ab bj aZ N a2) 62,eW (zz wi) ai f aj 62 11 aY,eW (zz wi) aP m aT 84 5 bJ]∧N.drop aH=aN∧Reps (aaB bD) 5 m bJ∧m.length * 80 ≤ mB∧afL k F d f J s t u x y z W X Z ab (aei k F d aq) aN aH m=some r_) N.length ?_ ?_
     ·exact ⟨_,bV,N,0,([]:LC),none,0,[],rfl,fR,kr,(ei.sel [1,2,0]),List.drop_zero,(aa1 (R:=(aaB bV)) (size:=5)),(by simp),h⟩
     ·rintro _ _ bW ⟨cQ,bD,aN,aH,m,aP,aT,bJ,rfl,rfl,al,bX,bk,cR,ej,h⟩;rcases aN with _ | ⟨⟨au,av,cS,bY,bZ⟩,aN⟩
      ·unfold afL at h;refine gd 2 (bcm (r:=false) rfl rfl (congrArg some (aal bk)) (gR 19 [10,0,0,0,11] [] bX (fun gk ek=>(bsl (e:=62) (cells:=(aS s t y u z x bb W bd be X bf bg Z bh bi ab bj aP m aT)) (vs:=[(0,.agg (aS s t y u z x bb W bd be X bf bg Z bh bi ab bj aP m aT))]) ek rfl (aao ab2 abx aik rfl (by decide) (by decide) rfl) (fun gl el=>?_)))));obtain ⟨b0,em,bm,en⟩:=ab4 (i:=3) (bytes:=80) (R:=fun K=>(aaB K)) el rfl (Nat.le_refl _) cR ej (fun hs=>(fun _ _ h=>aaB.mono hs h));obtain ⟨cU,h⟩:=aaE h;refine apR (R:=(aai b0)) (p:=(aaf.mk s t y u z x W X Z ab m)) (i:=2) (j:=0) em rfl rfl ab2 ak1 rfl (by decide) rfl rfl (cw.mono (fun _ _ h=>aai.mono (((((O.sub.trans Y.sub).trans ak.sub).trans ar.sub).trans al).trans bm) h)) (aai.intro dX dY (me d5 ((((Y.sub.trans ak.sub).trans ar.sub).trans al).trans bm)) (ms d8 (((ak.sub.trans ar.sub).trans al).trans bm)) (ms ec ((ar.sub.trans al).trans bm)) (ms ef (al.trans bm)) en) rfl rfl (Nat.le_refl _) cU (by decide) (fun cV cW cY eo ep eq=>?_);have es:=p12 ep;exact go 5 (bar (r:=((J + 1:Nat):Int)) rfl rfl (aaK (aaM (((ms bI aG)).len) (by decide) (aab ba))) (go 3 (⟨_,Nat.lt_succ_self _,_,b0,aq,J + 1,(f ++ [(aaf.mk s t y u z x W X Z ab m)]),cV,cW,cY,rfl,fR,((((((aG.trans O.sub).trans Y.sub).trans ak.sub).trans ar.sub).trans al).trans bm),(es.sel [1]),aag ba,eq,(aaG cU),h⟩)))
      ·unfold afL at h;refine gd 2 (bcm (r:=true) rfl rfl (congrArg some (aak bk)) (go 10 ?_));obtain ⟨et,eu,gm,ew,gn,ex,ey⟩:=((mc cK ((((O.sub.trans Y.sub).trans ak.sub).trans ar.sub).trans al))).row.at_ (aaj bk);obtain ⟨cZ,c2,c3,c4,rfl,ez,eA,eB⟩:=aaB.open ey;refine idxN (b:=et) (o:=eu) (i:=aH) acX acg rfl ew rfl (aab bk) (lD (vC au av cS cZ bY c2 c3 bZ c4) ag5 acg rfl (fun j v hj=>bX.cell (kr.cell (ex j v hj))) (gR 4 [0] [[iI 0,sE,iI 0,nS,nS]] bX (fun gp gq c5=>(aav (fun a w=>∃ c6 aw,a=fr 76 (updL c6 [(1,.bool d),(5,.func (.func 158) #[] #[]),(6,sl ai f aj),(8,pp (zz aM) 0),(9,sl aP m aT),(11,pp (zz bW) 0),(13,sl aK l aL),(14,iI (l.length:Int)),(15,iI (J:Int)),(44,sl aZ N a2),(45,iI (N.length:Int)),(46,iI (aH:Int))])∧SR K bD wi w [] [.box (zz wi) (zz aM) (aS s t y u z x bb W bd be X bf bg Z bh bi ab bj aZ N a2) 62,.box (zz wi) (zz bW) (aC' au av aw cZ bY c2 c3 bZ c4) 84,eW (zz wi) ai f aj 62 11 aY,eW (zz wi) aP m aT 84 5 bJ]∧akx k F d m aH au av bY bZ aw (afL k F d f J s t u x y z W X Z ab (aei k F d aq) aN)=some r_) ?_ ?_))))
       ·refine gd 6 (bC 51 h (fun _ h=>?_) (fun _ h=>?_))
        ·exact gI 6 [2,0] [] c5 (fun gr eC=>(⟨_,0,fR,(eC.sel [1,0,2,3]),h⟩))
        ·exact gd 3 (⟨_,cS,fR,(c5.sel [1,0,2,3]),h⟩)
       ·rintro _ gs ⟨c6,aw,rfl,b1,h⟩;unfold akx at h;refine gD 5 [3,2] b1 (cB h ahm (fun _ eD=>(ajc k) eD (hG.mono (((((aG.trans O.sub).trans Y.sub).trans ak.sub).trans ar.sub).trans al)) eA (pt b1)) ?_);rintro a3 _ gt ⟨gu,b2,b3,rfl,bE,eF⟩ h;have eG:=ca bE b1;refine gR 9 [3,1,4,2] [] eG (fun gv c7=>(cB h age (fun _ eH=>IH130 eH (hG.mono ((((((aG.trans O.sub).trans Y.sub).trans ak.sub).trans ar.sub).trans al).trans bE.sub)) (ms eB bE.sub) (pt c7)) ?_));rintro a4 _ gw ⟨b4,b5,b6,rfl,bK,eI⟩ h;have eJ:=ca bK c7;refine gR 7 [4,1,0,1,5] [] eJ (fun gy eL=>(bsl (e:=84) (cells:=(aC' au av aw b2 a3 b3 b5 a4 b6)) (vs:=[(0,.agg (aC' au av aw b2 a3 b3 b5 a4 b6))]) eL rfl (aao acX acg apc rfl (by decide) (by decide) rfl) (fun gz eM=>?_)));obtain ⟨c8,h⟩:=aaE h;refine apR (R:=(aaB b4)) (p:=(aaz.mk au av aw a3 a4)) (i:=4) (j:=0) eM rfl rfl acX ao8 rfl (by decide) rfl rfl (cR.mono (fun _ _ h=>aaB.mono (bE.sub.trans bK.sub) h)) (aaB.intro ez (me eF bK.sub) eI) rfl rfl (Nat.le_refl _) c8 (by decide) (fun c9 da db eN eO eP=>?_);have eQ:=amA eO;exact go 5 (bar (r:=((aH + 1:Nat):Int)) rfl rfl (aaK (aaM (((mc cK ((((O.sub.trans Y.sub).trans ak.sub).trans ar.sub).trans al))).len) (by decide) (aab bk))) (go 3 (⟨_,Nat.lt_succ_self _,_,b4,aN,aH + 1,(m ++ [(aaz.mk au av aw a3 a4)]),c9,da,db,rfl,fR,((al.trans bE.sub).trans bK.sub),(eQ.sel [0,2,3]),aag bk,eP,(aaG c8),h⟩)))
 ·refine gd 17 ?_;have eR:=ct.row_ (zz wi) 62 11;refine aaC (fun g_ a w=>∃ dc bF ax,∃ (S:Nat),∃ g am an a5,g_=ax.length∧a=fr 76 (updL dc [(1,.bool d),(5,.func (.func 157) #[] #[]),(6,sl am g an),(13,sl aK l aL),(14,iI (l.length:Int)),(15,iI (S:Int))])∧KH.sub K bF∧SR K bF wi w [] [eW (zz wi) am g an 62 11 a5]∧l.drop S=ax∧Reps (aai bF) 11 g a5∧g.length * 184 ≤ mB∧acU k F d ax S g=some r_) l.length ?_ ?_
  ·exact ⟨_,K,l,0,([]:LS),none,0,[],rfl,fR,kr,eR,List.drop_zero,(aa1 (R:=(aai K)) (size:=11)),(by simp),h⟩
  ·rintro _ _ aU ⟨dc,bF,ax,S,g,am,an,a5,rfl,rfl,aI,b7,bn,dd,eS,h⟩;rcases ax with _ | ⟨⟨A,B,de,C,df,D,b8,b9,cb,cc,U⟩,ax⟩
   ·unfold acU at h;refine gd 2 (bcm (r:=false) rfl rfl (congrArg some (aal bn)) (go 16 ?_));obtain ⟨eT,eU,gA,eV⟩:=ab4 (i:=0) (bytes:=184) (R:=fun K=>(aai K)) b7 rfl (Nat.le_refl _) dd eS (fun hs=>(fun _ _ h=>aai.mono hs h));cases (oi h).trans hr_;exact aau rfl (resT rfl) ⟨eT,am,an,rfl,eU,eV⟩
   ·unfold acU at h;refine gd 2 (bcm (r:=true) rfl rfl (congrArg some (aak bn)) (go 10 ?_));obtain ⟨eX,eY,gB,eZ,gF,e0,e1⟩:=((ms bI aI)).row.at_ (aaj bn);obtain ⟨dg,dh,di,dj,dk,dl,dm,dn,a6,a7,rfl,e2,e3,e4,e5,e6,e7,dp⟩:=aai.open e1;refine idxN (b:=eX) (o:=eY) (i:=S) ab2 abx rfl eZ rfl (aab bn) (lD (vS A B de C df D dg b8 dh di b9 dj dk cb dl dm cc dn a6 U a7) aeH abx rfl (fun j v hj=>b7.cell (kr.cell (e0 j v hj))) (gR 4 [0] [[iI 0,sE,iI 0,sE,iI 0,iI 0,nS,nS,nS,nS,nS]] b7 (fun gG gH dq=>(aav (fun a w=>∃ dr G I,a=fr 76 (updL dr [(1,.bool d),(5,.func (.func 157) #[] #[]),(6,sl am g an),(8,pp (zz aU) 0),(13,sl aK l aL),(14,iI (l.length:Int)),(15,iI (S:Int))])∧SR K bF wi w [] [.box (zz wi) (zz aU) (aS A B G C I D dg b8 dh di b9 dj dk cb dl dm cc dn a6 U a7) 62,eW (zz wi) am g an 62 11 a5]∧aiX k F d g S A B C D b8 b9 cb cc U G I (acU k F d ax)=some r_) ?_ ?_))))
    ·refine gd 6 (bC 20 h (fun _ h=>?_) (fun _ h=>?_))
     ·exact gI 8 [2,0,4,0] [] dq (fun gJ gK e8=>(⟨_,0,0,fR,e8,h⟩))
     ·exact gd 3 (⟨_,de,df,fR,dq,h⟩)
    ·rintro _ gL ⟨dr,G,I,rfl,ce,h⟩;unfold aiX at h;refine gD 5 [6,1] ce (cB h ahm (fun _ e9=>(aiD k) e9 (hG.mono aI) e4 (pt ce)) ?_);rintro ac _ gM ⟨gN,bo,bp,rfl,V,fa⟩ h;have fb:=ca V ce;refine gR 9 [6,0,7,1] [] fb (fun gQ ds=>(cB h age (fun _ fc=>IH130 fc (hG.mono (aI.trans V.sub)) (ms e5 V.sub) (pt ds)) ?_));rintro ad _ gT ⟨gU,bq,br,rfl,ae,fe⟩ h;have ff:=ca ae ds;refine gR 9 [7,0,8,1] [] ff (fun gV dt=>(cB h age (fun _ fg=>IH130 fg (hG.mono ((aI.trans V.sub).trans ae.sub)) (ms e6 (V.sub.trans ae.sub)) (pt dt)) ?_));rintro af _ gW ⟨gZ,bs,bu,rfl,ao,fh⟩ h;have fi:=ca ao dt;refine gR 9 [8,0,9,1] [] fi (fun g0 du=>(cB h age (fun _ fj=>IH130 fj (hG.mono (((aI.trans V.sub).trans ae.sub).trans ao.sub)) (ms e7 ((V.sub.trans ae.sub).trans ao.sub)) (pt du)) ?_));rintro ah _ g1 ⟨cf,bv,bw,rfl,ay,fk⟩ h;have fl:=ca ay du;refine gR 19 [9,0,10,1] [] fl (fun g2 fm=>?_);have fn:=fm.row_ (zz wi) 84 5;refine aaC (fun g_ a w=>∃ dv bG aV,∃ (aJ:Nat),∃ q aW aX bL,g_=aV.length∧a=fr 76 (updL dv [(1,.bool d),(5,.func (.func 157) #[] #[]),(6,sl am g an),(8,pp (zz aU) 0),(9,sl aW q aX),(13,sl aK l aL),(14,iI (l.length:Int)),(15,iI (S:Int)),(44,sl a6 U a7),(45,iI (U.length:Int)),(46,iI (aJ:Int))])∧KH.sub cf bG∧SR K bG wi w [] [.box (zz wi) (zz aU) (aS A B G C I D bo ac bp bq ad br bs af bu bv ah bw a6 U a7) 62,eW (zz wi) am g an 62 11 a5,eW (zz wi) aW q aX 84 5 bL]∧U.drop aJ=aV∧Reps (aaB bG) 5 q bL∧q.length * 80 ≤ mB∧adN k F d g S A B C D G I ac ad af ah (acU k F d ax) aV aJ q=some r_) U.length ?_ ?_
     ·exact ⟨_,cf,U,0,([]:LC),none,0,[],rfl,fR,kr,(fn.sel [1,2,0]),List.drop_zero,(aa1 (R:=(aaB cf)) (size:=5)),(by simp),h⟩
     ·rintro _ _ ch ⟨dv,bG,aV,aJ,q,aW,aX,bL,rfl,rfl,ap,ci,bx,dw,fo,h⟩;rcases aV with _ | ⟨⟨az,aA,dx,cj,ck⟩,aV⟩
      ·unfold adN at h;refine gd 2 (bcm (r:=false) rfl rfl (congrArg some (aal bx)) (gR 19 [10,0,0,0,11] [] ci (fun g3 fp=>(bsl (e:=62) (cells:=(aS A B G C I D bo ac bp bq ad br bs af bu bv ah bw aW q aX)) (vs:=[(0,.agg (aS A B G C I D bo ac bp bq ad br bs af bu bv ah bw aW q aX))]) fp rfl (aao ab2 abx aik rfl (by decide) (by decide) rfl) (fun g4 fs=>?_)))));obtain ⟨cl,ft,bz,fu⟩:=ab4 (i:=3) (bytes:=80) (R:=fun K=>(aaB K)) fs rfl (Nat.le_refl _) dw fo (fun hs=>(fun _ _ h=>aaB.mono hs h));obtain ⟨dy,h⟩:=aaE h;refine apR (R:=(aai cl)) (p:=(aaf.mk A B G C I D ac ad af ah q)) (i:=2) (j:=0) ft rfl rfl ab2 ak1 rfl (by decide) rfl rfl (dd.mono (fun _ _ h=>aai.mono (((((V.sub.trans ae.sub).trans ao.sub).trans ay.sub).trans ap).trans bz) h)) (aai.intro e2 e3 (me fa ((((ae.sub.trans ao.sub).trans ay.sub).trans ap).trans bz)) (ms fe (((ao.sub.trans ay.sub).trans ap).trans bz)) (ms fh ((ay.sub.trans ap).trans bz)) (ms fk (ap.trans bz)) fu) rfl rfl (Nat.le_refl _) dy (by decide) (fun dz dA dB fv fx fy=>?_);have fz:=p12 fx;exact go 5 (bar (r:=((S + 1:Nat):Int)) rfl rfl (aaK (aaM (((ms bI aI)).len) (by decide) (aab bn))) (go 3 (⟨_,Nat.lt_succ_self _,_,cl,ax,S + 1,(g ++ [(aaf.mk A B G C I D ac ad af ah q)]),dz,dA,dB,rfl,fR,((((((aI.trans V.sub).trans ae.sub).trans ao.sub).trans ay.sub).trans ap).trans bz),(fz.sel [1]),aag bn,fy,(aaG dy),h⟩)))
      ·unfold adN at h;refine gd 2 (bcm (r:=true) rfl rfl (congrArg some (aak bx)) (go 10 ?_));obtain ⟨fA,fB,g5,fC,g6,fD,fE⟩:=((mc dp ((((V.sub.trans ae.sub).trans ao.sub).trans ay.sub).trans ap))).row.at_ (aaj bx);obtain ⟨dC,dD,dE,dF,rfl,fF,fG,fH⟩:=aaB.open fE;refine idxN (b:=fA) (o:=fB) (i:=aJ) acX acg rfl fC rfl (aab bx) (lD (vC az aA dx dC cj dD dE ck dF) ag5 acg rfl (fun j v hj=>ci.cell (kr.cell (fD j v hj))) (gR 4 [0] [[iI 0,sE,iI 0,nS,nS]] ci (fun g7 g8 dG=>(aav (fun a w=>∃ dH aB,a=fr 76 (updL dH [(1,.bool d),(5,.func (.func 157) #[] #[]),(6,sl am g an),(8,pp (zz aU) 0),(9,sl aW q aX),(11,pp (zz ch) 0),(13,sl aK l aL),(14,iI (l.length:Int)),(15,iI (S:Int)),(44,sl a6 U a7),(45,iI (U.length:Int)),(46,iI (aJ:Int))])∧SR K bG wi w [] [.box (zz wi) (zz aU) (aS A B G C I D bo ac bp bq ad br bs af bu bv ah bw a6 U a7) 62,.box (zz wi) (zz ch) (aC' az aA aB dC cj dD dE ck dF) 84,eW (zz wi) am g an 62 11 a5,eW (zz wi) aW q aX 84 5 bL]∧aje k F d q aJ az aA cj ck aB (adN k F d g S A B C D G I ac ad af ah (acU k F d ax) aV)=some r_) ?_ ?_))))
       ·refine gd 6 (bC 51 h (fun _ h=>?_) (fun _ h=>?_))
        ·exact gI 6 [2,0] [] dG (fun g9 fI=>(⟨_,0,fR,(fI.sel [1,0,2,3]),h⟩))
        ·exact gd 3 (⟨_,dx,fR,(dG.sel [1,0,2,3]),h⟩)
       ·rintro _ ha ⟨dH,aB,rfl,cm,h⟩;unfold aje at h;refine gD 5 [3,2] cm (cB h ahm (fun _ fJ=>(aiD k) fJ (hG.mono (((((aI.trans V.sub).trans ae.sub).trans ao.sub).trans ay.sub).trans ap)) fG (pt cm)) ?_);rintro a8 _ hb ⟨hc,cn,co,rfl,bH,fK⟩ h;have fL:=ca bH cm;refine gR 9 [3,1,4,2] [] fL (fun hd dI=>(cB h age (fun _ fM=>IH130 fM (hG.mono ((((((aI.trans V.sub).trans ae.sub).trans ao.sub).trans ay.sub).trans ap).trans bH.sub)) (ms fH bH.sub) (pt dI)) ?_));rintro a9 _ he ⟨cq,cr,cs,rfl,bM,fN⟩ h;have fO:=ca bM dI;refine gR 7 [4,1,0,1,5] [] fO (fun hf fP=>(bsl (e:=84) (cells:=(aC' az aA aB cn a8 co cr a9 cs)) (vs:=[(0,.agg (aC' az aA aB cn a8 co cr a9 cs))]) fP rfl (aao acX acg apc rfl (by decide) (by decide) rfl) (fun hg fQ=>?_)));obtain ⟨dJ,h⟩:=aaE h;refine apR (R:=(aaB cq)) (p:=(aaz.mk az aA aB a8 a9)) (i:=4) (j:=0) fQ rfl rfl acX ao8 rfl (by decide) rfl rfl (dw.mono (fun _ _ h=>aaB.mono (bH.sub.trans bM.sub) h)) (aaB.intro fF (me fK bM.sub) fN) rfl rfl (Nat.le_refl _) dJ (by decide) (fun dK dL dM fS fT fU=>?_);have fV:=amA fT;exact go 5 (bar (r:=((aJ + 1:Nat):Int)) rfl rfl (aaK (aaM (((mc dp ((((V.sub.trans ae.sub).trans ao.sub).trans ay.sub).trans ap))).len) (by decide) (aab bx))) (go 3 (⟨_,Nat.lt_succ_self _,_,cq,aV,aJ + 1,(q ++ [(aaz.mk az aA aB a8 a9)]),dK,dL,dM,rfl,fR,((ap.trans bH.sub).trans bM.sub),(fV.sel [0,2,3]),aag bx,fU,(aaG dJ),h⟩)))
theorem aqh (k0:Nat) : ∀ k,adZ (ahn k0 k).f130:=by
 intro k;induction k with
 | zero=>exact (by unfold adZ; intro _ _ _ _ _ _ _ h_; cases h_)
 | succ k ih=>exact arN k0 (ahn k0 k) ih
theorem awo (k:Nat):adZ (f130 k):=(aqh k k)
theorem arc (k:Nat):ah3 (aq4 k):=by
 unfold ah3;intro K wi az bf C bg h hG aA aB;obtain ⟨r_,hr_,h⟩:=rz h;obtain ⟨y⟩:=az;obtain ⟨af,c1,rfl,ah⟩:=aah.open aA;refine aat Tryz.func100 rfl (n:=35) rfl ?_;unfold aq4 at h;refine gI 21 [0,3] [[nS],[nS]] aB (fun D G bh aG=>?_);have aH:=aG.row_ (zz wi) 52 6;refine aaC (fun g_ a w=>∃ ai I t,∃ (s:Nat),∃ d u x O,g_=t.length∧a=fr 35 (updL ai [(1,.bool C),(4,pp (zz D) 0),(5,pp (zz G) 0),(9,sl af y c1),(10,iI (y.length:Int)),(11,iI (s:Int))])∧KH.sub K I∧SR K I wi w [] [.box (zz wi) (zz D) #[nS] 24,.box (zz wi) (zz G) #[sl u d x] 24,eW (zz wi) u d x 52 6 O]∧y.drop s=t∧Reps (aar I) 6 d O∧d.length * 88 ≤ mB∧adp k C t s d=some r_) y.length ?_ ?_
 ·exact ⟨_,K,y,0,([]:LF),none,0,[],rfl,fR,kr,(aH.sel [2,1,0]),List.drop_zero,(aa1 (R:=(aar K)) (size:=6)),(by simp),h⟩
 ·rintro _ _ U ⟨ai,I,t,s,d,u,x,O,rfl,rfl,J,V,B,aj,aI,h⟩;rcases t with _ | ⟨⟨f,W,g,m,ak,X⟩,t⟩
  ·unfold adp at h;refine gd 2 (bcm (r:=false) rfl rfl (congrArg some (aal B)) (gR 16 [0,1,1,0] [] V (fun bi al=>?_)));obtain ⟨aJ,aK,bj,aL⟩:=ab4 (i:=2) (bytes:=88) (R:=fun K=>(aar K)) al rfl (Nat.le_refl _) aj aI (fun hs=>(fun _ _ h=>aar.mono hs h));cases (oi h).trans hr_;exact aau rfl (resN (i:=0) (l:=[sl u d x]) al rfl adQ adM rfl rfl rfl) ⟨aJ,[sl u d x],rfl,(aK.sel []),(aah.intro aL)⟩
  ·unfold adp at h;refine gd 2 (bcm (r:=true) rfl rfl (congrArg some (aak B)) (go 10 ?_));obtain ⟨aM,aN,bk,aP,bm,aT,aU⟩:=((mf ah J)).row.at_ (aaj B);obtain ⟨am,an,ao,ap,rfl,aV,aW,aX⟩:=aar.open aU;refine idxN (b:=aM) (o:=aN) (i:=s) ac4 ab0 rfl aP rfl (aab B) (lD (vF f am W an g m ak ao X ap) aht ab0 rfl (fun j v hj=>V.cell (kr.cell (aT j v hj))) (gR 4 [0] [[sE,nS,iI 0,vN,iI 0,nS]] V (fun bn bo aq=>(aav (fun a w=>∃ ar q,a=fr 35 (updL ar [(1,.bool C),(4,pp (zz D) 0),(5,pp (zz G) 0),(7,pp (zz U) 0),(9,sl af y c1),(10,iI (y.length:Int)),(11,iI (s:Int))])∧SR K I wi w [] [.box (zz wi) (zz D) #[nS] 24,.box (zz wi) (zz G) #[sl u d x] 24,.box (zz wi) (zz U) (aF f am W an g m q ao X ap) 52,eW (zz wi) u d x 52 6 O]∧ajb k C d s f W g m X q (adp k C t)=some r_) ?_ ?_))))
   ·refine gd 6 (bC 16 h (fun _ h=>?_) (fun _ h=>?_))
    ·exact gI 6 [4,0] [] aq (fun bp aY=>(⟨_,0,fR,(aY.sel [1,2,0,3]),h⟩))
    ·exact gd 3 (⟨_,ak,fR,(aq.sel [1,2,0,3]),h⟩)
   ·rintro _ bq ⟨ar,q,rfl,Y,h⟩;unfold ajb at h;refine gD 4 [1,3] Y (cB h auq (fun _ aZ=>(arz k) aZ (hG.mono J) aW (pt Y)) ?_);rintro z _ br ⟨bs,Z,ab,rfl,N,a2⟩ h;have a3:=ca N Y;refine gR 9 [1,2,5,3] [] a3 (fun bu au=>(cB h age (fun _ a4=>(awo k) a4 (hG.mono (J.trans N.sub)) (ms aX N.sub) (pt au)) ?_));rintro A _ bv ⟨ac,ad,ae,rfl,S,a5⟩ h;have a6:=ca S au;refine gR 8 [5,2,0,2,0,2,6] [] a6 (fun bw a7=>(bsl (e:=52) (cells:=(aF f Z z ab g m q ad A ae)) (vs:=[(0,.agg (aF f Z z ab g m q ad A ae))]) a7 rfl (aao ac4 ab0 awM rfl (by decide) (by decide) rfl) (fun bx a8=>?_)));obtain ⟨av,h⟩:=aaE h;refine apR (R:=(aar ac)) (p:=(aac.mk f z g m q A)) (i:=4) (j:=0) a8 rfl rfl ac4 awj rfl (by decide) rfl rfl (aj.mono (fun _ _ h=>aar.mono (N.sub.trans S.sub) h)) (aar.intro aV (mp a2 S.sub) a5) rfl rfl (Nat.le_refl _) av (by decide) (fun aw ax ay a9 ba bb=>?_);have bd:=amA ba;exact gR 6 [0,1] [] bd (fun bz be=>(bar (r:=((s + 1:Nat):Int)) rfl rfl (aaK (aaM (((mf ah J)).len) (by decide) (aab B))) (go 3 (⟨_,Nat.lt_succ_self _,_,ac,t,s + 1,(d ++ [(aac.mk f z g m q A)]),aw,ax,ay,rfl,fR,((J.trans N.sub).trans S.sub),(be.sel [0,1,3]),aag B,bb,(aaG av),h⟩))))
theorem av5 (k:Nat):ah3 (f100 k):=arc k
theorem atn (k:Nat):ahA (awX k):=by
 unfold ahA;intro K wi d a r_ h hG b;refine aat Tryz.func98 rfl (n:=9) rfl ?_;unfold awX at h;refine gd 6 (bC 5 h (fun _ h=>?_) (fun _ h=>?_))
 ·exact gd 3 (bld (cells:=#[iI a]) (vs:=[(0,iI a)]) rfl (fun w=>by kernel_rfl) (mki (v:=.agg #[iI a]) ayk rfl (pnc rfl (pX (panE (.inr ⟨_,rfl,a,K,(oi h).symm,rfl,b.sel []⟩))))))
 ·exact gd 2 (retP (end0 rfl ⟨K,(oi h).symm,rfl,b⟩))
theorem adn (k:Nat):ahA (f98 k):=atn k
theorem asf (k:Nat):ah4 (apQ k):=by
 unfold ah4;intro K wi bp h hG a;obtain ⟨r_,hr_,h⟩:=rz h;refine aat Tryz.func189 rfl (n:=32) rfl ?_;unfold apQ at h;refine gd 7 (mkm a (fun bq a=>(bld (cells:=#[iI 1,vN,iI 1,iI 1,vN]) (vs:=[(0,iI 1),(1,vN),(2,iI 1),(3,iI 1),(4,vN)]) rfl (fun w=>by kernel_rfl) (mup_ (kv:=kI) (q:=qI) (R:=(VAgg (aaJ K))) (xs:=([]:List (Int × aaI))) (k:=1) (u:=(aaI.mk 1 false 1 1 false)) (uv:=.agg #[iI 1,vN,iI 1,iI 1,vN]) (i:=0) (.inl rfl) a rfl abj (aay Tyk3) keI (akV (kv:=kI) (R:=(VAgg (aaJ K)))) rfl rfl rfl ⟨[iI 1,vN,iI 1,iI 1,vN],rfl,.mk⟩ (fun br bs bu b d=>(bld (cells:=#[iI 1,vN,iI 1,iI 1,vN]) (vs:=[(0,iI 1),(1,vN),(2,iI 1),(3,iI 1),(4,vN)]) rfl (fun w=>by kernel_rfl) (mup_ (kv:=kI) (q:=qI) (R:=(VAgg (aaJ K))) (k:=2) (u:=(aaI.mk 1 false 1 1 false)) (uv:=.agg #[iI 1,vN,iI 1,iI 1,vN]) (i:=0) (.inl rfl) b rfl abj (aay Tyk3) keI d rfl rfl rfl ⟨[iI 1,vN,iI 1,iI 1,vN],rfl,.mk⟩ (fun bv bw bx e f=>(bld (cells:=#[iI 2,vT,iI 0,iI 601,vN]) (vs:=[(0,iI 2),(1,vT),(2,iI 0),(3,iI 601),(4,vN)]) rfl (fun w=>by kernel_rfl) (mup_ (kv:=kI) (q:=qI) (R:=(VAgg (aaJ K))) (k:=3) (u:=(aaI.mk 2 true 0 601 false)) (uv:=.agg #[iI 2,vT,iI 0,iI 601,vN]) (i:=0) (.inl rfl) e rfl abj (aay Tyk3) keI f rfl rfl rfl ⟨[iI 2,vT,iI 0,iI 601,vN],rfl,.mk⟩ (fun g j l m o=>?_)))))))))));have p:SR K K wi l [] [.mp (zz wi) (zz wi) g j]:=m;refine bld (cells:=#[iI 2,vT,iI 0,iI 601,vN]) (vs:=[(0,iI 2),(1,vT),(2,iI 0),(3,iI 601),(4,vN)]) rfl (fun w=>by kernel_rfl) (mup_ (kv:=kI) (q:=qI) (R:=(VAgg (aaJ K))) (k:=4) (u:=(aaI.mk 2 true 0 601 false)) (uv:=.agg #[iI 2,vT,iI 0,iI 601,vN]) (i:=0) (.inl rfl) p rfl abj (aay Tyk3) keI o rfl rfl rfl ⟨[iI 2,vT,iI 0,iI 601,vN],rfl,.mk⟩ (fun bz bB bD r s=>(bld (cells:=#[iI 2,vN,iI 1,iI 1,vN]) (vs:=[(0,iI 2),(1,vN),(2,iI 1),(3,iI 1),(4,vN)]) rfl (fun w=>by kernel_rfl) (mup_ (kv:=kI) (q:=qI) (R:=(VAgg (aaJ K))) (k:=5) (u:=(aaI.mk 2 false 1 1 false)) (uv:=.agg #[iI 2,vN,iI 1,iI 1,vN]) (i:=0) (.inl rfl) r rfl abj (aay Tyk3) keI s rfl rfl rfl ⟨[iI 2,vN,iI 1,iI 1,vN],rfl,.mk⟩ (fun bE bF bG t v=>(bld (cells:=#[iI 2,vN,iI 1,iI 1,vN]) (vs:=[(0,iI 2),(1,vN),(2,iI 1),(3,iI 1),(4,vN)]) rfl (fun w=>by kernel_rfl) (mup_ (kv:=kI) (q:=qI) (R:=(VAgg (aaJ K))) (k:=6) (u:=(aaI.mk 2 false 1 1 false)) (uv:=.agg #[iI 2,vN,iI 1,iI 1,vN]) (i:=0) (.inl rfl) t rfl abj (aay Tyk3) keI v rfl rfl rfl ⟨[iI 2,vN,iI 1,iI 1,vN],rfl,.mk⟩ (fun x y z A B=>?_))))))));have C:SR K K wi z [] [.mp (zz wi) (zz wi) x y]:=A;refine bld (cells:=#[iI 1,vN,iI 1,iI 1,vN]) (vs:=[(0,iI 1),(1,vN),(2,iI 1),(3,iI 1),(4,vN)]) rfl (fun w=>by kernel_rfl) (mup_ (kv:=kI) (q:=qI) (R:=(VAgg (aaJ K))) (k:=7) (u:=(aaI.mk 1 false 1 1 false)) (uv:=.agg #[iI 1,vN,iI 1,iI 1,vN]) (i:=0) (.inl rfl) C rfl abj (aay Tyk3) keI B rfl rfl rfl ⟨[iI 1,vN,iI 1,iI 1,vN],rfl,.mk⟩ (fun bH bI bJ D G=>(bld (cells:=#[iI 1,vN,iI 1,iI 1,vN]) (vs:=[(0,iI 1),(1,vN),(2,iI 1),(3,iI 1),(4,vN)]) rfl (fun w=>by kernel_rfl) (mup_ (kv:=kI) (q:=qI) (R:=(VAgg (aaJ K))) (k:=8) (u:=(aaI.mk 1 false 1 1 false)) (uv:=.agg #[iI 1,vN,iI 1,iI 1,vN]) (i:=0) (.inl rfl) D rfl abj (aay Tyk3) keI G rfl rfl rfl ⟨[iI 1,vN,iI 1,iI 1,vN],rfl,.mk⟩ (fun bK bL bM I J=>(bld (cells:=#[iI 1,vN,iI 0,iI 0,vN]) (vs:=[(0,iI 1),(1,vN),(2,iI 0),(3,iI 0),(4,vN)]) rfl (fun w=>by kernel_rfl) (mup_ (kv:=kI) (q:=qI) (R:=(VAgg (aaJ K))) (k:=9) (u:=(aaI.mk 1 false 0 0 false)) (uv:=.agg #[iI 1,vN,iI 0,iI 0,vN]) (i:=0) (.inl rfl) I rfl abj (aay Tyk3) keI J rfl rfl rfl ⟨[iI 1,vN,iI 0,iI 0,vN],rfl,.mk⟩ (fun N O S U V=>?_))))))));have W:SR K K wi S [] [.mp (zz wi) (zz wi) N O]:=U;refine bld (cells:=#[iI 0,vN,iI 2,iI 2,vN]) (vs:=[(0,iI 0),(1,vN),(2,iI 2),(3,iI 2),(4,vN)]) rfl (fun w=>by kernel_rfl) (mup_ (kv:=kI) (q:=qI) (R:=(VAgg (aaJ K))) (k:=10) (u:=(aaI.mk 0 false 2 2 false)) (uv:=.agg #[iI 0,vN,iI 2,iI 2,vN]) (i:=0) (.inl rfl) W rfl abj (aay Tyk3) keI V rfl rfl rfl ⟨[iI 0,vN,iI 2,iI 2,vN],rfl,.mk⟩ (fun bP bQ bR X Y=>(bld (cells:=#[iI 0,vN,iI 1,iI 1,vN]) (vs:=[(0,iI 0),(1,vN),(2,iI 1),(3,iI 1),(4,vN)]) rfl (fun w=>by kernel_rfl) (mup_ (kv:=kI) (q:=qI) (R:=(VAgg (aaJ K))) (k:=11) (u:=(aaI.mk 0 false 1 1 false)) (uv:=.agg #[iI 0,vN,iI 1,iI 1,vN]) (i:=0) (.inl rfl) X rfl abj (aay Tyk3) keI Y rfl rfl rfl ⟨[iI 0,vN,iI 1,iI 1,vN],rfl,.mk⟩ (fun bS bT bU Z ab=>(bld (cells:=#[iI 0,vN,iI 1,iI 1,vN]) (vs:=[(0,iI 0),(1,vN),(2,iI 1),(3,iI 1),(4,vN)]) rfl (fun w=>by kernel_rfl) (mup_ (kv:=kI) (q:=qI) (R:=(VAgg (aaJ K))) (k:=12) (u:=(aaI.mk 0 false 1 1 false)) (uv:=.agg #[iI 0,vN,iI 1,iI 1,vN]) (i:=0) (.inl rfl) Z rfl abj (aay Tyk3) keI ab rfl rfl rfl ⟨[iI 0,vN,iI 1,iI 1,vN],rfl,.mk⟩ (fun ac ad ae af ah=>?_))))))));have ai:SR K K wi ae [] [.mp (zz wi) (zz wi) ac ad]:=af;refine bld (cells:=#[iI 0,vN,iI 0,iI 0,vN]) (vs:=[]) rfl (fun w=>by kernel_rfl) (mup_ (kv:=kI) (q:=qI) (R:=(VAgg (aaJ K))) (k:=13) (u:=(aaI.mk 0 false 0 0 false)) (uv:=.agg #[iI 0,vN,iI 0,iI 0,vN]) (i:=0) (.inl rfl) ai rfl abj (aay Tyk3) keI ah rfl rfl rfl ⟨[iI 0,vN,iI 0,iI 0,vN],rfl,.mk⟩ (fun bV bW bX aj ak=>(bld (cells:=#[iI 0,vN,iI 1,iI 1,vN]) (vs:=[(0,iI 0),(1,vN),(2,iI 1),(3,iI 1),(4,vN)]) rfl (fun w=>by kernel_rfl) (mup_ (kv:=kI) (q:=qI) (R:=(VAgg (aaJ K))) (k:=14) (u:=(aaI.mk 0 false 1 1 false)) (uv:=.agg #[iI 0,vN,iI 1,iI 1,vN]) (i:=0) (.inl rfl) aj rfl abj (aay Tyk3) keI ak rfl rfl rfl ⟨[iI 0,vN,iI 1,iI 1,vN],rfl,.mk⟩ (fun bY bZ b0 al am=>(bld (cells:=#[iI 0,vN,iI 1,iI 1,vN]) (vs:=[(0,iI 0),(1,vN),(2,iI 1),(3,iI 1),(4,vN)]) rfl (fun w=>by kernel_rfl) (mup_ (kv:=kI) (q:=qI) (R:=(VAgg (aaJ K))) (k:=15) (u:=(aaI.mk 0 false 1 1 false)) (uv:=.agg #[iI 0,vN,iI 1,iI 1,vN]) (i:=0) (.inl rfl) al rfl abj (aay Tyk3) keI am rfl rfl rfl ⟨[iI 0,vN,iI 1,iI 1,vN],rfl,.mk⟩ (fun an ao ap aq ar=>?_))))))));have au:SR K K wi ap [] [.mp (zz wi) (zz wi) an ao]:=aq;refine bld (cells:=#[iI 0,vN,iI 1,iI 1,vN]) (vs:=[(0,iI 0),(1,vN),(2,iI 1),(3,iI 1),(4,vN)]) rfl (fun w=>by kernel_rfl) (mup_ (kv:=kI) (q:=qI) (R:=(VAgg (aaJ K))) (k:=16) (u:=(aaI.mk 0 false 1 1 false)) (uv:=.agg #[iI 0,vN,iI 1,iI 1,vN]) (i:=0) (.inl rfl) au rfl abj (aay Tyk3) keI ar rfl rfl rfl ⟨[iI 0,vN,iI 1,iI 1,vN],rfl,.mk⟩ (fun b1 b2 b3 av aw=>(bld (cells:=#[iI 0,vN,iI 0,iI 1,vN]) (vs:=[(0,iI 0),(1,vN),(2,iI 0),(3,iI 1),(4,vN)]) rfl (fun w=>by kernel_rfl) (mup_ (kv:=kI) (q:=qI) (R:=(VAgg (aaJ K))) (k:=17) (u:=(aaI.mk 0 false 0 1 false)) (uv:=.agg #[iI 0,vN,iI 0,iI 1,vN]) (i:=0) (.inl rfl) av rfl abj (aay Tyk3) keI aw rfl rfl rfl ⟨[iI 0,vN,iI 0,iI 1,vN],rfl,.mk⟩ (fun b4 b5 b6 ax ay=>(bld (cells:=#[iI 0,vN,iI 0,iI 0,vN]) (vs:=[]) rfl (fun w=>by kernel_rfl) (mup_ (kv:=kI) (q:=qI) (R:=(VAgg (aaJ K))) (k:=18) (u:=(aaI.mk 0 false 0 0 false)) (uv:=.agg #[iI 0,vN,iI 0,iI 0,vN]) (i:=0) (.inl rfl) ax rfl abj (aay Tyk3) keI ay rfl rfl rfl ⟨[iI 0,vN,iI 0,iI 0,vN],rfl,.mk⟩ (fun az aA aB aG aH=>?_))))))));have aI:SR K K wi aB [] [.mp (zz wi) (zz wi) az aA]:=aG;refine bld (cells:=#[iI 0,vN,iI 0,iI 0,vN]) (vs:=[]) rfl (fun w=>by kernel_rfl) (mup_ (kv:=kI) (q:=qI) (R:=(VAgg (aaJ K))) (k:=19) (u:=(aaI.mk 0 false 0 0 false)) (uv:=.agg #[iI 0,vN,iI 0,iI 0,vN]) (i:=0) (.inl rfl) aI rfl abj (aay Tyk3) keI aH rfl rfl rfl ⟨[iI 0,vN,iI 0,iI 0,vN],rfl,.mk⟩ (fun b7 b8 b9 aJ aK=>(bld (cells:=#[iI 0,vN,iI 1,iI 1,vT]) (vs:=[(0,iI 0),(1,vN),(2,iI 1),(3,iI 1),(4,vT)]) rfl (fun w=>by kernel_rfl) (mup_ (kv:=kI) (q:=qI) (R:=(VAgg (aaJ K))) (k:=20) (u:=(aaI.mk 0 false 1 1 true)) (uv:=.agg #[iI 0,vN,iI 1,iI 1,vT]) (i:=0) (.inl rfl) aJ rfl abj (aay Tyk3) keI aK rfl rfl rfl ⟨[iI 0,vN,iI 1,iI 1,vT],rfl,.mk⟩ (fun cb cc ce aL aM=>(bld (cells:=#[iI 0,vN,iI 1,iI 1,vT]) (vs:=[(0,iI 0),(1,vN),(2,iI 1),(3,iI 1),(4,vT)]) rfl (fun w=>by kernel_rfl) (mup_ (kv:=kI) (q:=qI) (R:=(VAgg (aaJ K))) (k:=21) (u:=(aaI.mk 0 false 1 1 true)) (uv:=.agg #[iI 0,vN,iI 1,iI 1,vT]) (i:=0) (.inl rfl) aL rfl abj (aay Tyk3) keI aM rfl rfl rfl ⟨[iI 0,vN,iI 1,iI 1,vT],rfl,.mk⟩ (fun aN aP aT aU aV=>?_))))))));have aW:SR K K wi aT [] [.mp (zz wi) (zz wi) aN aP]:=aU;refine bld (cells:=#[iI 0,vN,iI 0,iI 1,vT]) (vs:=[(0,iI 0),(1,vN),(2,iI 0),(3,iI 1),(4,vT)]) rfl (fun w=>by kernel_rfl) (mup_ (kv:=kI) (q:=qI) (R:=(VAgg (aaJ K))) (k:=22) (u:=(aaI.mk 0 false 0 1 true)) (uv:=.agg #[iI 0,vN,iI 0,iI 1,vT]) (i:=0) (.inl rfl) aW rfl abj (aay Tyk3) keI aV rfl rfl rfl ⟨[iI 0,vN,iI 0,iI 1,vT],rfl,.mk⟩ (fun cf ch ci aX aY=>(bld (cells:=#[iI 0,vN,iI 0,iI 0,vT]) (vs:=[(0,iI 0),(1,vN),(2,iI 0),(3,iI 0),(4,vT)]) rfl (fun w=>by kernel_rfl) (mup_ (kv:=kI) (q:=qI) (R:=(VAgg (aaJ K))) (k:=23) (u:=(aaI.mk 0 false 0 0 true)) (uv:=.agg #[iI 0,vN,iI 0,iI 0,vT]) (i:=0) (.inl rfl) aX rfl abj (aay Tyk3) keI aY rfl rfl rfl ⟨[iI 0,vN,iI 0,iI 0,vT],rfl,.mk⟩ (fun cj ck cl aZ a0=>(bld (cells:=#[iI 2,vN,iI 0,iI 0,vT]) (vs:=[(0,iI 2),(1,vN),(2,iI 0),(3,iI 0),(4,vT)]) rfl (fun w=>by kernel_rfl) (mup_ (kv:=kI) (q:=qI) (R:=(VAgg (aaJ K))) (k:=24) (u:=(aaI.mk 2 false 0 0 true)) (uv:=.agg #[iI 2,vN,iI 0,iI 0,vT]) (i:=0) (.inl rfl) aZ rfl abj (aay Tyk3) keI a0 rfl rfl rfl ⟨[iI 2,vN,iI 0,iI 0,vT],rfl,.mk⟩ (fun a1 a2 a3 a4 a5=>?_))))))));have a6:SR K K wi a3 [] [.mp (zz wi) (zz wi) a1 a2]:=a4;refine bld (cells:=#[iI 1,vN,iI 1,iI 1,vT]) (vs:=[(0,iI 1),(1,vN),(2,iI 1),(3,iI 1),(4,vT)]) rfl (fun w=>by kernel_rfl) (mup_ (kv:=kI) (q:=qI) (R:=(VAgg (aaJ K))) (k:=25) (u:=(aaI.mk 1 false 1 1 true)) (uv:=.agg #[iI 1,vN,iI 1,iI 1,vT]) (i:=0) (.inl rfl) a6 rfl abj (aay Tyk3) keI a5 rfl rfl rfl ⟨[iI 1,vN,iI 1,iI 1,vT],rfl,.mk⟩ (fun cm cn co a7 a8=>(bld (cells:=#[iI 0,vN,iI 1,iI 1,vT]) (vs:=[(0,iI 0),(1,vN),(2,iI 1),(3,iI 1),(4,vT)]) rfl (fun w=>by kernel_rfl) (mup_ (kv:=kI) (q:=qI) (R:=(VAgg (aaJ K))) (k:=26) (u:=(aaI.mk 0 false 1 1 true)) (uv:=.agg #[iI 0,vN,iI 1,iI 1,vT]) (i:=0) (.inl rfl) a7 rfl abj (aay Tyk3) keI a8 rfl rfl rfl ⟨[iI 0,vN,iI 1,iI 1,vT],rfl,.mk⟩ (fun cq cr cs a9 ba=>(bld (cells:=#[iI 0,vN,iI 0,iI 0,vN]) (vs:=[]) rfl (fun w=>by kernel_rfl) (mup_ (kv:=kI) (q:=qI) (R:=(VAgg (aaJ K))) (k:=27) (u:=(aaI.mk 0 false 0 0 false)) (uv:=.agg #[iI 0,vN,iI 0,iI 0,vN]) (i:=0) (.inl rfl) a9 rfl abj (aay Tyk3) keI ba rfl rfl rfl ⟨[iI 0,vN,iI 0,iI 0,vN],rfl,.mk⟩ (fun bb bd be bf bg=>?_))))))));have bh:SR K K wi be [] [.mp (zz wi) (zz wi) bb bd]:=bf;refine bld (cells:=#[iI 1,vT,iI 0,iI 601,vT]) (vs:=[(0,iI 1),(1,vT),(2,iI 0),(3,iI 601),(4,vT)]) rfl (fun w=>by kernel_rfl) (mup_ (kv:=kI) (q:=qI) (R:=(VAgg (aaJ K))) (k:=28) (u:=(aaI.mk 1 true 0 601 true)) (uv:=.agg #[iI 1,vT,iI 0,iI 601,vT]) (i:=0) (.inl rfl) bh rfl abj (aay Tyk3) keI bg rfl rfl rfl ⟨[iI 1,vT,iI 0,iI 601,vT],rfl,.mk⟩ (fun ct cu cw bi bj=>(bld (cells:=#[iI 0,vN,iI 1,iI 1,vN]) (vs:=[(0,iI 0),(1,vN),(2,iI 1),(3,iI 1),(4,vN)]) rfl (fun w=>by kernel_rfl) (mup_ (kv:=kI) (q:=qI) (R:=(VAgg (aaJ K))) (k:=29) (u:=(aaI.mk 0 false 1 1 false)) (uv:=.agg #[iI 0,vN,iI 1,iI 1,vN]) (i:=0) (.inl rfl) bi rfl abj (aay Tyk3) keI bj rfl rfl rfl ⟨[iI 0,vN,iI 1,iI 1,vN],rfl,.mk⟩ (fun bk bm cx bn bo=>(go 5 ?_))))));cases (oi h).trans hr_;exact aau rfl (resT rfl) ⟨K,(zz wi),bk,bm,rfl,bn,bo⟩
theorem aqg (k:Nat):ah4 (f189 k):=asf k
theorem atS (k:Nat):akX (as0 k):=by
 unfold akX;intro K wi f j g l h hG d;obtain ⟨r_,hr_,h⟩:=rz h;refine aat Tryz.func77 rfl (n:=15) rfl ?_;unfold as0 at h;refine gd 5 (aav (fun a w=>∃ e b,a=fr 15 (updL e [(6,.bool b)])∧SR K K wi w [] []∧amB k b=some r_) ?_ ?_)
 ·refine gd 5 (bO 10 h (fun _ h=>?_) (fun _ h=>?_))
  ·exact go 10 (⟨_,(decide (f ≤ g)),fR,d,h⟩)
  ·exact go 7 (⟨_,false,fR,d,h⟩)
 ·rintro _ m ⟨e,b,rfl,i,h⟩;unfold amB at h;refine gd 1 ?_;cases (oi h).trans hr_;exact aau rfl (resT rfl) ⟨K,rfl,i⟩
theorem acv (k:Nat):akX (f77 k):=atS k
theorem aqO (k:Nat):ahM (aoI k):=by
 unfold ahM;intro K wi ao aN aP h hG ap aq;obtain ⟨r_,hr_,h⟩:=rz h;obtain ⟨C,j,D,G,I,d,J,N,l,f,O⟩:=ao;obtain ⟨S,U,V,W,X,Y,Z,ab,ac,ad,rfl,aT,aU,aV,aW,aX,aY,aZ⟩:=aai.open ap;refine aat Tryz.func190 rfl (n:=97) rfl ?_;unfold aoI at h;refine gI 20 [5,1] [] aq (fun a1 b=>(aav (fun a w=>∃ ae g q s t,a=fr 97 (updL ae [(1,pp (zz wi) 0),(3,.bool q),(4,.bool s),(5,.bool t)])∧KH.sub K g∧SR K g wi w [] [.box (zz wi) (zz wi) (aS C j D G I d S J U V N W X l Y Z f ab ac O ad) 62]∧acT k l f q s t=some r_) ?_ ?_))
 ·refine gD 13 [0,1] b (bC 11 h (fun _ h=>?_) (fun _ h=>?_))
  ·refine gD 4 [5,1] b (cB h ad9 (fun _ ar=>(acv k) ar (hG.mono kr) (pt b)) ?_);rintro a2 _ a3 ⟨u,rfl,m⟩ h;have i:=ca m b;refine go 1 (bO 16 h (fun _ h=>?_) (fun _ h=>?_))
   ·refine gP 8 [5,1] i (bO 20 h (fun _ h=>?_) (fun _ h=>?_))
    ·exact go 10 (⟨_,u,false,false,true,fR,m.sub,i,h⟩)
    ·exact gP 13 [1,1] i (⟨_,u,false,false,(!seq j ⟨#[]⟩),fR,m.sub,i,h⟩)
   ·exact go 13 (⟨_,u,false,false,false,fR,m.sub,i,h⟩)
  ·refine gd 7 (bC 26 h (fun _ h=>?_) (fun _ h=>?_))
   ·refine gD 4 [5,1] b (cB h ad9 (fun _ au=>(acv k) au (hG.mono kr) (pt b)) ?_);rintro av _ a4 ⟨aw,rfl,af⟩ h;have ax:=ca af b;exact go 4 (⟨_,aw,false,false,av,fR,af.sub,ax,h⟩)
   ·refine gd 7 (bC 31 h (fun _ h=>?_) (fun _ h=>?_))
    ·refine gD 4 [5,1] b (cB h ad9 (fun _ ay=>(acv k) ay (hG.mono kr) (pt b)) ?_);rintro az _ a5 ⟨aA,rfl,ah⟩ h;have aB:=ca ah b;exact go 4 (⟨_,aA,false,false,az,fR,ah.sub,aB,h⟩)
    ·refine gd 7 (bC 36 h (fun _ h=>?_) (fun _ h=>?_))
     ·refine gD 5 [5,1] b (cB h ad9 (fun _ aG=>(acv k) aG (hG.mono kr) (pt b)) ?_);rintro aH _ a6 ⟨aI,rfl,ai⟩ h;have aj:=ca ai b;exact gP 11 [5,1] aj (⟨_,aI,(d == 1),false,aH,fR,ai.sub,aj,h⟩)
     ·refine gd 7 (bC 44 h (fun _ h=>?_) (fun _ h=>?_))
      ·refine gd 1 (aav (fun a w=>∃ ak o p,a=fr 97 (updL ak [(1,pp (zz wi) 0),(5,.bool p)])∧KH.sub K o∧SR K o wi w [] [.box (zz wi) (zz wi) (aS C j D G I d S J U V N W X l Y Z f ab ac O ad) 62]∧ah9 k d l f p=some r_) ?_ ?_)
       ·refine gD 3 [5,1] b (cB h ad9 (fun _ aJ=>(acv k) aJ (hG.mono kr) (pt b)) ?_);rintro a7 _ a8 ⟨al,rfl,v⟩ h;have x:=ca v b;refine go 1 (bO 49 h (fun _ h=>?_) (fun _ h=>?_))
        ·exact gP 11 [1,1,5,1] x (bbt (r:=(IntKind.i64.wrap (BitVec.ofInt IntKind.i64.bits d &&& BitVec.ofInt IntKind.i64.bits 1).toNat)) rfl rfl rfl (go 8 (⟨_,al,((!seq j ⟨#[]⟩) == ((IntKind.i64.wrap (BitVec.ofInt IntKind.i64.bits d &&& BitVec.ofInt IntKind.i64.bits 1).toNat) == 1)),fR,v.sub,x,h⟩)))
        ·exact go 12 (⟨_,al,false,fR,v.sub,x,h⟩)
       ·rintro _ a9 ⟨ak,o,p,rfl,aK,y,h⟩;unfold ah9 at h;exact gD 4 [5,1] y (bbt (r:=(IntKind.i64.wrap (BitVec.ofInt IntKind.i64.bits d &&& BitVec.ofInt IntKind.i64.bits 1).toNat)) rfl rfl rfl (gP 7 [5,1] y (bbt (r:=(IntKind.i64.wrap (BitVec.ofInt IntKind.i64.bits d &&& BitVec.ofInt IntKind.i64.bits 2).toNat)) rfl rfl rfl (go 5 (⟨_,o,((IntKind.i64.wrap (BitVec.ofInt IntKind.i64.bits d &&& BitVec.ofInt IntKind.i64.bits 1).toNat) == 1),((IntKind.i64.wrap (BitVec.ofInt IntKind.i64.bits d &&& BitVec.ofInt IntKind.i64.bits 2).toNat) == 2),p,fR,aK,y,h⟩)))))
      ·refine gd 7 (bC 67 h (fun _ h=>?_) (fun _ h=>?_))
       ·refine gD 4 [5,1] b (cB h ad9 (fun _ aL=>(acv k) aL (hG.mono kr) (pt b)) ?_);rintro ba _ bb ⟨am,rfl,z⟩ h;have A:=ca z b;refine go 1 (bO 72 h (fun _ h=>?_) (fun _ h=>?_))
        ·exact gP 5 [5,1] A (bdv (r:=(d.tmod 4)) rfl rfl (by decide) rfl (go 7 (⟨_,am,false,false,(decide ((d.tmod 4) < 3)),fR,z.sub,A,h⟩)))
        ·exact go 9 (⟨_,am,false,false,false,fR,z.sub,A,h⟩)
       ·exact gd 4 (⟨_,K,false,false,(d == 0),fR,kr,b,h⟩)
 ·rintro _ bd ⟨ae,g,q,s,t,rfl,be,e,h⟩;unfold acT at h;refine aav (fun a w=>∃ an B,a=fr 97 (updL an [(2,.bool B)])∧SR K g wi w [] []∧aek k B=some r_) ?_ ?_
  ·refine gd 3 (bO 79 h (fun _ h=>?_) (fun _ h=>?_))
   ·refine go 4 (bO 81 h (fun _ h=>?_) (fun _ h=>?_))
    ·refine go 12 (bO 90 h (fun _ h=>?_) (fun _ h=>?_))
     ·exact go 10 (⟨_,true,fR,(e.sel []),h⟩)
     ·exact gP 14 [9,1] e (⟨_,((f.length:Int) == 0),fR,(e.sel []),h⟩)
    ·refine gP 12 [8,1] e (bO 88 h (fun _ h=>?_) (fun _ h=>?_))
     ·refine go 4 (bO 90 h (fun _ h=>?_) (fun _ h=>?_))
      ·exact go 10 (⟨_,true,fR,(e.sel []),h⟩)
      ·exact gP 14 [9,1] e (⟨_,((f.length:Int) == 0),fR,(e.sel []),h⟩)
     ·exact go 11 (⟨_,false,fR,(e.sel []),h⟩)
   ·exact go 20 (⟨_,false,fR,(e.sel []),h⟩)
  ·rintro _ bf ⟨an,B,rfl,aM,h⟩;unfold aek at h;refine gd 1 ?_;cases (oi h).trans hr_;exact aau rfl (resT rfl) ⟨g,rfl,aM⟩
theorem anp (k:Nat):ahM (f190 k):=aqO k
theorem at7 (k:Nat):aj6 (asS k):=by
 unfold aj6;intro K wi g bs d e j f x y z A h hG i;obtain ⟨r_,hr_,h⟩:=rz h;refine aat Tryz.func76 rfl (n:=30) rfl ?_;unfold asS at h;refine gD 11 [0,1] i (bar (r:=(w64 (d + 1))) rfl rfl rfl (gR 13 [0,0,1,1] [] i (fun B i=>(mxb (a:=e) (b:=f) rfl rfl (gR 5 [1,0] [] i (fun C l=>(aav (fun a w=>∃ o m,a=fr 30 (updL o [(4,.bool m)])∧SR K K wi w [.box bs g #[iI d,iI e,.bool j] 96] [.box bs g #[iI (w64 (d + 1)),iI (imax e f),.bool j] 96]∧amf k d e j f m=some r_) ?_ ?_)))))))
 ·refine gD 7 [0,1] l (bO 26 h (fun _ h=>?_) (fun _ h=>?_))
  ·exact go 8 (⟨_,(decide (f ≤ 16)),fR,l,h⟩)
  ·exact go 6 (⟨_,false,fR,l,h⟩)
 ·rintro _ D ⟨o,m,rfl,p,h⟩;unfold amf at h;refine gd 1 ?_;have e_:=(Option.some.inj h).trans hr_;obtain ⟨q,s⟩:=Prod.mk.inj e_;obtain ⟨t,u,v⟩:=aae.mk.inj q;subst t;subst u;subst v;subst s;exact aau rfl (resT rfl) ⟨K,rfl,p⟩
theorem aoM (k:Nat):aj6 (f76 k):=at7 k
theorem ap3 (k:Nat):ais (aoH k):=by
 unfold ais;intro K wi f i h hG d;obtain ⟨r_,hr_,h⟩:=rz h;refine aat Tryz.func135 rfl (n:=9) rfl ?_;unfold aoH at h;refine gd 5 (aav (fun a w=>∃ e b,a=fr 9 (updL e [(2,.bool b)])∧SR K K wi w [] []∧ah7 k b=some r_) ?_ ?_)
 ·refine gd 4 (bO 5 h (fun _ h=>?_) (fun _ h=>?_))
  ·exact go 8 (⟨_,(decide (f ≤ 122)),fR,d,h⟩)
  ·exact go 6 (⟨_,false,fR,d,h⟩)
 ·rintro _ j ⟨e,b,rfl,g,h⟩;unfold ah7 at h;refine gd 1 ?_;cases (oi h).trans hr_;exact aau rfl (resT rfl) ⟨K,rfl,g⟩
theorem avq (k:Nat):ais (f135 k):=ap3 k
theorem ap9 (k:Nat):aiF (ao4 k):=by
 unfold aiF;intro K wi f i h hG d;obtain ⟨r_,hr_,h⟩:=rz h;refine aat Tryz.func136 rfl (n:=9) rfl ?_;unfold ao4 at h;refine gd 5 (aav (fun a w=>∃ e b,a=fr 9 (updL e [(2,.bool b)])∧SR K K wi w [] []∧ajd k b=some r_) ?_ ?_)
 ·refine gd 4 (bO 5 h (fun _ h=>?_) (fun _ h=>?_))
  ·exact go 8 (⟨_,(decide (f ≤ 57)),fR,d,h⟩)
  ·exact go 6 (⟨_,false,fR,d,h⟩)
 ·rintro _ j ⟨e,b,rfl,g,h⟩;unfold ajd at h;refine gd 1 ?_;cases (oi h).trans hr_;exact aau rfl (resT rfl) ⟨K,rfl,g⟩
theorem awA (k:Nat):aiF (f136 k):=ap9 k
theorem aq5 (k:Nat):air (aoV k):=by
 unfold air;intro K wi b I h hG x y;obtain ⟨r_,hr_,h⟩:=rz h;refine aat Tryz.func111 rfl (n:=28) rfl ?_;unfold aoV at h;refine gd 14 (aaC (fun g_ a w=>∃ q g d,∃ (e:Nat),g_=d.length∧a=fr 28 (updL q [(0,.string b),(5,iI (b.size:Int)),(6,iI (e:Int))])∧KH.sub K g∧SR K g wi w [] []∧b.data.toList.drop e=d∧adx k b d e=some r_) b.data.toList.length ?_ ?_)
 ·exact ⟨_,K,b.data.toList,0,rfl,fR,kr,y,List.drop_zero,h⟩
 ·rintro _ _ J ⟨q,g,d,e,rfl,rfl,m,o,f,h⟩;rcases d with _ | ⟨N,d⟩
  ·unfold adx at h;refine gd 2 (bcm (r:=false) rfl rfl (congrArg some (aeB f)) (go 17 ?_));cases (oi h).trans hr_;exact aau rfl (resT rfl) ⟨g,rfl,o⟩
  ·unfold adx at h;refine gd 2 (bcm (r:=true) rfl rfl (congrArg some (adI f)) (go 14 (aav (fun a w=>∃ s i p,a=fr 28 (updL s [(0,.string b),(5,iI (b.size:Int)),(6,iI (e:Int)),(24,.bool p)])∧KH.sub g i∧SR K i wi w [] []∧agw k e p (adx k b d)=some r_) ?_ ?_)))
   ·refine gd 3 (ixN Tyt9 rfl rfl f (cB h aya (fun _ z=>(avq k) z (hG.mono m) (pt o)) ?_));rintro O _ S ⟨t,rfl,j⟩ h;have l:=ca j o;refine go 2 (bO 14 h (fun _ h=>?_) (fun _ h=>?_))
    ·refine go 6 (bO 17 h (fun _ h=>?_) (fun _ h=>?_))
     ·exact go 10 (⟨_,t,true,fR,j.sub,l,h⟩)
     ·refine go 5 (ixN Tyt9 rfl rfl f (go 1 (cB h azj (fun _ A=>(awA k) A (hG.mono l.sub) (pt l)) ?_)));rintro B _ U ⟨C,rfl,u⟩ h;have D:=ca u l;exact go 7 (⟨_,C,(!B),fR,(j.sub.trans u.sub),D,h⟩)
    ·exact go 12 (⟨_,t,false,fR,j.sub,l,h⟩)
   ·rintro _ V ⟨s,i,p,rfl,G,v,h⟩;unfold agw at h;refine bC 24 h (fun _ h=>?_) (fun _ h=>?_)
    ·refine gd 12 ?_;cases (oi h).trans hr_;exact aau rfl (resT rfl) ⟨i,rfl,v⟩
    ·exact gd 5 (bar (r:=((e + 1:Nat):Int)) rfl rfl (aaK (akB x f)) (go 3 (⟨_,Nat.lt_succ_self _,_,i,d,e + 1,rfl,fR,(m.trans G),v,aag f,h⟩)))
theorem awa (k:Nat):air (f111 k):=aq5 k
end Go.Proofs.YtphdlngnegjgcaaGreatDoor
