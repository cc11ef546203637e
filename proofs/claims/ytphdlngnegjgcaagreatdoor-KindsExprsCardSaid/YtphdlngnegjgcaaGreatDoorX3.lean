/- Words of the same proof, part 3: what the last text needs; nothing is claimed here. -/
import Derived.Test.YtphdlngnegjgcaaGreatDoorX2
set_option linter.unusedVariables false
set_option linter.unusedSimpArgs false
namespace Go.Proofs.YtphdlngnegjgcaaGreatDoor
open Go
def f30_j1 (k:Nat) (a:Bool):Option Bool:=(some a)
def f30_b (k:Nat):Int→Option Bool:=fun a=>(cond (decide (a < 0)) (f30_j1 k true) (f30_j1 k (decide (a > 6))))
def f30 (k:Nat):Int→Option Bool:=f30_b k
def f1005218_l1 (k:Nat)  : List Int→Nat→Option Int
 | [],a=>(some (-1))
 | b :: c,a=>((f30 k b).bind fun d=>(cond d (some (a:Int)) ((f1005218_l1 k c) (a + 1))))
def f1005218_b (k:Nat):(List Int)→Option Int:=fun a=>(f1005218_l1 k a 0)
def f1005218 (k:Nat):(List Int)→Option Int:=f1005218_b k
def f1002918_b (k:Nat):(List Int)→Option Bool:=fun a=>((f1005218 k a).bind fun b=>(some (decide (b ≥ 0))))
def f1002918 (k:Nat):(List Int)→Option Bool:=f1002918_b k
def f76_j1 (k:Nat) (a:Int) (b:Int) (c:Bool) (d:Int) (e:Bool):Option (Dcounter × Bool):=(some ((Dcounter.mk (w64 (a + 1)) (imax b d) c),e))
def f76_b (k:Nat):Dcounter→Int→Option (Dcounter × Bool):=fun e a =>
 match e,a with
 | .mk b c d,a=>(cond (decide ((w64 (b + 1)) ≤ 600)) (f76_j1 k b c d a (decide (a ≤ 16))) (f76_j1 k b c d a false))
def f76 (k:Nat):Dcounter→Int→Option (Dcounter × Bool):=f76_b k
def f77_j1 (k:Nat) (a:Bool):Option Bool:=(some a)
def f77_b (k:Nat):Int→Int→Int→Option Bool:=fun a b c=>(cond (decide (a ≥ b)) (f77_j1 k (decide (a ≤ c))) (f77_j1 k false))
def f77 (k:Nat):Int→Int→Int→Option Bool:=f77_b k
def f95_j1 (k:Nat) (a:Nat) (b:Bool) (nx1:Nat→Option Bool):Option Bool:=(cond b (some false) (nx1 (a + 1)))
def f95_l1 (k:Nat) (a:BA):List UInt8→Nat→Option Bool
 | [],b=>(some (decide ((a.size:Int) ≤ 60)))
 | c :: d,b=>(cond (decide ((c.toNat:Int) < 32)) (f95_j1 k b true (f95_l1 k a d)) (f95_j1 k b (decide ((c.toNat:Int) > 126)) (f95_l1 k a d)))
def f95_b (k:Nat):BA→Option Bool:=fun a=>(f95_l1 k a a.data.toList 0)
def f95 (k:Nat):BA→Option Bool:=f95_b k
def f78 (k:Nat):BA→Option Bool:=fun a=>f95 k a
def f135_j1 (k:Nat) (a:Bool):Option Bool:=(some a)
def f135_b (k:Nat):Int→Option Bool:=fun a=>(cond (decide (a ≥ 97)) (f135_j1 k (decide (a ≤ 122))) (f135_j1 k false))
def f135 (k:Nat):Int→Option Bool:=f135_b k
def f136_j1 (k:Nat) (a:Bool):Option Bool:=(some a)
def f136_b (k:Nat):Int→Option Bool:=fun a=>(cond (decide (a ≥ 48)) (f136_j1 k (decide (a ≤ 57))) (f136_j1 k false))
def f136 (k:Nat):Int→Option Bool:=f136_b k
def f111_j1 (k:Nat) (a:Nat) (b:Bool) (nx1:Nat→Option Bool):Option Bool:=(cond b (some false) (nx1 (a + 1)))
def f111_l1 (k:Nat) (b:BA):List UInt8→Nat→Option Bool
 | [],a=>(some (!seq b ⟨#[]⟩))
 | d :: c,a=>((f135 k (d.toNat:Int)).bind fun e=>(cond (!e) (cond ((a:Int) == 0) (f111_j1 k a true (f111_l1 k b c)) ((f136 k (d.toNat:Int)).bind fun f=>(f111_j1 k a (!f) (f111_l1 k b c)))) (f111_j1 k a false (f111_l1 k b c))))
def f111_b (k:Nat):BA→Option Bool:=fun a=>(f111_l1 k a a.data.toList 0)
def f111 (k:Nat):BA→Option Bool:=f111_b k
def f165_l1 (k:Nat) (b:BA):LB→Nat→Option Int
 | [],a=>(some (-1))
 | c :: d,a=>(cond (seq b c) (some (a:Int)) ((f165_l1 k b d) (a + 1)))
def f165_b (k:Nat):LB→BA→Option Int:=fun a b=>(f165_l1 k b a 0)
def f165 (k:Nat):LB→BA→Option Int:=f165_b k
def f137_b (k:Nat):LB→BA→Option Bool:=fun a b=>((f165 k a b).bind fun c=>(some (decide (c ≥ 0))))
def f137 (k:Nat):LB→BA→Option Bool:=f137_b k
def wordsL:LB:=[⟨#[97,102,116,101,114]⟩,⟨#[97,119,97,105,116]⟩,⟨#[98,111,111,108]⟩,⟨#[98,114,101,97,107]⟩,⟨#[98,117,102,102,101,114]⟩,⟨#[99,97,110,99,101,108]⟩,⟨#[99,97,116,99,104]⟩,⟨#[99,104,97,110]⟩,⟨#[99,108,111,115,101]⟩,⟨#[99,111,110,116,105,110,117,101]⟩,⟨#[100,114,111,112]⟩,⟨#[101,97,99,104]⟩,⟨#[101,108,115,101]⟩,⟨#[101,109,105,116]⟩,⟨#[102,97,108,115,101]⟩,⟨#[102,105,110,97,108,108,121]⟩,⟨#[102,108,111,119]⟩,⟨#[102,110]⟩,⟨#[102,114,111,109]⟩,⟨#[104,111,108,100]⟩,⟨#[105,102]⟩,⟨#[105,110,116]⟩,⟨#[108,101,116]⟩,⟨#[108,111,99,107]⟩,⟨#[110,101,119]⟩,⟨#[110,111,119]⟩,⟨#[111,108,100]⟩,⟨#[112,114,111,100,117,99,101]⟩,⟨#[114,101,99,101,105,118,101]⟩,⟨#[114,101,116,117,114,110]⟩,⟨#[115,99,111,112,101]⟩,⟨#[115,101,108,101,99,116]⟩,⟨#[115,101,110,100]⟩,⟨#[115,104,105,101,108,100]⟩,⟨#[115,108,101,101,112]⟩,⟨#[115,112,97,119,110]⟩,⟨#[115,117,112,101,114,118,105,115,101,100]⟩,⟨#[116,97,115,107]⟩,⟨#[116,101,120,116]⟩,⟨#[116,104,114,111,119]⟩,⟨#[116,114,117,101]⟩,⟨#[116,114,121]⟩,⟨#[117,115,101]⟩,⟨#[119,104,105,108,101]⟩,⟨#[119,105,116,104,105,110]⟩,⟨#[121,105,101,108,100]⟩]
def f138 (k:Nat):Option LB:=some wordsL
def f112_b (k:Nat):BA→Option Bool:=fun a=>((f138 k ).bind fun b=>((f137 k b a).bind fun c=>(some c)))
def f112 (k:Nat):BA→Option Bool:=f112_b k
def f79_j1 (k:Nat) (a:Bool):Option Bool:=(some a)
def f79_b (k:Nat):BA→Option Bool:=fun a=>((f111 k a).bind fun b=>(cond b (cond (decide ((a.size:Int) ≤ 12)) ((f112 k a).bind fun c=>(f79_j1 k (!c))) (f79_j1 k false)) (f79_j1 k false)))
def f79 (k:Nat):BA→Option Bool:=f79_b k
structure Fam53 where
 f53:Dcounter→DExpr→Int→Option (Dcounter × Bool)
 f80:Dcounter→LE→Int→Option (Dcounter × Bool)
def f53_j3 (k:Nat) (F:Fam53) (a:Bool) (b:Int) (c:Int) (d:Bool):Option (Dcounter × Bool):=(some ((Dcounter.mk b c d),a))
def f53_j2 (k:Nat) (F:Fam53) (d:LE) (e:Int) (a:Int) (b:Int) (c:Bool) (f:Int) (g:Bool):Option (Dcounter × Bool):=(cond g (cond ((d.length:Int) == f) ((F.f80 (Dcounter.mk a b c) d (w64 (e + 1))).bind fun q_=>match q_ with | (.mk h i j,l)=>(f53_j3 k F l h i j)) (f53_j3 k F false a b c)) (f53_j3 k F false a b c))
def f53_j5 (k:Nat) (F:Fam53) (a:LE) (b:Int) (c:Int) (d:Int) (e:Bool) (f:Bool):Option (Dcounter × Bool):=(f53_j2 k F a b c d e 1 f)
def f53_j6 (k:Nat) (F:Fam53) (a:LE) (b:Int) (c:Int) (d:Int) (e:Bool) (f:Bool):Option (Dcounter × Bool):=(f53_j2 k F a b c d e 2 f)
def f53_j4 (k:Nat) (F:Fam53) (h:Int) (f:Int) (g:BA) (a:LE) (b:Int) (c:Int) (d:Int) (e:Bool) (i:Bool):Option (Dcounter × Bool):=(cond i (cond (f == 0) (f53_j5 k F a b c d e (seq g ⟨#[]⟩)) (f53_j5 k F a b c d e false)) ((f77 k h 7 19).bind fun j=>(cond j (cond (f == 0) (f53_j6 k F a b c d e (seq g ⟨#[]⟩)) (f53_j6 k F a b c d e false)) (f53_j6 k F a b c d e false))))
def f53_j1 (k:Nat) (F:Fam53) (f:Int) (g:Int) (h:BA) (d:LE) (e:Int) (a:Int) (b:Int) (c:Bool) (i:Bool):Option (Dcounter × Bool):=(cond i (some ((Dcounter.mk a b c),false)) (cond (f == 1) ((f77 k g 0 1000000000000).bind fun j=>(cond j (f53_j2 k F d e a b c 0 (seq h ⟨#[]⟩)) (f53_j2 k F d e a b c 0 false))) (cond (f == 2) ((f77 k g 0 1).bind fun l=>(cond l (f53_j2 k F d e a b c 0 (seq h ⟨#[]⟩)) (f53_j2 k F d e a b c 0 false))) (cond (f == 3) (cond (g == 0) ((f78 k h).bind fun m=>(f53_j2 k F d e a b c 0 m)) (f53_j2 k F d e a b c 0 false)) (cond (f == 4) (cond (g == 0) ((f79 k h).bind fun n=>(f53_j2 k F d e a b c 0 n)) (f53_j2 k F d e a b c 0 false)) (cond (f == 5) (f53_j4 k F f g h d e a b c (f == 5)) (f53_j4 k F f g h d e a b c (f == 6))))))))
def f53_b (k:Nat) (F:Fam53):Dcounter→DExpr→Int→Option (Dcounter × Bool):=fun i j a =>
 match i,j,a with
 | .mk l m n,.mk c d e o f,a=>((f76 k (Dcounter.mk l m n) a).bind fun q_=>match q_ with | (.mk g h b,p)=>(cond (!p) (f53_j1 k F c d e f a g h b true) (cond (o != 0) (f53_j1 k F c d e f a g h b (!b)) (f53_j1 k F c d e f a g h b false))))
def f80_l1 (k:Nat) (F:Fam53) (d:Int):LE→Nat→Int→Int→Bool→Option (Dcounter × Bool)
 | [],e,a,b,c=>(some ((Dcounter.mk a b c),true))
 | (.mk i j l m n) :: o,e,a,b,c=>((F.f53 (Dcounter.mk a b c) (DExpr.mk i j l m n) d).bind fun q_=>match q_ with | (.mk f g h,p)=>(cond (!p) (some ((Dcounter.mk f g h),false)) ((f80_l1 k F d o) (e + 1) f g h)))
def f80_b (k:Nat) (F:Fam53):Dcounter→LE→Int→Option (Dcounter × Bool):=fun c a b =>
 match c,a,b with
 | .mk d e f,a,b=>(f80_l1 k F b a 0 d e f)
def fam53 (k0:Nat):Nat→Fam53
 | 0=>{ f53:=fun _ _ _=>none,f80:=fun _ _ _=>none }
 | k + 1=>{ f53:=f53_b k0 (fam53 k0 k),f80:=f80_b k0 (fam53 k0 k) }
def f53 (k:Nat):Dcounter→DExpr→Int→Option (Dcounter × Bool):=(fam53 k k).f53
def f80 (k:Nat):Dcounter→LE→Int→Option (Dcounter × Bool):=(fam53 k k).f80
def f31_b (k:Nat):DExpr→Bool→Option Bool:=fun b a =>
 match b,a with
 | .mk c d e f g,a=>((f53 k (Dcounter.mk 0 0 a) (DExpr.mk c d e f g) 1).bind fun q_=>match q_ with | (.mk i j l,h)=>(some h))
def f31 (k:Nat):DExpr→Bool→Option Bool:=f31_b k
structure Fam32 where
 f32:DExpr→Int→Option Bool
 f1005440:LE→Int→Option Bool
 f1005532:DExpr→Int→Option Bool
 f1008147:LE→Unit→Int→Option Bool
 f1008221:DExpr→Unit→Int→Option Bool
 f1011347:LE→Unit→Int→Option Int
def f32_j1 (k:Nat) (F:Fam32) (a:Bool):Option Bool:=(some a)
def f32_b (k:Nat) (F:Fam32):DExpr→Int→Option Bool:=fun d a =>
 match d,a with
 | .mk e h i b c,a=>(cond (e != 4) ((F.f1005440 c a).bind fun f=>(f32_j1 k F f)) (cond (decide (b ≥ 0)) (cond (decide (b < a)) ((F.f1005440 c a).bind fun g=>(f32_j1 k F g)) (f32_j1 k F false)) (f32_j1 k F false)))
def f1005440_b (k:Nat) (F:Fam32):LE→Int→Option Bool:=fun a s=>((F.f1008147 a () s).bind fun b=>(some (!b)))
def f1005532_b (k:Nat) (F:Fam32):DExpr→Int→Option Bool:=fun a b =>
 match a,b with
 | .mk c d e f g,s=>((F.f32 (DExpr.mk c d e f g) s).bind fun h=>(some h))
def f1008147_b (k:Nat) (F:Fam32):LE→Unit→Int→Option Bool:=fun a _ sA=>((F.f1011347 a () sA).bind fun b=>(some (decide (b ≥ 0))))
def f1008221_b (k:Nat) (F:Fam32):DExpr→Unit→Int→Option Bool:=fun a b c =>
 match a,b,c with
 | .mk d e f g h,_,sA=>((F.f1005532 (DExpr.mk d e f g h) sA).bind fun i=>(some (!i)))
def f1011347_l1 (k:Nat) (F:Fam32) (sA:Int):LE→Nat→Option Int
 | [],a=>(some (-1))
 | (.mk b c d e f) :: g,a=>((F.f1008221 (DExpr.mk b c d e f) () sA).bind fun h=>(cond h (some (a:Int)) ((f1011347_l1 k F sA g) (a + 1))))
def f1011347_b (k:Nat) (F:Fam32):LE→Unit→Int→Option Int:=fun a _ sA=>(f1011347_l1 k F sA a 0)
def fam32 (k0:Nat):Nat→Fam32
 | 0=>{ f32:=fun _ _=>none,f1005440:=fun _ _=>none,f1005532:=fun _ _=>none,f1008147:=fun _ _ _=>none,f1008221:=fun _ _ _=>none,f1011347:=fun _ _ _=>none }
 | k + 1=>{ f32:=f32_b k0 (fam32 k0 k),f1005440:=f1005440_b k0 (fam32 k0 k),f1005532:=f1005532_b k0 (fam32 k0 k),f1008147:=f1008147_b k0 (fam32 k0 k),f1008221:=f1008221_b k0 (fam32 k0 k),f1011347:=f1011347_b k0 (fam32 k0 k) }
def f32 (k:Nat):DExpr→Int→Option Bool:=(fam32 k k).f32
def f1005440 (k:Nat):LE→Int→Option Bool:=(fam32 k k).f1005440
def f1005532 (k:Nat):DExpr→Int→Option Bool:=(fam32 k k).f1005532
def f1008147 (k:Nat):LE→Unit→Int→Option Bool:=(fam32 k k).f1008147
def f1008221 (k:Nat):DExpr→Unit→Int→Option Bool:=(fam32 k k).f1008221
def f1011347 (k:Nat):LE→Unit→Int→Option Int:=(fam32 k k).f1011347
def f56_b (k:Nat):Option (List (Int × Doperator)):=(some (mput qI 19 (Doperator.mk [1] 1) (mput qI 18 (Doperator.mk [1] 1) (mput qI 17 (Doperator.mk [1] 1) (mput qI 16 (Doperator.mk [1] 1) (mput qI 6 (Doperator.mk [1] 1) (mput qI 14 (Doperator.mk [1,3] 2) (mput qI 13 (Doperator.mk [1,3] 2) (mput qI 12 (Doperator.mk [1,3] 2) (mput qI 11 (Doperator.mk [1,3] 2) (mput qI 8 (Doperator.mk [2] 2) (mput qI 7 (Doperator.mk [2] 2) (mput qI 5 (Doperator.mk [2] 2) ([]:List (Int × Doperator)))))))))))))))
def f56 (k:Nat):Option (List (Int × Doperator)):=f56_b k
def f83_l1 (k:Nat) (b:Int):List Int→Nat→Option Int
 | [],a=>(some (-1))
 | c :: d,a=>(cond (b == c) (some (a:Int)) ((f83_l1 k b d) (a + 1)))
def f83_b (k:Nat):(List Int)→Int→Option Int:=fun a b=>(f83_l1 k b a 0)
def f83 (k:Nat):(List Int)→Int→Option Int:=f83_b k
def f57_b (k:Nat):(List Int)→Int→Option Bool:=fun a b=>((f83 k a b).bind fun c=>(some (decide (c ≥ 0))))
def f57 (k:Nat):(List Int)→Int→Option Bool:=f57_b k
structure Fam33 where
 f33:DExpr→(List Int)→Option Int
def f33_j3 (k:Nat) (F:Fam33) (a:Int) (b:Bool):Option Int:=(cond b (some (-1)) (some a))
def f33_j4 (k:Nat) (F:Fam33) (a:Int) (b:List Int) (c:Int):Option Int:=((f57 k b a).bind fun d=>(cond (!d) (some (-1)) (some c)))
def f33_j2 (k:Nat) (F:Fam33) (b:Int) (a:Int) (c:Bool):Option Int:=(cond c (some 2) (cond (b == 15) (cond (a != 1) (f33_j3 k F a (a != 3)) (f33_j3 k F a false)) ((f56 k ).bind fun d=>(mcase (mget qI b d) (f33_j4 k F a [] 0) (fun q_=>match q_ with | .mk e f=>(f33_j4 k F a e f))))))
def f33_j1 (k:Nat) (F:Fam33) (a:Int) (b:Int) (c:Bool):Option Int:=(cond c (some (-1)) (cond (a == 9) (f33_j2 k F a b (a == 9)) (f33_j2 k F a b (a == 10))))
def f33_b (k:Nat) (F:Fam33):DExpr→(List Int)→Option Int:=fun e b =>
 match e,b with
 | .mk a t u f d,b=>(cond (a == 1) (some 1) (cond (a == 2) (some 2) (cond (a == 3) (some 3) (cond (a == 4) ((idxO b f).bind fun g=>(some g)) ((idxO d 0).bind fun q_=>match q_ with | .mk h i j l m=>((F.f33 (DExpr.mk h i j l m) b).bind fun c=>(cond (c == (-1)) (f33_j1 k F a c true) (cond ((d.length:Int) == 2) ((idxO d 1).bind fun q_=>match q_ with | .mk n o p q r=>((F.f33 (DExpr.mk n o p q r) b).bind fun s=>(f33_j1 k F a c (s != c)))) (f33_j1 k F a c false)))))))))
def fam33 (k0:Nat):Nat→Fam33
 | 0=>{ f33:=fun _ _=>none }
 | k + 1=>{ f33:=f33_b k0 (fam33 k0 k) }
def f33 (k:Nat):DExpr→(List Int)→Option Int:=(fam33 k k).f33
def f13_j1 (k:Nat) (b:Int) (c:Int) (d:BA) (e:Int) (f:LE) (g:(List Int)) (h:Bool):Option (Int × Int):=(cond h (some (0,2)) ((f33 k (DExpr.mk b c d e f) g).bind fun a=>(cond (a == (-1)) (some (0,23)) (some (a,0)))))
def f13_b (k:Nat):DExpr→(List Int)→Option (Int × Int):=fun g a =>
 match g,a with
 | .mk b c d e f,a=>((f1002918 k a).bind fun h=>((f31 k (DExpr.mk b c d e f) true).bind fun i=>(cond (!i) (f13_j1 k b c d e f a true) ((f32 k (DExpr.mk b c d e f) (a.length:Int)).bind fun j=>(cond (!j) (f13_j1 k b c d e f a true) (f13_j1 k b c d e f a h))))))
def f13 (k:Nat):DExpr→(List Int)→Option (Int × Int):=f13_b k
def f114_j1 (k:Nat) (a:Int) (b:Int) (d:Bool) (c:Int) (e:Bool):Option DSize:=(cond e (some (DSize.mk (w64 (a + 1)) (imax b c) true)) (some (DSize.mk (w64 (a + 1)) (imax b c) d)))
def f114_b (k:Nat):DSize→Int→Option DSize:=fun e a =>
 match e,a with
 | .mk b c d,a=>(cond (decide ((w64 (b + 1)) > 600)) (f114_j1 k b c d a true) (f114_j1 k b c d a (decide (a > 16))))
def f114 (k:Nat):DSize→Int→Option DSize:=f114_b k
def f115_b (k:Nat):DSize→Bool→Option DSize:=fun d a =>
 match d,a with
 | .mk b c e,a=>(cond (!a) (some (DSize.mk b c true)) (some (DSize.mk b c e)))
def f115 (k:Nat):DSize→Bool→Option DSize:=f115_b k
def f116_j1 (k:Nat) (a:Nat) (b:Bool) (nx1:Nat→Option Bool):Option Bool:=(cond b (some false) (nx1 (a + 1)))
def f116_l1 (k:Nat) (a:BA):List UInt8→Nat→Option Bool
 | [],b=>(some (decide ((a.size:Int) ≤ 60)))
 | c :: d,b=>(cond (decide ((c.toNat:Int) < 32)) (f116_j1 k b true (f116_l1 k a d)) (f116_j1 k b (decide ((c.toNat:Int) > 126)) (f116_l1 k a d)))
def f116_b (k:Nat):BA→Option Bool:=fun a=>(f116_l1 k a a.data.toList 0)
def f116 (k:Nat):BA→Option Bool:=f116_b k
def f139_j1 (k:Nat) (a:Bool):Option Bool:=(some a)
def f139_b (k:Nat):Int→Option Bool:=fun a=>(cond (decide (a ≥ 97)) (f139_j1 k (decide (a ≤ 122))) (f139_j1 k false))
def f139 (k:Nat):Int→Option Bool:=f139_b k
def f140_j1 (k:Nat) (a:Bool):Option Bool:=(some a)
def f140_b (k:Nat):Int→Option Bool:=fun a=>(cond (decide (a ≥ 48)) (f140_j1 k (decide (a ≤ 57))) (f140_j1 k false))
def f140 (k:Nat):Int→Option Bool:=f140_b k
def f167_b (k:Nat):Option LB:=(some [⟨#[97,102,116,101,114]⟩,⟨#[97,119,97,105,116]⟩,⟨#[98,111,111,108]⟩,⟨#[98,114,101,97,107]⟩,⟨#[98,117,102,102,101,114]⟩,⟨#[99,97,110,99,101,108]⟩,⟨#[99,97,116,99,104]⟩,⟨#[99,104,97,110]⟩,⟨#[99,108,111,115,101]⟩,⟨#[99,111,110,116,105,110,117,101]⟩,⟨#[100,114,111,112]⟩,⟨#[101,97,99,104]⟩,⟨#[101,108,115,101]⟩,⟨#[101,109,105,116]⟩,⟨#[102,97,108,115,101]⟩,⟨#[102,105,110,97,108,108,121]⟩,⟨#[102,108,111,119]⟩,⟨#[102,110]⟩,⟨#[102,114,111,109]⟩,⟨#[104,111,108,100]⟩,⟨#[105,102]⟩,⟨#[105,110,116]⟩,⟨#[108,101,116]⟩,⟨#[108,111,99,107]⟩,⟨#[110,101,119]⟩,⟨#[110,111,119]⟩,⟨#[111,108,100]⟩,⟨#[112,114,111,100,117,99,101]⟩,⟨#[114,101,99,101,105,118,101]⟩,⟨#[114,101,116,117,114,110]⟩,⟨#[115,99,111,112,101]⟩,⟨#[115,101,108,101,99,116]⟩,⟨#[115,101,110,100]⟩,⟨#[115,104,105,101,108,100]⟩,⟨#[115,108,101,101,112]⟩,⟨#[115,112,97,119,110]⟩,⟨#[115,117,112,101,114,118,105,115,101,100]⟩,⟨#[116,97,115,107]⟩,⟨#[116,101,120,116]⟩,⟨#[116,104,114,111,119]⟩,⟨#[116,114,117,101]⟩,⟨#[116,114,121]⟩,⟨#[117,115,101]⟩,⟨#[119,104,105,108,101]⟩,⟨#[119,105,116,104,105,110]⟩,⟨#[121,105,101,108,100]⟩])
def f167 (k:Nat):Option LB:=f167_b k
def f141_l1 (k:Nat) (a:BA):LB→Nat→Option Bool
 | [],b=>(some false)
 | c :: d,b=>(cond (seq c a) (some true) ((f141_l1 k a d) (b + 1)))
def f141_b (k:Nat):BA→Option Bool:=fun a=>((f167 k ).bind fun b=>(f141_l1 k a b 0))
def f141 (k:Nat):BA→Option Bool:=f141_b k
def f117_j1 (k:Nat) (a:Bool):Option Bool:=(some a)
def f117_j2 (k:Nat) (a:Nat) (b:Bool) (nx1:Nat→Option Bool):Option Bool:=(cond b (some false) (nx1 (a + 1)))
def f117_l1 (k:Nat) (a:BA):List UInt8→Nat→Option Bool
 | [],b=>(cond (decide ((a.size:Int) ≥ 1)) (cond (decide ((a.size:Int) ≤ 12)) ((f141 k a).bind fun e=>(f117_j1 k (!e))) (f117_j1 k false)) (f117_j1 k false))
 | d :: c,b=>((f139 k (d.toNat:Int)).bind fun f=>(cond (!f) (cond ((b:Int) == 0) (f117_j2 k b true (f117_l1 k a c)) ((f140 k (d.toNat:Int)).bind fun g=>(f117_j2 k b (!g) (f117_l1 k a c)))) (f117_j2 k b false (f117_l1 k a c))))
def f117_b (k:Nat):BA→Option Bool:=fun a=>(f117_l1 k a a.data.toList 0)
def f117 (k:Nat):BA→Option Bool:=f117_b k
structure Fam84 where
 f84:DSize→DExpr→Int→Bool→Option DSize
def f84_l1 (k:Nat) (F:Fam84) (d:Int) (e:Bool):LE→Nat→Int→Int→Bool→Option DSize
 | [],f,b,c,a=>(some (DSize.mk b c a))
 | (.mk g h i j l) :: m,f,b,c,a=>(cond (!a) ((F.f84 (DSize.mk b c a) (DExpr.mk g h i j l) (w64 (d + 1)) e).bind fun q_=>match q_ with | .mk n o p=>((f84_l1 k F d e m) (f + 1) n o p)) (some (DSize.mk b c a)))
def f84_j2 (k:Nat) (F:Fam84) (a:LE) (b:Int) (c:Bool) (d:Int) (e:Int) (f:Bool) (g:Int):Option DSize:=((f115 k (DSize.mk d e f) ((a.length:Int) == g)).bind fun q_=>match q_ with | .mk h i j=>(f84_l1 k F b c a 0 h i j))
def f84_j3 (k:Nat) (F:Fam84) (g:Int) (h:Int) (i:BA) (a:LE) (b:Int) (c:Bool) (d:Int) (e:Int) (f:Bool) (j:Bool):Option DSize:=(cond j (cond (h == 0) ((f115 k (DSize.mk d e f) (seq i ⟨#[]⟩)).bind fun q_=>match q_ with | .mk l m n=>(f84_j2 k F a b c l m n 1)) ((f115 k (DSize.mk d e f) false).bind fun q_=>match q_ with | .mk o p q=>(f84_j2 k F a b c o p q 1))) (cond (decide (g ≥ 7)) (cond (decide (g ≤ 19)) (cond (h == 0) ((f115 k (DSize.mk d e f) (seq i ⟨#[]⟩)).bind fun q_=>match q_ with | .mk r s t=>(f84_j2 k F a b c r s t 2)) ((f115 k (DSize.mk d e f) false).bind fun q_=>match q_ with | .mk u v w=>(f84_j2 k F a b c u v w 2))) ((f115 k (DSize.mk d e f) false).bind fun q_=>match q_ with | .mk x y z=>(f84_j2 k F a b c x y z 2))) ((f115 k (DSize.mk d e f) false).bind fun q_=>match q_ with | .mk A B C=>(f84_j2 k F a b c A B C 2))))
def f84_j1 (k:Nat) (F:Fam84) (g:Int) (h:Int) (i:BA) (a:LE) (b:Int) (c:Bool) (d:Int) (e:Int) (f:Bool):Option DSize:=(cond (g == 1) (cond (decide (h ≥ 0)) (cond (decide (h ≤ 1000000000000)) ((f115 k (DSize.mk d e f) (seq i ⟨#[]⟩)).bind fun q_=>match q_ with | .mk j l m=>(f84_j2 k F a b c j l m 0)) ((f115 k (DSize.mk d e f) false).bind fun q_=>match q_ with | .mk n o p=>(f84_j2 k F a b c n o p 0))) ((f115 k (DSize.mk d e f) false).bind fun q_=>match q_ with | .mk q r s=>(f84_j2 k F a b c q r s 0))) (cond (g == 2) (cond (h == 0) ((f115 k (DSize.mk d e f) (seq i ⟨#[]⟩)).bind fun q_=>match q_ with | .mk t u v=>(f84_j2 k F a b c t u v 0)) (cond (h == 1) ((f115 k (DSize.mk d e f) (seq i ⟨#[]⟩)).bind fun q_=>match q_ with | .mk w x y=>(f84_j2 k F a b c w x y 0)) ((f115 k (DSize.mk d e f) false).bind fun q_=>match q_ with | .mk z A B=>(f84_j2 k F a b c z A B 0)))) (cond (g == 3) (cond (h == 0) ((f116 k i).bind fun C=>((f115 k (DSize.mk d e f) C).bind fun q_=>match q_ with | .mk D G I=>(f84_j2 k F a b c D G I 0))) ((f115 k (DSize.mk d e f) false).bind fun q_=>match q_ with | .mk J N O=>(f84_j2 k F a b c J N O 0))) (cond (g == 4) (cond (h == 0) ((f117 k i).bind fun S=>((f115 k (DSize.mk d e f) S).bind fun q_=>match q_ with | .mk U V W=>(f84_j2 k F a b c U V W 0))) ((f115 k (DSize.mk d e f) false).bind fun q_=>match q_ with | .mk X Y Z=>(f84_j2 k F a b c X Y Z 0))) (cond (g == 5) (f84_j3 k F g h i a b c d e f true) (f84_j3 k F g h i a b c d e f (g == 6)))))))
def f84_b (k:Nat) (F:Fam84):DSize→DExpr→Int→Bool→Option DSize:=fun n o a b =>
 match n,o,a,b with
 | .mk d e c,.mk f g h p i,a,b=>(cond c (some (DSize.mk d e c)) ((f114 k (DSize.mk d e c) a).bind fun q_=>match q_ with | .mk j l m=>(cond b ((f115 k (DSize.mk j l m) true).bind fun q_=>match q_ with | .mk q r s=>(f84_j1 k F f g h i a b q r s)) ((f115 k (DSize.mk j l m) (p == 0)).bind fun q_=>match q_ with | .mk t u v=>(f84_j1 k F f g h i a b t u v)))))
def fam84 (k0:Nat):Nat→Fam84
 | 0=>{ f84:=fun _ _ _ _=>none }
 | k + 1=>{ f84:=f84_b k0 (fam84 k0 k) }
def f84 (k:Nat):DSize→DExpr→Int→Bool→Option DSize:=(fam84 k k).f84
def f58_b (k:Nat):DExpr→Int→Int→Bool→Option DSize:=fun d a b c =>
 match d,a,b,c with
 | .mk e f g h i,a,b,c=>((f84 k (DSize.mk a 0 false) (DExpr.mk e f g h i) b c).bind fun q_=>match q_ with | .mk j l m=>(some (DSize.mk j l m)))
def f58 (k:Nat):DExpr→Int→Int→Bool→Option DSize:=f58_b k
def f34_b (k:Nat):DExpr→Option Bool:=fun a =>
 match a with
 | .mk b c d e f=>((f58 k (DExpr.mk b c d e f) 0 1 true).bind fun q_=>match q_ with | .mk h i g=>(some (!g)))
def f34 (k:Nat):DExpr→Option Bool:=f34_b k
structure Fam35 where
 f35:DExpr→Int→Option Bool
def f35_j1 (k:Nat) (F:Fam35) (a:Bool):Option Bool:=(some a)
def f35_l1 (k:Nat) (F:Fam35) (a:Int):LE→Nat→Option Bool
 | [],b=>(some true)
 | (.mk c d e f g) :: h,b=>((F.f35 (DExpr.mk c d e f g) a).bind fun i=>(cond (!i) (some false) ((f35_l1 k F a h) (b + 1))))
def f35_b (k:Nat) (F:Fam35):DExpr→Int→Option Bool:=fun c a =>
 match c,a with
 | .mk d f g b e,a=>(cond (d == 4) (cond (decide (b ≥ 0)) (f35_j1 k F (decide (b < a))) (f35_j1 k F false)) (f35_l1 k F a e 0))
def fam35 (k0:Nat):Nat→Fam35
 | 0=>{ f35:=fun _ _=>none }
 | k + 1=>{ f35:=f35_b k0 (fam35 k0 k) }
def f35 (k:Nat):DExpr→Int→Option Bool:=(fam35 k k).f35
def f14_j1 (k:Nat) (a:Bool):Option Bool:=(some a)
def f14_b (k:Nat):DExpr→Int→Option Bool:=fun g a =>
 match g,a with
 | .mk b c d e f,a=>((f34 k (DExpr.mk b c d e f)).bind fun h=>(cond h ((f35 k (DExpr.mk b c d e f) a).bind fun i=>(f14_j1 k i)) (f14_j1 k false)))
def f14 (k:Nat):DExpr→Int→Option Bool:=f14_b k
def f36_j2 (k:Nat)  : Option Int:=(some (-1))
def f36_j6 (k:Nat) (a:Bool):Option Int:=(cond a (some 2) (f36_j2 k))
def f36_j7 (k:Nat) (a:Int) (b:Bool):Option Int:=(cond b (some a) (f36_j2 k))
def f36_j5 (k:Nat) (b:Int) (a:Int) (c:Bool):Option Int:=(cond c (cond (a == 1) (f36_j6 k true) (f36_j6 k (a == 3))) (cond (b == 15) (cond (a == 1) (f36_j7 k a true) (f36_j7 k a (a == 3))) (cond (a == 1) (some 1) (f36_j2 k))))
def f36_j4 (k:Nat) (a:Int) (b:Int) (c:Bool):Option Int:=(cond c (some 2) (cond (decide (a ≥ 11)) (f36_j5 k a b (decide (a ≤ 14))) (f36_j5 k a b false)))
def f36_j3 (k:Nat) (a:Int) (b:Int) (c:Bool):Option Int:=(cond c (cond (b == 2) (some 2) (f36_j2 k)) (cond (a == 9) (f36_j4 k a b true) (f36_j4 k a b (a == 10))))
def f36_j1 (k:Nat) (a:Int) (b:Int) (c:Bool):Option Int:=(cond c (some (-1)) (cond (a == 5) (f36_j3 k a b true) (cond (a == 7) (f36_j3 k a b true) (f36_j3 k a b (a == 8)))))
def f36_b (k:Nat):Int→Int→Int→Option Int:=fun b a c=>(cond (a != c) (f36_j1 k b a true) (f36_j1 k b a (a == (-1))))
def f36 (k:Nat):Int→Int→Int→Option Int:=f36_b k
structure Fam15 where
 f15:DExpr→(List Int)→Option Int
def f15_j1 (k:Nat) (F:Fam15) (a:Int) (b:Int) (c:Int):Option Int:=((f36 k a b c).bind fun d=>(some d))
def f15_b (k:Nat) (F:Fam15):DExpr→(List Int)→Option Int:=fun e b =>
 match e,b with
 | .mk a t u f c,b=>(cond (a == 1) (some 1) (cond (a == 2) (some 2) (cond (a == 3) (some 3) (cond (a == 4) ((idxO b f).bind fun g=>(some g)) ((idxO c 0).bind fun q_=>match q_ with | .mk h i j l m=>((F.f15 (DExpr.mk h i j l m) b).bind fun d=>(cond ((c.length:Int) == 2) ((idxO c 1).bind fun q_=>match q_ with | .mk n o p q r=>((F.f15 (DExpr.mk n o p q r) b).bind fun s=>(f15_j1 k F a d s))) (f15_j1 k F a d d))))))))
def fam15 (k0:Nat):Nat→Fam15
 | 0=>{ f15:=fun _ _=>none }
 | k + 1=>{ f15:=f15_b k0 (fam15 k0 k) }
def f15 (k:Nat):DExpr→(List Int)→Option Int:=(fam15 k k).f15
def f124_l1 (k:Nat)  : LC→Nat→(List LS)→Option (List LS)
 | [],b,a=>(some a)
 | (.mk e f g h c) :: d,b,a=>(guardB (decide ((a.length + 1) * 24 ≤ 140737488355328)) ((f124_l1 k d) (b + 1) (a ++ [c])))
def f124_b (k:Nat):DStmt→Option (List LS):=fun a =>
 match a with
 | .mk f g h i j l m b c d e=>(f124_l1 k e 0 [b,c,d])
def f124 (k:Nat):DStmt→Option (List LS):=f124_b k
structure Fam92 where
 f92:LS→Option Bool
 f122:DStmt→Option Bool
 f1006489:LS→Option Bool
 f1009189:LS→Option Int
 f1012326:(List LS)→Option Bool
 f1014826:(List LS)→Option Int
def f92_b (k:Nat) (F:Fam92):LS→Option Bool:=fun a=>((F.f1006489 a).bind fun b=>(some b))
def f122_j2 (k:Nat) (F:Fam92) (a:Bool):Option Bool:=(some a)
def f122_j1 (k:Nat) (F:Fam92) (a:Int) (c:BA) (d:Int) (e:BA) (f:Int) (b:Int) (g:LE) (h:LS) (i:LS) (j:LS) (l:LC) (m:Bool):Option Bool:=(cond m (some false) (cond (a == 18) (f122_j2 k F true) (cond (a == 6) (cond (b == 1) (f122_j2 k F true) ((f124 k (DStmt.mk a c d e f b g h i j l)).bind fun n=>((F.f1012326 n).bind fun o=>(f122_j2 k F o)))) ((f124 k (DStmt.mk a c d e f b g h i j l)).bind fun p=>((F.f1012326 p).bind fun q=>(f122_j2 k F q))))))
def f122_b (k:Nat) (F:Fam92):DStmt→Option Bool:=fun m =>
 match m with
 | .mk a b c d e f g h i j l=>(cond (a == 21) (f122_j1 k F a b c d e f g h i j l true) (f122_j1 k F a b c d e f g h i j l (a == 28)))
def f1006489_b (k:Nat) (F:Fam92):LS→Option Bool:=fun a=>((F.f1009189 a).bind fun b=>(some (decide (b ≥ 0))))
def f1009189_l1 (k:Nat) (F:Fam92)  : LS→Nat→Option Int
 | [],a=>(some (-1))
 | (.mk b c d e f g h i j l m) :: n,a=>((F.f122 (DStmt.mk b c d e f g h i j l m)).bind fun o=>(cond o (some (a:Int)) ((f1009189_l1 k F n) (a + 1))))
def f1009189_b (k:Nat) (F:Fam92):LS→Option Int:=fun a=>(f1009189_l1 k F a 0)
def f1012326_b (k:Nat) (F:Fam92):(List LS)→Option Bool:=fun a=>((F.f1014826 a).bind fun b=>(some (decide (b ≥ 0))))
def f1014826_l1 (k:Nat) (F:Fam92)  : List LS→Nat→Option Int
 | [],a=>(some (-1))
 | b :: c,a=>((F.f92 b).bind fun d=>(cond d (some (a:Int)) ((f1014826_l1 k F c) (a + 1))))
def f1014826_b (k:Nat) (F:Fam92):(List LS)→Option Int:=fun a=>(f1014826_l1 k F a 0)
def fam92 (k0:Nat):Nat→Fam92
 | 0=>{ f92:=fun _=>none,f122:=fun _=>none,f1006489:=fun _=>none,f1009189:=fun _=>none,f1012326:=fun _=>none,f1014826:=fun _=>none }
 | k + 1=>{ f92:=f92_b k0 (fam92 k0 k),f122:=f122_b k0 (fam92 k0 k),f1006489:=f1006489_b k0 (fam92 k0 k),f1009189:=f1009189_b k0 (fam92 k0 k),f1012326:=f1012326_b k0 (fam92 k0 k),f1014826:=f1014826_b k0 (fam92 k0 k) }
def f92 (k:Nat):LS→Option Bool:=(fam92 k k).f92
def f122 (k:Nat):DStmt→Option Bool:=(fam92 k k).f122
def f1006489 (k:Nat):LS→Option Bool:=(fam92 k k).f1006489
def f1009189 (k:Nat):LS→Option Int:=(fam92 k k).f1009189
def f1012326 (k:Nat):(List LS)→Option Bool:=(fam92 k k).f1012326
def f1014826 (k:Nat):(List LS)→Option Int:=(fam92 k k).f1014826
structure Fam40 where
 f40:LS→Option Bool
 f65:DStmt→Option Bool
 f94:DCase→Option Bool
 f1006449:LS→Option Bool
 f1009149:LS→Option Int
 f1009388:LC→Option Bool
 f1012547:LC→Unit→Option Bool
 f1012626:DCase→Unit→Option Bool
 f1014947:LC→Unit→Option Int
def f40_b (k:Nat) (F:Fam40):LS→Option Bool:=fun a=>((F.f1006449 a).bind fun b=>(some b))
def f65_j2 (k:Nat) (F:Fam40) (a:Bool):Option Bool:=(some a)
def f65_j3 (k:Nat) (F:Fam40) (a:Bool):Option Bool:=(some a)
def f65_j5 (k:Nat) (F:Fam40) (a:Bool):Option Bool:=(some a)
def f65_j4 (k:Nat) (F:Fam40) (a:Int) (c:Int) (b:LS) (d:LS) (e:LS) (f:LC) (g:Bool):Option Bool:=(cond g ((F.f40 b).bind fun h=>(some h)) (cond (a == 24) ((F.f40 e).bind fun i=>(cond i (f65_j5 k F true) ((F.f40 b).bind fun j=>(cond j (cond ((IntKind.i64.wrap (BitVec.ofInt IntKind.i64.bits c &&& BitVec.ofInt IntKind.i64.bits 1).toNat) == 0) (f65_j5 k F true) ((F.f40 d).bind fun l=>(f65_j5 k F l))) (f65_j5 k F false))))) (cond (a == 27) ((F.f1009388 f).bind fun m=>(some m)) (some false))))
def f65_j1 (k:Nat) (F:Fam40) (a:Int) (c:Int) (g:LE) (b:LS) (d:LS) (e:LS) (f:LC) (h:Bool):Option Bool:=(cond h (some true) (cond (a == 20) (cond (c == 1) ((F.f40 b).bind fun i=>(cond i ((F.f40 d).bind fun j=>(f65_j2 k F j)) (f65_j2 k F false))) (f65_j2 k F false)) (cond (a == 21) ((idxO g 0).bind fun q_=>match q_ with | .mk l m o p q=>(cond (l == 2) (cond (m == 1) ((f92 k b).bind fun n=>(f65_j3 k F (!n))) (f65_j3 k F false)) (f65_j3 k F false))) (cond (a == 23) (f65_j4 k F a c b d e f (a == 23)) (cond (a == 25) (f65_j4 k F a c b d e f (a == 25)) (f65_j4 k F a c b d e f (a == 26)))))))
def f65_b (k:Nat) (F:Fam40):DStmt→Option Bool:=fun h =>
 match h with
 | .mk a i j l m b c d e f g=>(cond (a == 17) (f65_j1 k F a b c d e f g (a == 17)) (cond (a == 15) (f65_j1 k F a b c d e f g (a == 15)) (cond (a == 18) (f65_j1 k F a b c d e f g (a == 18)) (f65_j1 k F a b c d e f g (a == 19)))))
def f94_b (k:Nat) (F:Fam40):DCase→Option Bool:=fun a =>
 match a with
 | .mk d e f g b=>((F.f40 b).bind fun c=>(some c))
def f1006449_b (k:Nat) (F:Fam40):LS→Option Bool:=fun a=>((F.f1009149 a).bind fun b=>(some (decide (b ≥ 0))))
def f1009149_l1 (k:Nat) (F:Fam40)  : LS→Nat→Option Int
 | [],a=>(some (-1))
 | (.mk b c d e f g h i j l m) :: n,a=>((F.f65 (DStmt.mk b c d e f g h i j l m)).bind fun o=>(cond o (some (a:Int)) ((f1009149_l1 k F n) (a + 1))))
def f1009149_b (k:Nat) (F:Fam40):LS→Option Int:=fun a=>(f1009149_l1 k F a 0)
def f1009388_b (k:Nat) (F:Fam40):LC→Option Bool:=fun a=>((F.f1012547 a ()).bind fun b=>(some (!b)))
def f1012547_b (k:Nat) (F:Fam40):LC→Unit→Option Bool:=fun a _=>((F.f1014947 a ()).bind fun b=>(some (decide (b ≥ 0))))
def f1012626_b (k:Nat) (F:Fam40):DCase→Unit→Option Bool:=fun a b =>
 match a,b with
 | .mk c d e f g,_=>((F.f94 (DCase.mk c d e f g)).bind fun h=>(some (!h)))
def f1014947_l1 (k:Nat) (F:Fam40)  : LC→Nat→Option Int
 | [],a=>(some (-1))
 | (.mk b c d e f) :: g,a=>((F.f1012626 (DCase.mk b c d e f) ()).bind fun h=>(cond h (some (a:Int)) ((f1014947_l1 k F g) (a + 1))))
def f1014947_b (k:Nat) (F:Fam40):LC→Unit→Option Int:=fun a _=>(f1014947_l1 k F a 0)
def fam40 (k0:Nat):Nat→Fam40
 | 0=>{ f40:=fun _=>none,f65:=fun _=>none,f94:=fun _=>none,f1006449:=fun _=>none,f1009149:=fun _=>none,f1009388:=fun _=>none,f1012547:=fun _ _=>none,f1012626:=fun _ _=>none,f1014947:=fun _ _=>none }
 | k + 1=>{ f40:=f40_b k0 (fam40 k0 k),f65:=f65_b k0 (fam40 k0 k),f94:=f94_b k0 (fam40 k0 k),f1006449:=f1006449_b k0 (fam40 k0 k),f1009149:=f1009149_b k0 (fam40 k0 k),f1009388:=f1009388_b k0 (fam40 k0 k),f1012547:=f1012547_b k0 (fam40 k0 k),f1012626:=f1012626_b k0 (fam40 k0 k),f1014947:=f1014947_b k0 (fam40 k0 k) }
def f40 (k:Nat):LS→Option Bool:=(fam40 k k).f40
def f65 (k:Nat):DStmt→Option Bool:=(fam40 k k).f65
def f94 (k:Nat):DCase→Option Bool:=(fam40 k k).f94
def f1006449 (k:Nat):LS→Option Bool:=(fam40 k k).f1006449
def f1009149 (k:Nat):LS→Option Int:=(fam40 k k).f1009149
def f1009388 (k:Nat):LC→Option Bool:=(fam40 k k).f1009388
def f1012547 (k:Nat):LC→Unit→Option Bool:=(fam40 k k).f1012547
def f1012626 (k:Nat):DCase→Unit→Option Bool:=(fam40 k k).f1012626
def f1014947 (k:Nat):LC→Unit→Option Int:=(fam40 k k).f1014947
def f42_l1 (k:Nat)  : LP→Nat→(List Int)→Option (List Int)
 | [],b,a=>(some a)
 | (.mk e c) :: d,b,a=>(guardB (decide ((a.length + 1) * 8 ≤ 140737488355328)) ((f42_l1 k d) (b + 1) (a ++ [c])))
def f42_b (k:Nat):DFunc→Option (List Int):=fun a =>
 match a with
 | .mk c b d e f g=>(f42_l1 k b 0 ([]:List Int))
def f42 (k:Nat):DFunc→Option (List Int):=f42_b k
def f129 (k:Nat):LP→Option LP:=fun a=>guardB (decide (a.length * 24 ≤ 140737488355328)) (some a)
def f157_b (k:Nat):DExpr→Option Int:=fun a =>
 match a with
 | .mk b c d e f=>(some 0)
def f157 (k:Nat):DExpr→Option Int:=f157_b k
structure Fam1015923 where
 f1015923:LE→Option LE
 f1017823:DExpr→Option DExpr
def f1015923_l1 (k:Nat) (F:Fam1015923)  : LE→Nat→LE→Option LE
 | [],b,a=>(some a)
 | (.mk c d e f g) :: h,b,a=>((F.f1017823 (DExpr.mk c d e f g)).bind fun q_=>match q_ with | .mk i j l m n=>(guardB (decide ((a.length + 1) * 64 ≤ 140737488355328)) ((f1015923_l1 k F h) (b + 1) (a ++ [(DExpr.mk i j l m n)]))))
def f1015923_b (k:Nat) (F:Fam1015923):LE→Option LE:=fun a=>(f1015923_l1 k F a 0 ([]:LE))
def f1017823_b (k:Nat) (F:Fam1015923):DExpr→Option DExpr:=fun e =>
 match e with
 | .mk a b c f g=>((F.f1015923 g).bind fun d=>((f157 k (DExpr.mk a b c f d)).bind fun h=>(some (DExpr.mk a b c h d))))
def fam1015923 (k0:Nat):Nat→Fam1015923
 | 0=>{ f1015923:=fun _=>none,f1017823:=fun _=>none }
 | k + 1=>{ f1015923:=f1015923_b k0 (fam1015923 k0 k),f1017823:=f1017823_b k0 (fam1015923 k0 k) }
def f1015923 (k:Nat):LE→Option LE:=(fam1015923 k k).f1015923
def f1017823 (k:Nat):DExpr→Option DExpr:=(fam1015923 k k).f1017823
def f158_b (k:Nat):DExpr→Option Int:=fun a =>
 match a with
 | .mk c d e b f=>(some b)
def f158 (k:Nat):DExpr→Option Int:=f158_b k
structure Fam1015954 where
 f1015954:LE→Option LE
 f1017854:DExpr→Option DExpr
def f1015954_l1 (k:Nat) (F:Fam1015954)  : LE→Nat→LE→Option LE
 | [],b,a=>(some a)
 | (.mk c d e f g) :: h,b,a=>((F.f1017854 (DExpr.mk c d e f g)).bind fun q_=>match q_ with | .mk i j l m n=>(guardB (decide ((a.length + 1) * 64 ≤ 140737488355328)) ((f1015954_l1 k F h) (b + 1) (a ++ [(DExpr.mk i j l m n)]))))
def f1015954_b (k:Nat) (F:Fam1015954):LE→Option LE:=fun a=>(f1015954_l1 k F a 0 ([]:LE))
def f1017854_b (k:Nat) (F:Fam1015954):DExpr→Option DExpr:=fun e =>
 match e with
 | .mk a b c f g=>((F.f1015954 g).bind fun d=>((f158 k (DExpr.mk a b c f d)).bind fun h=>(some (DExpr.mk a b c h d))))
def fam1015954 (k0:Nat):Nat→Fam1015954
 | 0=>{ f1015954:=fun _=>none,f1017854:=fun _=>none }
 | k + 1=>{ f1015954:=f1015954_b k0 (fam1015954 k0 k),f1017854:=f1017854_b k0 (fam1015954 k0 k) }
def f1015954 (k:Nat):LE→Option LE:=(fam1015954 k k).f1015954
def f1017854 (k:Nat):DExpr→Option DExpr:=(fam1015954 k k).f1017854
structure Fam130 where
 f130:LS→Bool→Option LS
def f130_j2 (k:Nat) (F:Fam130) (b:Bool) (a:LC) (c:Nat) (d:Int) (e:BA) (f:LE) (g:LS) (h:Int) (nx2:Nat→LC→Option LS):Option LS:=((f1015954 k f).bind fun i=>((F.f130 g b).bind fun j=>(guardB (decide ((a.length + 1) * 80 ≤ 140737488355328)) (nx2 (c + 1) (a ++ [(DCase.mk d e h i j)])))))
def f130_l2 (k:Nat) (F:Fam130) (a:Bool) (b:LS) (d:Nat) (e:Int) (f:BA) (g:BA) (h:Int) (i:Int) (j:Int) (l:LE) (m:LS) (n:LS) (o:LS) (nx1:Nat→LS→Option LS):LC→Nat→LC→Option LS
 | [],p,c=>(guardB (decide ((b.length + 1) * 184 ≤ 140737488355328)) (nx1 (d + 1) (b ++ [(DStmt.mk e f i g j h l m n o c)])))
 | (.mk q r v s t) :: u,p,c=>(cond (!a) (f130_j2 k F a c p q r s t 0 (f130_l2 k F a b d e f g h i j l m n o nx1 u)) (f130_j2 k F a c p q r s t v (f130_l2 k F a b d e f g h i j l m n o nx1 u)))
def f130_j1 (k:Nat) (F:Fam130) (a:Bool) (b:LS) (c:Nat) (d:Int) (e:BA) (f:BA) (g:Int) (h:LE) (i:LS) (j:LS) (l:LS) (m:LC) (n:Int) (o:Int) (nx1:Nat→LS→Option LS):Option LS:=((f1015954 k h).bind fun p=>((F.f130 i a).bind fun q=>((F.f130 j a).bind fun r=>((F.f130 l a).bind fun s=>(f130_l2 k F a b c d e f g n o p q r s nx1 m 0 ([]:LC))))))
def f130_l1 (k:Nat) (F:Fam130) (a:Bool):LS→Nat→LS→Option LS
 | [],c,b=>(some b)
 | (.mk d e o f p g h i j l m) :: n,c,b=>(cond (!a) (f130_j1 k F a b c d e f g h i j l m 0 0 (f130_l1 k F a n)) (f130_j1 k F a b c d e f g h i j l m o p (f130_l1 k F a n)))
def f130_j4 (k:Nat) (F:Fam130) (b:Bool) (a:LC) (c:Nat) (d:Int) (e:BA) (f:LE) (g:LS) (h:Int) (nx4:Nat→LC→Option LS):Option LS:=((f1015923 k f).bind fun i=>((F.f130 g b).bind fun j=>(guardB (decide ((a.length + 1) * 80 ≤ 140737488355328)) (nx4 (c + 1) (a ++ [(DCase.mk d e h i j)])))))
def f130_l4 (k:Nat) (F:Fam130) (a:Bool) (b:LS) (d:Nat) (e:Int) (f:BA) (g:BA) (h:Int) (i:Int) (j:Int) (l:LE) (m:LS) (n:LS) (o:LS) (nx3:Nat→LS→Option LS):LC→Nat→LC→Option LS
 | [],p,c=>(guardB (decide ((b.length + 1) * 184 ≤ 140737488355328)) (nx3 (d + 1) (b ++ [(DStmt.mk e f i g j h l m n o c)])))
 | (.mk q r v s t) :: u,p,c=>(cond (!a) (f130_j4 k F a c p q r s t 0 (f130_l4 k F a b d e f g h i j l m n o nx3 u)) (f130_j4 k F a c p q r s t v (f130_l4 k F a b d e f g h i j l m n o nx3 u)))
def f130_j3 (k:Nat) (F:Fam130) (a:Bool) (b:LS) (c:Nat) (d:Int) (e:BA) (f:BA) (g:Int) (h:LE) (i:LS) (j:LS) (l:LS) (m:LC) (n:Int) (o:Int) (nx3:Nat→LS→Option LS):Option LS:=((f1015923 k h).bind fun p=>((F.f130 i a).bind fun q=>((F.f130 j a).bind fun r=>((F.f130 l a).bind fun s=>(f130_l4 k F a b c d e f g n o p q r s nx3 m 0 ([]:LC))))))
def f130_l3 (k:Nat) (F:Fam130) (a:Bool):LS→Nat→LS→Option LS
 | [],c,b=>(some b)
 | (.mk d e o f p g h i j l m) :: n,c,b=>(cond (!a) (f130_j3 k F a b c d e f g h i j l m 0 0 (f130_l3 k F a n)) (f130_j3 k F a b c d e f g h i j l m o p (f130_l3 k F a n)))
def f130_b (k:Nat) (F:Fam130):LS→Bool→Option LS:=fun b a=>(cond a (f130_l1 k F a b 0 ([]:LS)) (f130_l3 k F a b 0 ([]:LS)))
def fam130 (k0:Nat):Nat→Fam130
 | 0=>{ f130:=fun _ _=>none }
 | k + 1=>{ f130:=f130_b k0 (fam130 k0 k) }
def f130 (k:Nat):LS→Bool→Option LS:=(fam130 k k).f130
def f100_j1 (k:Nat) (b:Bool) (a:LF) (c:Nat) (d:BA) (e:LP) (f:Int) (g:Bool) (h:LS) (i:Int) (nx1:Nat→LF→Option DProgram):Option DProgram:=((f129 k e).bind fun j=>((f130 k h b).bind fun l=>(guardB (decide ((a.length + 1) * 88 ≤ 140737488355328)) (nx1 (c + 1) (a ++ [(DFunc.mk d j f g i l)])))))
def f100_l1 (k:Nat) (a:Bool):LF→Nat→LF→Option DProgram
 | [],c,b=>(some (DProgram.mk b))
 | (.mk d e f g j h) :: i,c,b=>(cond (!a) (f100_j1 k a b c d e f g h 0 (f100_l1 k a i)) (f100_j1 k a b c d e f g h j (f100_l1 k a i)))
def f100_b (k:Nat):DProgram→Bool→Option DProgram:=fun b a =>
 match b,a with
 | .mk c,a=>(f100_l1 k a c 0 ([]:LF))
def f100 (k:Nat):DProgram→Bool→Option DProgram:=f100_b k
def f98_b (k:Nat):Bool→Int→Option (Except Int Unit):=fun a b=>(cond (!a) (some (.error b)) (some (.ok ())))
def f98 (k:Nat):Bool→Int→Option (Except Int Unit):=f98_b k
def f189_b (k:Nat):Option (List (Int × Dshape)):=(some (mput qI 29 (Dshape.mk 0 false 1 1 false) (mput qI 28 (Dshape.mk 1 true 0 601 true) (mput qI 27 (Dshape.mk 0 false 0 0 false) (mput qI 26 (Dshape.mk 0 false 1 1 true) (mput qI 25 (Dshape.mk 1 false 1 1 true) (mput qI 24 (Dshape.mk 2 false 0 0 true) (mput qI 23 (Dshape.mk 0 false 0 0 true) (mput qI 22 (Dshape.mk 0 false 0 1 true) (mput qI 21 (Dshape.mk 0 false 1 1 true) (mput qI 20 (Dshape.mk 0 false 1 1 true) (mput qI 19 (Dshape.mk 0 false 0 0 false) (mput qI 18 (Dshape.mk 0 false 0 0 false) (mput qI 17 (Dshape.mk 0 false 0 1 false) (mput qI 16 (Dshape.mk 0 false 1 1 false) (mput qI 15 (Dshape.mk 0 false 1 1 false) (mput qI 14 (Dshape.mk 0 false 1 1 false) (mput qI 13 (Dshape.mk 0 false 0 0 false) (mput qI 12 (Dshape.mk 0 false 1 1 false) (mput qI 11 (Dshape.mk 0 false 1 1 false) (mput qI 10 (Dshape.mk 0 false 2 2 false) (mput qI 9 (Dshape.mk 1 false 0 0 false) (mput qI 8 (Dshape.mk 1 false 1 1 false) (mput qI 7 (Dshape.mk 1 false 1 1 false) (mput qI 6 (Dshape.mk 2 false 1 1 false) (mput qI 5 (Dshape.mk 2 false 1 1 false) (mput qI 4 (Dshape.mk 2 true 0 601 false) (mput qI 3 (Dshape.mk 2 true 0 601 false) (mput qI 2 (Dshape.mk 1 false 1 1 false) (mput qI 1 (Dshape.mk 1 false 1 1 false) ([]:List (Int × Dshape))))))))))))))))))))))))))))))))
def f189 (k:Nat):Option (List (Int × Dshape)):=f189_b k
def f190_j2 (k:Nat) (a:Bool):Option Bool:=(some a)
def f190_j1 (k:Nat) (c:LS) (a:LS) (d:Bool) (b:Bool) (e:Bool):Option Bool:=(cond e (cond d (cond b (f190_j2 k true) (f190_j2 k ((a.length:Int) == 0))) (cond ((c.length:Int) == 0) (cond b (f190_j2 k true) (f190_j2 k ((a.length:Int) == 0))) (f190_j2 k false))) (f190_j2 k false))
def f190_j3 (k:Nat) (a:Int) (b:LS) (c:LS) (d:Bool):Option Bool:=(f190_j1 k b c ((IntKind.i64.wrap (BitVec.ofInt IntKind.i64.bits a &&& BitVec.ofInt IntKind.i64.bits 1).toNat) == 1) ((IntKind.i64.wrap (BitVec.ofInt IntKind.i64.bits a &&& BitVec.ofInt IntKind.i64.bits 2).toNat) == 2) d)
def f190_b (k:Nat):DStmt→Option Bool:=fun f =>
 match f with
 | .mk d e n o p a q r b c s=>(cond (d == 6) ((f77 k a 0 1).bind fun g=>(cond g (cond (a == 0) (f190_j1 k b c false false true) (f190_j1 k b c false false (!seq e ⟨#[]⟩))) (f190_j1 k b c false false false))) (cond (d == 7) ((f77 k a 0 2).bind fun h=>(f190_j1 k b c false false h)) (cond (d == 22) ((f77 k a 0 1).bind fun i=>(f190_j1 k b c false false i)) (cond (d == 20) ((f77 k a 0 1).bind fun j=>(f190_j1 k b c (a == 1) false j)) (cond (d == 24) ((f77 k a 1 3).bind fun l=>(cond l (f190_j3 k a b c ((!seq e ⟨#[]⟩) == ((IntKind.i64.wrap (BitVec.ofInt IntKind.i64.bits a &&& BitVec.ofInt IntKind.i64.bits 1).toNat) == 1))) (f190_j3 k a b c false))) (cond (d == 28) ((f77 k a 0 66).bind fun m=>(cond m (f190_j1 k b c false false (decide ((a.tmod 4) < 3))) (f190_j1 k b c false false false))) (f190_j1 k b c false false (a == 0))))))))
def f190 (k:Nat):DStmt→Option Bool:=f190_b k
structure Fam156 where
 f156:Dcounter→LS→Int→Option (Dcounter × Bool)
 f177:Dcounter→DStmt→Int→Option (Dcounter × Bool)
 f191:Dcounter→DCase→Int→Option (Dcounter × Bool)
def f156_l1 (k:Nat) (F:Fam156) (d:Int):LS→Nat→Int→Int→Bool→Option (Dcounter × Bool)
 | [],e,a,b,c=>(some ((Dcounter.mk a b c),true))
 | (.mk i j l m n o p q r s t) :: u,e,a,b,c=>((F.f177 (Dcounter.mk a b c) (DStmt.mk i j l m n o p q r s t) d).bind fun q_=>match q_ with | (.mk f g h,v)=>(cond (!v) (some ((Dcounter.mk f g h),false)) ((f156_l1 k F d u) (e + 1) f g h)))
def f156_b (k:Nat) (F:Fam156):Dcounter→LS→Int→Option (Dcounter × Bool):=fun c a b =>
 match c,a,b with
 | .mk d e f,a,b=>(f156_l1 k F b a 0 d e f)
def f177_j5 (k:Nat) (F:Fam156) (a:Bool) (b:Int) (c:Int) (d:Bool):Option (Dcounter × Bool):=(some ((Dcounter.mk b c d),a))
def f177_j6 (k:Nat) (F:Fam156) (d:Nat) (a:Int) (b:Int) (c:Bool) (e:Bool) (nx1:Nat→Int→Int→Bool→Option (Dcounter × Bool)):Option (Dcounter × Bool):=(cond e (some ((Dcounter.mk a b c),false)) (nx1 (d + 1) a b c))
def f177_l1 (k:Nat) (F:Fam156) (f:LE) (g:LS) (h:LS) (i:LS) (j:LC) (a:Int):LC→Nat→Int→Int→Bool→Option (Dcounter × Bool)
 | [],b,c,d,e=>((f80 k (Dcounter.mk c d e) f (w64 (a + 1))).bind fun q_=>match q_ with | (.mk n o p,A)=>(cond A ((F.f156 (Dcounter.mk n o p) g (w64 (a + 1))).bind fun q_=>match q_ with | (.mk q r s,B)=>(cond B ((F.f156 (Dcounter.mk q r s) h (w64 (a + 1))).bind fun q_=>match q_ with | (.mk t u v,C)=>(cond C ((F.f156 (Dcounter.mk t u v) i (w64 (a + 1))).bind fun q_=>match q_ with | (.mk D G I,J)=>(f177_j5 k F J D G I)) (f177_j5 k F false t u v))) (f177_j5 k F false q r s))) (f177_j5 k F false n o p)))
 | (.mk l w x y z) :: m,b,c,d,e=>(cond (l == 4) (cond (decide ((b:Int) < (w64 ((j.length:Int) - 1)))) (f177_j6 k F b c d e true (f177_l1 k F f g h i j a m)) ((F.f191 (Dcounter.mk c d e) (DCase.mk l w x y z) (w64 (a + 1))).bind fun q_=>match q_ with | (.mk N O S,U)=>(f177_j6 k F b N O S (!U) (f177_l1 k F f g h i j a m)))) ((F.f191 (Dcounter.mk c d e) (DCase.mk l w x y z) (w64 (a + 1))).bind fun q_=>match q_ with | (.mk V W X,Y)=>(f177_j6 k F b V W X (!Y) (f177_l1 k F f g h i j a m))))
def f177_j4 (k:Nat) (F:Fam156) (e:LE) (f:LS) (g:LS) (h:LS) (a:LC) (i:Int) (b:Int) (c:Int) (d:Bool) (j:Bool):Option (Dcounter × Bool):=(cond j (some ((Dcounter.mk b c d),false)) (f177_l1 k F e f g h a i a 0 b c d))
def f177_j3 (k:Nat) (F:Fam156) (j:Int) (b:LE) (c:LS) (g:LS) (h:LS) (a:LC) (i:Int) (l:Int) (m:Int) (n:Bool) (d:Int) (e:Int) (f:Bool) (o:Bool):Option (Dcounter × Bool):=(cond o (some ((Dcounter.mk d e f),false)) ((f77 k (b.length:Int) l m).bind fun p=>(cond (!p) (f177_j4 k F b c g h a i d e f true) (cond (!n) (cond (decide ((c.length:Int) > 0)) (f177_j4 k F b c g h a i d e f true) (cond (j != 27) (cond (decide ((a.length:Int) > 0)) (f177_j4 k F b c g h a i d e f true) (cond (j == 27) ((f77 k (a.length:Int) 1 4).bind fun q=>(f177_j4 k F b c g h a i d e f (!q))) (f177_j4 k F b c g h a i d e f false))) (cond (j == 27) ((f77 k (a.length:Int) 1 4).bind fun r=>(f177_j4 k F b c g h a i d e f (!r))) (f177_j4 k F b c g h a i d e f false)))) (cond (j != 27) (cond (decide ((a.length:Int) > 0)) (f177_j4 k F b c g h a i d e f true) (cond (j == 27) ((f77 k (a.length:Int) 1 4).bind fun s=>(f177_j4 k F b c g h a i d e f (!s))) (f177_j4 k F b c g h a i d e f false))) (cond (j == 27) ((f77 k (a.length:Int) 1 4).bind fun t=>(f177_j4 k F b c g h a i d e f (!t))) (f177_j4 k F b c g h a i d e f false)))))))
def f177_j2 (k:Nat) (F:Fam156) (d:Int) (q:BA) (o:BA) (e:LE) (f:LS) (g:LS) (h:LS) (i:LC) (j:Int) (r:Int) (p:Bool) (l:Int) (m:Int) (n:Bool) (a:Int) (b:Int) (c:Bool) (s:Bool):Option (Dcounter × Bool):=(cond s (some ((Dcounter.mk a b c),false)) (cond (!seq q ⟨#[]⟩) (cond (r == 0) (f177_j3 k F d e f g h i j l m n a b c true) ((f79 k q).bind fun t=>(cond (!t) (f177_j3 k F d e f g h i j l m n a b c true) (cond (!(!seq q ⟨#[]⟩)) (cond (r == 1) (f177_j3 k F d e f g h i j l m n a b c true) (cond (!((!seq o ⟨#[]⟩) == p)) (f177_j3 k F d e f g h i j l m n a b c true) (cond p ((f79 k o).bind fun u=>(f177_j3 k F d e f g h i j l m n a b c (!u))) (f177_j3 k F d e f g h i j l m n a b c false)))) (cond (!((!seq o ⟨#[]⟩) == p)) (f177_j3 k F d e f g h i j l m n a b c true) (cond p ((f79 k o).bind fun v=>(f177_j3 k F d e f g h i j l m n a b c (!v))) (f177_j3 k F d e f g h i j l m n a b c false))))))) (cond (!(!seq q ⟨#[]⟩)) (cond (r == 1) (f177_j3 k F d e f g h i j l m n a b c true) (cond (!((!seq o ⟨#[]⟩) == p)) (f177_j3 k F d e f g h i j l m n a b c true) (cond p ((f79 k o).bind fun w=>(f177_j3 k F d e f g h i j l m n a b c (!w))) (f177_j3 k F d e f g h i j l m n a b c false)))) (cond (!((!seq o ⟨#[]⟩) == p)) (f177_j3 k F d e f g h i j l m n a b c true) (cond p ((f79 k o).bind fun x=>(f177_j3 k F d e f g h i j l m n a b c (!x))) (f177_j3 k F d e f g h i j l m n a b c false))))))
def f177_j1 (k:Nat) (F:Fam156) (v:Int) (w:Int) (x:Bool) (a:Int) (b:BA) (s:Int) (c:BA) (t:Int) (u:Int) (d:LE) (e:LS) (f:LS) (g:LS) (h:LC) (i:Int) (l:Int) (m:Bool) (n:Int) (o:Int) (p:Bool) (y:Bool):Option (Dcounter × Bool):=(cond (!y) (f177_j2 k F a b c d e f g h i l m n o p v w x true) ((f76 k (Dcounter.mk v w x) i).bind fun q_=>match q_ with | (.mk q r j,z)=>(cond (!z) (f177_j2 k F a b c d e f g h i l m n o p q r j true) (cond (s != 0) (cond (!j) (f177_j2 k F a b c d e f g h i l m n o p q r j true) ((f190 k (DStmt.mk a b s c t u d e f g h)).bind fun A=>(f177_j2 k F a b c d e f g h i l m n o p q r j (!A)))) (cond (t != 0) (cond (!j) (f177_j2 k F a b c d e f g h i l m n o p q r j true) ((f190 k (DStmt.mk a b s c t u d e f g h)).bind fun B=>(f177_j2 k F a b c d e f g h i l m n o p q r j (!B)))) ((f190 k (DStmt.mk a b s c t u d e f g h)).bind fun C=>(f177_j2 k F a b c d e f g h i l m n o p q r j (!C))))))))
def f177_b (k:Nat) (F:Fam156):Dcounter→DStmt→Int→Option (Dcounter × Bool):=fun q r a =>
 match q,r,a with
 | .mk c d e,.mk b f g h i j l m n o p,a=>((f189 k ).bind fun s=>(mcase (mget qI b s) (f177_j1 k F c d e b f g h i j l m n o p a 0 false 0 0 false false) (fun q_=>match q_ with | .mk t u v w x=>(f177_j1 k F c d e b f g h i j l m n o p a t u v w x true))))
def f191_j2 (k:Nat) (F:Fam156) (a:Bool) (b:Int) (c:Int) (d:Bool):Option (Dcounter × Bool):=(some ((Dcounter.mk b c d),a))
def f191_j1 (k:Nat) (F:Fam156) (h:LE) (i:LS) (a:Int) (b:Int) (c:Int) (d:Bool) (j:Bool):Option (Dcounter × Bool):=(cond j (some ((Dcounter.mk b c d),false)) ((f80 k (Dcounter.mk b c d) h (w64 (a + 1))).bind fun q_=>match q_ with | (.mk e f g,l)=>(cond l ((F.f156 (Dcounter.mk e f g) i (w64 (a + 1))).bind fun q_=>match q_ with | (.mk m n o,p)=>(f191_j2 k F p m n o)) (f191_j2 k F false e f g))))
def f191_b (k:Nat) (F:Fam156):Dcounter→DCase→Int→Option (Dcounter × Bool):=fun n o a =>
 match n,o,a with
 | .mk i j l,.mk h g p b d,a=>(mcase (mget qI h (mput qI 4 0 (mput qI 3 1 (mput qI 2 2 (mput qI 1 1 ([]:List (Int × Int))))))) (some ((Dcounter.mk i j l),false)) (fun m=>((f76 k (Dcounter.mk i j l) a).bind fun q_=>match q_ with | (.mk e f c,q)=>(cond (!q) (f191_j1 k F b d a e f c true) (cond (p != 0) (cond (!c) (f191_j1 k F b d a e f c true) (cond ((b.length:Int) != m) (f191_j1 k F b d a e f c true) (cond (!((!seq g ⟨#[]⟩) == (h == 1))) (f191_j1 k F b d a e f c true) (cond (!seq g ⟨#[]⟩) ((f79 k g).bind fun r=>(f191_j1 k F b d a e f c (!r))) (f191_j1 k F b d a e f c false))))) (cond ((b.length:Int) != m) (f191_j1 k F b d a e f c true) (cond (!((!seq g ⟨#[]⟩) == (h == 1))) (f191_j1 k F b d a e f c true) (cond (!seq g ⟨#[]⟩) ((f79 k g).bind fun s=>(f191_j1 k F b d a e f c (!s))) (f191_j1 k F b d a e f c false)))))))))
def fam156 (k0:Nat):Nat→Fam156
 | 0=>{ f156:=fun _ _ _=>none,f177:=fun _ _ _=>none,f191:=fun _ _ _=>none }
 | k + 1=>{ f156:=f156_b k0 (fam156 k0 k),f177:=f177_b k0 (fam156 k0 k),f191:=f191_b k0 (fam156 k0 k) }
def f156 (k:Nat):Dcounter→LS→Int→Option (Dcounter × Bool):=(fam156 k k).f156
def f177 (k:Nat):Dcounter→DStmt→Int→Option (Dcounter × Bool):=(fam156 k k).f177
def f191 (k:Nat):Dcounter→DCase→Int→Option (Dcounter × Bool):=(fam156 k k).f191
def f128_j2 (k:Nat) (a:Int) (b:Int) (c:Bool) (d:Nat) (e:Bool) (nx2:Nat→Option (Dcounter × Bool)):Option (Dcounter × Bool):=(cond e (some ((Dcounter.mk a b c),false)) (nx2 (d + 1)))
def f128_l2 (k:Nat) (d:Nat) (e:LS) (a:Int) (b:Int) (c:Bool) (nx1:Nat→Int→Int→Bool→Option (Dcounter × Bool)):LP→Nat→Option (Dcounter × Bool)
 | [],f=>((f156 k (Dcounter.mk a b c) e 1).bind fun q_=>match q_ with | (.mk g h i,l)=>(cond (!l) (some ((Dcounter.mk g h i),false)) (nx1 (d + 1) g h i)))
 | (.mk m n) :: j,f=>((f79 k m).bind fun o=>(cond (!o) (f128_j2 k a b c f true (f128_l2 k d e a b c nx1 j)) ((f77 k n 1 6).bind fun p=>(f128_j2 k a b c f (!p) (f128_l2 k d e a b c nx1 j)))))
def f128_j1 (k:Nat) (d:Nat) (e:LP) (f:LS) (a:Int) (b:Int) (c:Bool) (g:Bool) (nx1:Nat→Int→Int→Bool→Option (Dcounter × Bool)):Option (Dcounter × Bool):=(cond g (some ((Dcounter.mk a b c),false)) (f128_l2 k d f a b c nx1 e 0))
def f128_l1 (k:Nat)  : LF→Nat→Int→Int→Bool→Option (Dcounter × Bool)
 | [],a,i,j,l=>(some ((Dcounter.mk i j l),true))
 | (.mk n b h m o d) :: e,a,i,j,l=>((f76 k (Dcounter.mk i j l) 0).bind fun q_=>match q_ with | (.mk f g c,p)=>(cond (!p) (f128_j1 k a b d f g c true (f128_l1 k e)) ((f79 k n).bind fun q=>(cond (!q) (f128_j1 k a b d f g c true (f128_l1 k e)) (cond (decide ((b.length:Int) > 4)) (f128_j1 k a b d f g c true (f128_l1 k e)) (cond (o != 0) (cond (!c) (f128_j1 k a b d f g c true (f128_l1 k e)) (cond m (cond (h != 0) (f128_j1 k a b d f g c true (f128_l1 k e)) ((f77 k h 0 6).bind fun r=>(f128_j1 k a b d f g c (!r) (f128_l1 k e)))) ((f77 k h 0 6).bind fun s=>(f128_j1 k a b d f g c (!s) (f128_l1 k e))))) (cond m (cond (h != 0) (f128_j1 k a b d f g c true (f128_l1 k e)) ((f77 k h 0 6).bind fun t=>(f128_j1 k a b d f g c (!t) (f128_l1 k e)))) ((f77 k h 0 6).bind fun u=>(f128_j1 k a b d f g c (!u) (f128_l1 k e))))))))))
def f128_b (k:Nat):Dcounter→DProgram→Option (Dcounter × Bool):=fun e f =>
 match e,f with
 | .mk a b c,.mk d=>((f77 k (d.length:Int) 1 16).bind fun g=>(cond (!g) (some ((Dcounter.mk a b c),false)) (f128_l1 k d 0 a b c)))
def f128 (k:Nat):Dcounter→DProgram→Option (Dcounter × Bool):=f128_b k
def f99_b (k:Nat):DProgram→Bool→Option Bool:=fun b a =>
 match b,a with
 | .mk c,a=>((f128 k (Dcounter.mk 0 0 a) (DProgram.mk c)).bind fun q_=>match q_ with | (.mk e f g,d)=>(some d))
def f99 (k:Nat):DProgram→Bool→Option Bool:=f99_b k
def f70_b (k:Nat):DProgram→Option (Except Int DProgram):=fun b =>
 match b with
 | .mk a=>((f99 k (DProgram.mk a) true).bind fun c=>((f98 k c 2).bind fun q_=>match q_ with | .error c_=>some (.error c_) | .ok _=>((f100 k (DProgram.mk a) false).bind fun q_=>match q_ with | .mk d=>(some (.ok (DProgram.mk d))))))
def f70 (k:Nat):DProgram→Option (Except Int DProgram):=f70_b k
def f1006904_b (k:Nat):DProgram→DProgram→Option (Except Int (DProgram × DProgram)):=fun b c =>
 match b,c with
 | .mk a,.mk sA_0=>((f70 k (DProgram.mk a)).bind fun q_=>match q_ with | .error c_=>some (.error c_) | .ok (.mk d)=>(some (.ok ((DProgram.mk a),(DProgram.mk d)))))
def f1006904 (k:Nat):DProgram→DProgram→Option (Except Int (DProgram × DProgram)):=f1006904_b k
def f1006835 (k:Nat):DProgram→DProgram→Option (DProgram × DProgram × Int):=fun a b=>match f1006904 k a b with
 | none=>none
 | some (.ok (y0,y1))=>some (y0,y1,0)
 | some (.error c)=>some (a,b,c)
def f46_b (k:Nat):DProgram→Option (DProgram × Int):=fun a =>
 match a with
 | .mk b=>((f1006835 k (DProgram.mk b) (DProgram.mk [])).bind fun q_=>match q_ with | (.mk e,.mk c,d)=>(some ((DProgram.mk c),d)))
def f46 (k:Nat):DProgram→Option (DProgram × Int):=f46_b k
def f1010390_b (k:Nat):DFunc→DFunc→Option Bool:=fun a b =>
 match a,b with
 | .mk c e f g h i,.mk d j l m n o=>(some (seq d c))
def f1010390 (k:Nat):DFunc→DFunc→Option Bool:=f1010390_b k
def f1013262_l1 (k:Nat) (b:BA) (c:LP) (d:Int) (e:Bool) (f:Int) (g:LS):LF→Nat→Option Int
 | [],a=>(some (-1))
 | (.mk h i j l m n) :: o,a=>((f1010390 k (DFunc.mk h i j l m n) (DFunc.mk b c d e f g)).bind fun p=>(cond p (some (a:Int)) ((f1013262_l1 k b c d e f g o) (a + 1))))
def f1013262_b (k:Nat):LF→DFunc→Option Int:=fun a b =>
 match a,b with
 | a,.mk c d e f g h=>(f1013262_l1 k c d e f g h a 0)
def f1013262 (k:Nat):LF→DFunc→Option Int:=f1013262_b k
def f1010262_b (k:Nat):LF→DFunc→Option Bool:=fun a b =>
 match a,b with
 | a,.mk c d e f g h=>((f1013262 k a (DFunc.mk c d e f g h)).bind fun i=>(some (decide (i ≥ 0))))
def f1010262 (k:Nat):LF→DFunc→Option Bool:=f1010262_b k
def f160_l1 (k:Nat) (a:BA):LM→Nat→Option (Int × Bool)
 | [],b=>(some (0,false))
 | c :: d,b=>(mcase (mget seq a c) ((f160_l1 k a d) (b + 1)) (fun e=>(some (e,true))))
def f160_b (k:Nat):Dresolver→BA→Option (Int × Bool):=fun b a =>
 match b,a with
 | .mk (.mk d) (.mk e f g h i j) l c m,a=>(f160_l1 k a c 0)
def f160 (k:Nat):Dresolver→BA→Option (Int × Bool):=f160_b k
def f133_b (k:Nat):Dresolver→BA→Option (Except Int (Dresolver × Int)):=fun m a =>
 match m,a with
 | .mk (.mk d) (.mk e f g h i j) b c l,a=>((f160 k (Dresolver.mk (DProgram.mk d) (DFunc.mk e f g h i j) b c l) a).bind fun q_=>match q_ with | (p,n)=>((f98 k (!n) 21).bind fun q_=>match q_ with | .error c_=>some (.error c_) | .ok _=>(guardB (decide ((b.length + 1) * 16 ≤ 140737488355328)) ((idxO c (w64 ((c.length:Int) - 1))).bind fun o=>(some (.ok ((Dresolver.mk (DProgram.mk d) (DFunc.mk e f g h i j) (b ++ [a]) (c.set (w64 ((c.length:Int) - 1)).toNat (mput seq a (b.length:Int) o)) l),(b.length:Int))))))))
def f133 (k:Nat):Dresolver→BA→Option (Except Int (Dresolver × Int)):=f133_b k
def f1017941_b (k:Nat):DExpr→Dresolver→Option (Except Int Int):=fun a b =>
 match a,b with
 | .mk c r d s t,.mk (.mk e) (.mk f g h i j l) m n o=>(cond (c != 4) (some (.ok 0)) ((f160 k (Dresolver.mk (DProgram.mk e) (DFunc.mk f g h i j l) m n o) d).bind fun q_=>match q_ with | (p,q)=>((f98 k q 20).bind fun q_=>match q_ with | .error c_=>some (.error c_) | .ok _=>(some (.ok p)))))
def f1017941 (k:Nat):DExpr→Dresolver→Option (Except Int Int):=f1017941_b k
structure Fam1015988 where
 f1015988:LE→Dresolver→Option (Except Int LE)
 f1017888:DExpr→Dresolver→Option (Except Int DExpr)
def f1015988_l1 (k:Nat) (F:Fam1015988) (b:LF) (c:BA) (d:LP) (e:Int) (f:Bool) (g:Int) (h:LS) (i:LB) (j:LM) (l:Int):LE→Nat→LE→Option (Except Int LE)
 | [],m,a=>(some (.ok a))
 | (.mk n o p q r) :: s,m,a=>((F.f1017888 (DExpr.mk n o p q r) (Dresolver.mk (DProgram.mk b) (DFunc.mk c d e f g h) i j l)).bind fun q_=>match q_ with | .error c_=>some (.error c_) | .ok (.mk t u v w x)=>(guardB (decide ((a.length + 1) * 64 ≤ 140737488355328)) ((f1015988_l1 k F b c d e f g h i j l s) (m + 1) (a ++ [(DExpr.mk t u v w x)]))))
def f1015988_b (k:Nat) (F:Fam1015988):LE→Dresolver→Option (Except Int LE):=fun a b =>
 match a,b with
 | a,.mk (.mk c) (.mk d e f g h i) j l m=>(f1015988_l1 k F c d e f g h i j l m a 0 ([]:LE))
def f1017888_b (k:Nat) (F:Fam1015988):DExpr→Dresolver→Option (Except Int DExpr):=fun p q =>
 match p,q with
 | .mk a b c r s,.mk (.mk d) (.mk e f g h i j) l m n=>((F.f1015988 s (Dresolver.mk (DProgram.mk d) (DFunc.mk e f g h i j) l m n)).bind fun q_=>match q_ with | .error c_=>some (.error c_) | .ok o=>((f1017941 k (DExpr.mk a b c r o) (Dresolver.mk (DProgram.mk d) (DFunc.mk e f g h i j) l m n)).bind fun q_=>match q_ with | .error c_=>some (.error c_) | .ok t=>(some (.ok (DExpr.mk a b c t o)))))
def fam1015988 (k0:Nat):Nat→Fam1015988
 | 0=>{ f1015988:=fun _ _=>none,f1017888:=fun _ _=>none }
 | k + 1=>{ f1015988:=f1015988_b k0 (fam1015988 k0 k),f1017888:=f1017888_b k0 (fam1015988 k0 k) }
def f1015988 (k:Nat):LE→Dresolver→Option (Except Int LE):=(fam1015988 k k).f1015988
def f1017888 (k:Nat):DExpr→Dresolver→Option (Except Int DExpr):=(fam1015988 k k).f1017888
def f161_b (k:Nat):Dresolver→LE→Option (Except Int LE):=fun b a =>
 match b,a with
 | .mk (.mk c) (.mk d e f g h i) j l m,a=>((f1015988 k a (Dresolver.mk (DProgram.mk c) (DFunc.mk d e f g h i) j l m)).bind fun q_=>match q_ with | .error c_=>some (.error c_) | .ok n=>(some (.ok n)))
def f161 (k:Nat):Dresolver→LE→Option (Except Int LE):=f161_b k
def f1018093_b (k:Nat):DFunc→DStmt→Option Bool:=fun a b =>
 match a,b with
 | .mk c e f g h i,.mk j l m d n o p q r s t=>(some (seq c d))
def f1018093 (k:Nat):DFunc→DStmt→Option Bool:=f1018093_b k
def f1013218_l1 (k:Nat) (b:Int) (c:BA) (d:Int) (e:BA) (f:Int) (g:Int) (h:LE) (i:LS) (j:LS) (l:LS) (m:LC):LF→Nat→Option Int
 | [],a=>(some (-1))
 | (.mk n o p q r s) :: t,a=>((f1018093 k (DFunc.mk n o p q r s) (DStmt.mk b c d e f g h i j l m)).bind fun u=>(cond u (some (a:Int)) ((f1013218_l1 k b c d e f g h i j l m t) (a + 1))))
def f1013218_b (k:Nat):LF→DStmt→Option Int:=fun a b =>
 match a,b with
 | a,.mk c d e f g h i j l m n=>(f1013218_l1 k c d e f g h i j l m n a 0)
def f1013218 (k:Nat):LF→DStmt→Option Int:=f1013218_b k
def f163_b (k:Nat):Dresolver→DStmt→Option (Except Int (Dresolver × DStmt)):=fun c d =>
 match c,d with
 | .mk (.mk a) (.mk e f g h i j) l m n,.mk sA_0 sA_1 sA_2 sA_3 sA_4 sA_5 sA_6 sA_7 sA_8 sA_9 sA_10=>((f1013218 k a (DStmt.mk sA_0 sA_1 sA_2 sA_3 sA_4 sA_5 sA_6 sA_7 sA_8 sA_9 sA_10)).bind fun b=>((f98 k (decide (b ≥ 0)) 20).bind fun q_=>match q_ with | .error c_=>some (.error c_) | .ok _=>((idxO a b).bind fun q_=>match q_ with | .mk q o r p s t=>((f98 k (p == (sA_0 == 28)) 25).bind fun q_=>match q_ with | .error c_=>some (.error c_) | .ok _=>((f98 k ((o.length:Int) == (sA_6.length:Int)) 24).bind fun q_=>match q_ with | .error c_=>some (.error c_) | .ok _=>(some (.ok ((Dresolver.mk (DProgram.mk a) (DFunc.mk e f g h i j) l m n),(DStmt.mk sA_0 sA_1 sA_2 sA_3 b sA_5 sA_6 sA_7 sA_8 sA_9 sA_10)))))))))
def f163 (k:Nat):Dresolver→DStmt→Option (Except Int (Dresolver × DStmt)):=f163_b k
structure Fam134 where
 f134:Dresolver→DStmt→Option (Except Int (Dresolver × DStmt))
 f1016212:Dresolver→BA→LS→DCase→Option (Except Int (Dresolver × DCase × LS))
 f1016220:Dresolver→BA→LS→DStmt→Option (Except Int (Dresolver × DStmt × LS))
 f1016266:Dresolver→BA→LS→Option (Except Int (Dresolver × LS))
 f1016420:Dresolver→BA→LS→DStmt→Option (Except Int (Dresolver × DStmt × LS))
 f1016466:Dresolver→BA→LS→Option (Except Int (Dresolver × LS))
def f134_l1 (k:Nat) (F:Fam134) (m:Int) (n:BA) (o:Int) (p:BA) (q:Int) (r:Int) (s:LS) (t:LS) (u:LS) (v:LE):LC→Nat→LF→BA→LP→Int→Bool→Int→LS→LB→LM→Int→LC→Option (Except Int (Dresolver × DStmt))
 | [],w,a,b,c,d,e,f,g,h,i,j,l=>(some (.ok ((Dresolver.mk (DProgram.mk a) (DFunc.mk b c d e f g) h i j),(DStmt.mk m n o p q r v s t u l))))
 | (.mk z x A B y) :: C,w,a,b,c,d,e,f,g,h,i,j,l=>((f161 k (Dresolver.mk (DProgram.mk a) (DFunc.mk b c d e f g) h i j) B).bind fun q_=>match q_ with | .error c_=>some (.error c_) | .ok D=>((F.f1016212 (Dresolver.mk (DProgram.mk a) (DFunc.mk b c d e f g) h i j) x y (DCase.mk z x A D y)).bind fun q_=>match q_ with | .error c_=>some (.error c_) | .ok (.mk (.mk G) (.mk I J N O S U) V W X,.mk Y Z ab ac ae,ad)=>(guardB (decide ((l.length + 1) * 80 ≤ 140737488355328)) ((f134_l1 k F m n o p q r s t u v C) (w + 1) G I J N O S U V W X (l ++ [(DCase.mk Y Z ab ac ad)])))))
def f134_j2 (k:Nat) (F:Fam134) (a:Int) (b:BA) (c:Int) (d:BA) (e:Int) (f:Int) (g:LE) (h:LS) (i:LS) (j:LS) (l:LC) (m:LF) (n:BA) (o:LP) (p:Int) (q:Bool) (r:Int) (s:LS) (t:LB) (u:LM) (v:Int):Option (Except Int (Dresolver × DStmt)):=(some (.ok ((Dresolver.mk (DProgram.mk m) (DFunc.mk n o p q r s) t u v),(DStmt.mk a b c d e f g h i j l))))
def f134_j5 (k:Nat) (F:Fam134) (a:Int) (d:BA) (e:BA) (f:Int) (b:Int) (g:LE) (h:LS) (i:LS) (j:LS) (l:LC) (m:LF) (n:BA) (o:LP) (p:Int) (q:Bool) (r:Int) (s:LS) (t:LB) (u:LM) (c:Int) (v:Int):Option (Except Int (Dresolver × DStmt)):=(cond (a != 6) ((f98 k true 22).bind fun q_=>match q_ with | .error c_=>some (.error c_) | .ok _=>(f134_j2 k F a d v e f b g h i j l m n o p q r s t u c)) (cond (b == 0) ((f98 k true 22).bind fun q_=>match q_ with | .error c_=>some (.error c_) | .ok _=>(f134_j2 k F a d v e f b g h i j l m n o p q r s t u c)) ((f98 k (decide (c > 0)) 22).bind fun q_=>match q_ with | .error c_=>some (.error c_) | .ok _=>(f134_j2 k F a d v e f b g h i j l m n o p q r s t u c))))
def f134_j4 (k:Nat) (F:Fam134) (b:LF) (c:BA) (d:LP) (e:Int) (f:Bool) (g:Int) (h:LS) (i:LB) (j:LM) (l:Int) (m:Int) (a:BA) (v:Int) (n:BA) (o:Int) (p:Int) (q:LE) (r:LS) (s:LS) (t:LS) (u:LC) (w:Bool):Option (Except Int (Dresolver × DStmt)):=(cond w ((F.f1016266 (Dresolver.mk (DProgram.mk b) (DFunc.mk c d e f g h) i j l) ⟨#[]⟩ r).bind fun q_=>match q_ with | .error c_=>some (.error c_) | .ok (.mk (.mk x) (.mk y z A B C D) G I J,N)=>((F.f1016266 (Dresolver.mk (DProgram.mk x) (DFunc.mk y z A B C D) G I J) ⟨#[]⟩ s).bind fun q_=>match q_ with | .error c_=>some (.error c_) | .ok (.mk (.mk O) (.mk S U V W X Y) Z ab ac,ad)=>(f134_j2 k F m a v n o p q N ad t u O S U V W X Y Z ab ac))) (cond (!seq a ⟨#[]⟩) ((f133 k (Dresolver.mk (DProgram.mk b) (DFunc.mk c d e f g h) i j l) a).bind fun q_=>match q_ with | .error c_=>some (.error c_) | .ok (.mk (.mk ae) (.mk af ag ah ai aj ak) al am an,ao)=>(f134_j5 k F m a n o p q r s t u ae af ag ah ai aj ak al am an ao)) (f134_j5 k F m a n o p q r s t u b c d e f g h i j l v)))
def f134_j3 (k:Nat) (F:Fam134) (i:LF) (j:BA) (l:LP) (d:Int) (e:Bool) (m:Int) (n:LS) (o:LB) (p:LM) (f:Int) (a:Int) (b:BA) (q:Int) (r:BA) (s:Int) (t:Int) (g:LE) (c:LS) (h:LS) (u:LS) (v:LC) (w:Bool):Option (Except Int (Dresolver × DStmt)):=(cond w ((f98 k (decide (f > 0)) 22).bind fun q_=>match q_ with | .error c_=>some (.error c_) | .ok _=>(f134_j2 k F a b q r s t g c h u v i j l d e m n o p f)) (cond (a == 29) ((f98 k e 22).bind fun q_=>match q_ with | .error c_=>some (.error c_) | .ok _=>(f134_j2 k F a b q r s t g c h u v i j l d e m n o p f)) (cond (a == 17) ((f98 k ((decide ((g.length:Int) > 0)) == (d != 0)) 22).bind fun q_=>match q_ with | .error c_=>some (.error c_) | .ok _=>(f134_j2 k F a b q r s t g c h u v i j l d e m n o p f)) (cond (a == 21) ((F.f1016466 (Dresolver.mk (DProgram.mk i) (DFunc.mk j l d e m n) o p f) ⟨#[]⟩ c).bind fun q_=>match q_ with | .error c_=>some (.error c_) | .ok (.mk (.mk x) (.mk y z A B C D) G I J,N)=>(f134_j2 k F a b q r s t g N h u v x y z A B C D G I J)) (cond (a == 28) ((F.f1016420 (Dresolver.mk (DProgram.mk i) (DFunc.mk j l d e m n) o p f) b c (DStmt.mk a b q r s t g c h u v)).bind fun q_=>match q_ with | .error c_=>some (.error c_) | .ok (.mk (.mk O) (.mk S U V W X Y) Z ab ac,.mk ad ae af ag ah ai aj bD ak al am,an)=>(f134_j2 k F ad ae af ag ah ai aj an ak al am O S U V W X Y Z ab ac)) (cond (a == 25) ((F.f1016220 (Dresolver.mk (DProgram.mk i) (DFunc.mk j l d e m n) o p f) b c (DStmt.mk a b q r s t g c h u v)).bind fun q_=>match q_ with | .error c_=>some (.error c_) | .ok (.mk (.mk ao) (.mk ap aq ar au av aw) ax ay az,.mk aA aB aG aH aI aJ aK bE aL aM aN,aP)=>(f134_j2 k F aA aB aG aH aI aJ aK aP aL aM aN ao ap aq ar au av aw ax ay az)) (cond (a == 24) ((F.f1016266 (Dresolver.mk (DProgram.mk i) (DFunc.mk j l d e m n) o p f) ⟨#[]⟩ c).bind fun q_=>match q_ with | .error c_=>some (.error c_) | .ok (.mk (.mk aQ) (.mk aT aU aV aW aX aY) aZ a0 a1,a2)=>((F.f1016220 (Dresolver.mk (DProgram.mk aQ) (DFunc.mk aT aU aV aW aX aY) aZ a0 a1) b h (DStmt.mk a b q r s t g a2 h u v)).bind fun q_=>match q_ with | .error c_=>some (.error c_) | .ok (.mk (.mk a3) (.mk a4 a5 a6 a7 a8 a9) ba bb bd,.mk be bf bg bh bi bj bk bm bF bn bo,bp)=>((F.f1016266 (Dresolver.mk (DProgram.mk a3) (DFunc.mk a4 a5 a6 a7 a8 a9) ba bb bd) ⟨#[]⟩ bn).bind fun q_=>match q_ with | .error c_=>some (.error c_) | .ok (.mk (.mk bq) (.mk br bs bu bv bw bx) bz bA bB,bC)=>(f134_j2 k F be bf bg bh bi bj bk bm bp bC bo bq br bs bu bv bw bx bz bA bB)))) (cond (a == 20) (f134_j4 k F i j l d e m n o p f a b q r s t g c h u v (a == 20)) (cond (a == 22) (f134_j4 k F i j l d e m n o p f a b q r s t g c h u v (a == 22)) (cond (a == 23) (f134_j4 k F i j l d e m n o p f a b q r s t g c h u v (a == 23)) (f134_j4 k F i j l d e m n o p f a b q r s t g c h u v (a == 26))))))))))))
def f134_j1 (k:Nat) (F:Fam134) (b:LF) (c:BA) (d:LP) (e:Int) (f:Bool) (g:Int) (h:LS) (i:LB) (j:LM) (l:Int) (a:Int) (m:BA) (v:Int) (n:BA) (o:Int) (p:Int) (q:LE) (r:LS) (s:LS) (t:LS) (u:LC):Option (Except Int (Dresolver × DStmt)):=(cond (a == 2) ((f160 k (Dresolver.mk (DProgram.mk b) (DFunc.mk c d e f g h) i j l) m).bind fun q_=>match q_ with | (w,x)=>((f98 k x 20).bind fun q_=>match q_ with | .error c_=>some (.error c_) | .ok _=>(f134_j2 k F a m w n o p q r s t u b c d e f g h i j l))) (cond (a == 18) (f134_j3 k F b c d e f g h i j l a m v n o p q r s t u (a == 18)) (f134_j3 k F b c d e f g h i j l a m v n o p q r s t u (a == 19))))
def f134_b (k:Nat) (F:Fam134):Dresolver→DStmt→Option (Except Int (Dresolver × DStmt)):=fun w x =>
 match w,x with
 | .mk (.mk a) (.mk b c d e f g) h i j,.mk l n o m p q y r s t u=>((f161 k (Dresolver.mk (DProgram.mk a) (DFunc.mk b c d e f g) h i j) y).bind fun q_=>match q_ with | .error c_=>some (.error c_) | .ok v=>(cond (l == 27) (f134_l1 k F l n o m p q r s t v u 0 a b c d e f g h i j ([]:LC)) (cond (!seq m ⟨#[]⟩) ((f163 k (Dresolver.mk (DProgram.mk a) (DFunc.mk b c d e f g) h i j) (DStmt.mk l n o m p q v r s t u)).bind fun q_=>match q_ with | .error c_=>some (.error c_) | .ok (.mk (.mk z) (.mk A B C D G I) J N O,.mk S U V W X Y Z ab ac ad ae)=>(f134_j1 k F z A B C D G I J N O S U V W X Y Z ab ac ad ae)) (f134_j1 k F a b c d e f g h i j l n o m p q v r s t u))))
def f1016212_l1 (k:Nat) (F:Fam134) (sA_0:Int) (sA_1:BA) (sA_3:LE) (sA_4:LS) (m:Int):LS→Nat→LF→BA→LP→Int→Bool→Int→LS→LB→LM→Int→LS→Option (Except Int (Dresolver × DCase × LS))
 | [],n,c,d,e,f,g,h,i,j,a,l,b=>(guardB (decide (0 ≤ (w64 ((a.length:Int) - 1))∧(w64 ((a.length:Int) - 1)) ≤ (a.length:Int))) (some (.ok ((Dresolver.mk (DProgram.mk c) (DFunc.mk d e f g h i) j (a.take (w64 ((a.length:Int) - 1)).toNat) l),(DCase.mk sA_0 sA_1 m sA_3 sA_4),b))))
 | (.mk o p q r s t u v w x y) :: z,n,c,d,e,f,g,h,i,j,a,l,b=>((F.f134 (Dresolver.mk (DProgram.mk c) (DFunc.mk d e f g h i) j a l) (DStmt.mk o p q r s t u v w x y)).bind fun q_=>match q_ with | .error c_=>some (.error c_) | .ok (.mk (.mk A) (.mk B C D G I J) N O S,.mk U V W X Y Z ab ac ad ae af)=>(guardB (decide ((b.length + 1) * 184 ≤ 140737488355328)) ((f1016212_l1 k F sA_0 sA_1 sA_3 sA_4 m z) (n + 1) A B C D G I J N O S (b ++ [(DStmt.mk U V W X Y Z ab ac ad ae af)]))))
def f1016212_j1 (k:Nat) (F:Fam134) (a:LS) (sA_0:Int) (sA_1:BA) (sA_3:LE) (sA_4:LS) (b:LF) (c:BA) (d:LP) (e:Int) (f:Bool) (g:Int) (h:LS) (i:LB) (j:LM) (l:Int) (m:Int):Option (Except Int (Dresolver × DCase × LS)):=(f1016212_l1 k F sA_0 sA_1 sA_3 sA_4 m a 0 b c d e f g h i j l ([]:LS))
def f1016212_b (k:Nat) (F:Fam134):Dresolver→BA→LS→DCase→Option (Except Int (Dresolver × DCase × LS)):=fun n a b o =>
 match n,a,b,o with
 | .mk (.mk d) (.mk e f g h i j) l c m,a,b,.mk sA_0 sA_1 sA_2 sA_3 sA_4=>(guardB (decide ((c.length + 1) * 8 ≤ 140737488355328)) (cond (!seq a ⟨#[]⟩) ((f133 k (Dresolver.mk (DProgram.mk d) (DFunc.mk e f g h i j) l (c ++ [([]:List (BA × Int))]) m) a).bind fun q_=>match q_ with | .error c_=>some (.error c_) | .ok (.mk (.mk p) (.mk q r s t u v) w x y,z)=>(f1016212_j1 k F b sA_0 sA_1 sA_3 sA_4 p q r s t u v w x y z)) (f1016212_j1 k F b sA_0 sA_1 sA_3 sA_4 d e f g h i j l (c ++ [([]:List (BA × Int))]) m sA_2)))
def f1016220_l1 (k:Nat) (F:Fam134) (sA_0:Int) (sA_1:BA) (sA_3:BA) (sA_4:Int) (sA_5:Int) (sA_6:LE) (sA_7:LS) (sA_8:LS) (sA_9:LS) (sA_10:LC) (m:Int):LS→Nat→LF→BA→LP→Int→Bool→Int→LS→LB→LM→Int→LS→Option (Except Int (Dresolver × DStmt × LS))
 | [],n,c,d,e,f,g,h,i,j,a,l,b=>(guardB (decide (0 ≤ (w64 ((a.length:Int) - 1))∧(w64 ((a.length:Int) - 1)) ≤ (a.length:Int))) (some (.ok ((Dresolver.mk (DProgram.mk c) (DFunc.mk d e f g h i) j (a.take (w64 ((a.length:Int) - 1)).toNat) l),(DStmt.mk sA_0 sA_1 m sA_3 sA_4 sA_5 sA_6 sA_7 sA_8 sA_9 sA_10),b))))
 | (.mk o p q r s t u v w x y) :: z,n,c,d,e,f,g,h,i,j,a,l,b=>((F.f134 (Dresolver.mk (DProgram.mk c) (DFunc.mk d e f g h i) j a l) (DStmt.mk o p q r s t u v w x y)).bind fun q_=>match q_ with | .error c_=>some (.error c_) | .ok (.mk (.mk A) (.mk B C D G I J) N O S,.mk U V W X Y Z ab ac ad ae af)=>(guardB (decide ((b.length + 1) * 184 ≤ 140737488355328)) ((f1016220_l1 k F sA_0 sA_1 sA_3 sA_4 sA_5 sA_6 sA_7 sA_8 sA_9 sA_10 m z) (n + 1) A B C D G I J N O S (b ++ [(DStmt.mk U V W X Y Z ab ac ad ae af)]))))
def f1016220_j1 (k:Nat) (F:Fam134) (a:LS) (sA_0:Int) (sA_1:BA) (sA_3:BA) (sA_4:Int) (sA_5:Int) (sA_6:LE) (sA_7:LS) (sA_8:LS) (sA_9:LS) (sA_10:LC) (b:LF) (c:BA) (d:LP) (e:Int) (f:Bool) (g:Int) (h:LS) (i:LB) (j:LM) (l:Int) (m:Int):Option (Except Int (Dresolver × DStmt × LS)):=(f1016220_l1 k F sA_0 sA_1 sA_3 sA_4 sA_5 sA_6 sA_7 sA_8 sA_9 sA_10 m a 0 b c d e f g h i j l ([]:LS))
def f1016220_b (k:Nat) (F:Fam134):Dresolver→BA→LS→DStmt→Option (Except Int (Dresolver × DStmt × LS)):=fun n a b o =>
 match n,a,b,o with
 | .mk (.mk d) (.mk e f g h i j) l c m,a,b,.mk sA_0 sA_1 sA_2 sA_3 sA_4 sA_5 sA_6 sA_7 sA_8 sA_9 sA_10=>(guardB (decide ((c.length + 1) * 8 ≤ 140737488355328)) (cond (!seq a ⟨#[]⟩) ((f133 k (Dresolver.mk (DProgram.mk d) (DFunc.mk e f g h i j) l (c ++ [([]:List (BA × Int))]) m) a).bind fun q_=>match q_ with | .error c_=>some (.error c_) | .ok (.mk (.mk p) (.mk q r s t u v) w x y,z)=>(f1016220_j1 k F b sA_0 sA_1 sA_3 sA_4 sA_5 sA_6 sA_7 sA_8 sA_9 sA_10 p q r s t u v w x y z)) (f1016220_j1 k F b sA_0 sA_1 sA_3 sA_4 sA_5 sA_6 sA_7 sA_8 sA_9 sA_10 d e f g h i j l (c ++ [([]:List (BA × Int))]) m sA_2)))
def f1016266_l1 (k:Nat) (F:Fam134)  : LS→Nat→LF→BA→LP→Int→Bool→Int→LS→LB→LM→Int→LS→Option (Except Int (Dresolver × LS))
 | [],m,c,d,e,f,g,h,i,j,a,l,b=>(guardB (decide (0 ≤ (w64 ((a.length:Int) - 1))∧(w64 ((a.length:Int) - 1)) ≤ (a.length:Int))) (some (.ok ((Dresolver.mk (DProgram.mk c) (DFunc.mk d e f g h i) j (a.take (w64 ((a.length:Int) - 1)).toNat) l),b))))
 | (.mk n o p q r s t u v w x) :: y,m,c,d,e,f,g,h,i,j,a,l,b=>((F.f134 (Dresolver.mk (DProgram.mk c) (DFunc.mk d e f g h i) j a l) (DStmt.mk n o p q r s t u v w x)).bind fun q_=>match q_ with | .error c_=>some (.error c_) | .ok (.mk (.mk z) (.mk A B C D G I) J N O,.mk S U V W X Y Z ab ac ad ae)=>(guardB (decide ((b.length + 1) * 184 ≤ 140737488355328)) ((f1016266_l1 k F y) (m + 1) z A B C D G I J N O (b ++ [(DStmt.mk S U V W X Y Z ab ac ad ae)]))))
def f1016266_b (k:Nat) (F:Fam134):Dresolver→BA→LS→Option (Except Int (Dresolver × LS)):=fun n a b =>
 match n,a,b with
 | .mk (.mk d) (.mk e f g h i j) l c m,a,b=>(guardB (decide ((c.length + 1) * 8 ≤ 140737488355328)) (cond (!seq a ⟨#[]⟩) ((f133 k (Dresolver.mk (DProgram.mk d) (DFunc.mk e f g h i j) l (c ++ [([]:List (BA × Int))]) m) a).bind fun q_=>match q_ with | .error c_=>some (.error c_) | .ok (.mk (.mk o) (.mk p q r s t u) v w x,y)=>(none)) (f1016266_l1 k F b 0 d e f g h i j l (c ++ [([]:List (BA × Int))]) m ([]:LS))))
def f1016420_b (k:Nat) (F:Fam134):Dresolver→BA→LS→DStmt→Option (Except Int (Dresolver × DStmt × LS)):=fun c a b d =>
 match c,a,b,d with
 | .mk (.mk e) (.mk f g h i j l) m n o,a,b,.mk sA_0 sA_1 sA_2 sA_3 sA_4 sA_5 sA_6 sA_7 sA_8 sA_9 sA_10=>((F.f1016220 (Dresolver.mk (DProgram.mk e) (DFunc.mk f g h i j l) m n (w64 (o + 1))) a b (DStmt.mk sA_0 sA_1 sA_2 sA_3 sA_4 sA_5 sA_6 sA_7 sA_8 sA_9 sA_10)).bind fun q_=>match q_ with | .error c_=>some (.error c_) | .ok (.mk (.mk p) (.mk q r s t u v) w x y,.mk z A B C D G I J N O S,U)=>(some (.ok ((Dresolver.mk (DProgram.mk p) (DFunc.mk q r s t u v) w x (w64 (y - 1))),(DStmt.mk z A B C D G I J N O S),U))))
def f1016466_b (k:Nat) (F:Fam134):Dresolver→BA→LS→Option (Except Int (Dresolver × LS)):=fun c a b =>
 match c,a,b with
 | .mk (.mk d) (.mk e f g h i j) l m n,a,b=>((F.f1016266 (Dresolver.mk (DProgram.mk d) (DFunc.mk e f g h i j) l m (w64 (n + 1))) a b).bind fun q_=>match q_ with | .error c_=>some (.error c_) | .ok (.mk (.mk o) (.mk p q r s t u) v w x,y)=>(some (.ok ((Dresolver.mk (DProgram.mk o) (DFunc.mk p q r s t u) v w (w64 (x - 1))),y))))
def fam134 (k0:Nat):Nat→Fam134
 | 0=>{ f134:=fun _ _=>none,f1016212:=fun _ _ _ _=>none,f1016220:=fun _ _ _ _=>none,f1016266:=fun _ _ _=>none,f1016420:=fun _ _ _ _=>none,f1016466:=fun _ _ _=>none }
 | k + 1=>{ f134:=f134_b k0 (fam134 k0 k),f1016212:=f1016212_b k0 (fam134 k0 k),f1016220:=f1016220_b k0 (fam134 k0 k),f1016266:=f1016266_b k0 (fam134 k0 k),f1016420:=f1016420_b k0 (fam134 k0 k),f1016466:=f1016466_b k0 (fam134 k0 k) }
def f134 (k:Nat):Dresolver→DStmt→Option (Except Int (Dresolver × DStmt)):=(fam134 k k).f134
def f1016212 (k:Nat):Dresolver→BA→LS→DCase→Option (Except Int (Dresolver × DCase × LS)):=(fam134 k k).f1016212
def f1016220 (k:Nat):Dresolver→BA→LS→DStmt→Option (Except Int (Dresolver × DStmt × LS)):=(fam134 k k).f1016220
def f1016266 (k:Nat):Dresolver→BA→LS→Option (Except Int (Dresolver × LS)):=(fam134 k k).f1016266
def f1016420 (k:Nat):Dresolver→BA→LS→DStmt→Option (Except Int (Dresolver × DStmt × LS)):=(fam134 k k).f1016420
def f1016466 (k:Nat):Dresolver→BA→LS→Option (Except Int (Dresolver × LS)):=(fam134 k k).f1016466
def f104_j1 (k:Nat) (a:BA) (b:LP) (c:Int) (d:Bool) (e:Int) (f:LS) (g:LB):Option (Except Int (DFunc × LB)):=(some (.ok ((DFunc.mk a b c d e f),g)))
def f104_l2 (k:Nat) (c:BA) (d:Int) (e:Bool) (f:LP):LS→Nat→LF→BA→LP→Int→Bool→Int→LS→LB→LM→Int→LS→Option (Except Int (DFunc × LB))
 | [],g,h,i,j,l,m,n,o,a,p,q,b=>((f98 k (decide ((a.length:Int) ≤ 32)) 5).bind fun q_=>match q_ with | .error c_=>some (.error c_) | .ok _=>(f104_j1 k c f d e (a.length:Int) b a))
 | (.mk r s t u v w x y z A B) :: C,g,h,i,j,l,m,n,o,a,p,q,b=>((f134 k (Dresolver.mk (DProgram.mk h) (DFunc.mk i j l m n o) a p q) (DStmt.mk r s t u v w x y z A B)).bind fun q_=>match q_ with | .error c_=>some (.error c_) | .ok (.mk (.mk D) (.mk G I J N O S) U V W,.mk X Y Z ab ac ad ae af ag ah ai)=>(guardB (decide ((b.length + 1) * 184 ≤ 140737488355328)) ((f104_l2 k c d e f C) (g + 1) D G I J N O S U V W (b ++ [(DStmt.mk X Y Z ab ac ad ae af ag ah ai)]))))
def f104_l1 (k:Nat) (l:BA) (m:LP) (n:Int) (o:Bool) (p:LS):LP→Nat→LF→BA→LP→Int→Bool→Int→LS→LB→LM→Int→Option (Except Int (DFunc × LB))
 | [],q,a,b,c,d,e,f,g,h,i,j=>((f129 k m).bind fun r=>(f104_l2 k l n o r p 0 a b c d e f g h i j ([]:LS)))
 | (.mk s G) :: t,q,a,b,c,d,e,f,g,h,i,j=>((f133 k (Dresolver.mk (DProgram.mk a) (DFunc.mk b c d e f g) h i j) s).bind fun q_=>match q_ with | .error c_=>some (.error c_) | .ok (.mk (.mk u) (.mk v w x y z A) B C D,I)=>((f104_l1 k l m n o p t) (q + 1) u v w x y z A B C D))
def f104_b (k:Nat):DProgram→DFunc→Option (Except Int (DFunc × LB)):=fun f g =>
 match f,g with
 | .mk h,.mk b a c d i e=>(f104_l1 k b a c d e a 0 h b a c d i e ([]:LB) [([]:List (BA × Int))] 0)
def f104 (k:Nat):DProgram→DFunc→Option (Except Int (DFunc × LB)):=f104_b k
def f72_l1 (k:Nat) (all:LF):LF→Nat→Option (Except Int Unit)
 | [],_=>some (.ok ())
 | f :: rest,i=>(f1010262 k (all.take i) f).bind fun b=>(f98 k (!b) 21).bind fun q=>match q with
  | .error c=>some (.error c)
  | .ok _=>f72_l1 k all rest (i + 1)
def f72_l2:LF→Int
 | []=>20
 | .mk nm ps _ fl _ _ :: rest=>cond (!(seq nm ⟨#[109,97,105,110]⟩)) (f72_l2 rest) (cond fl 25 (cond (decide ((ps.length:Int) > 0)) 24 0))
def f72_l3 (k:Nat) (p:DProgram):LF→List DFunc→List LB→Option (Except Int (DProgram × List LB))
 | [],out,names=>some (.ok (.mk out,names))
 | f :: rest,out,names=>(f104 k p f).bind fun q=>match q with
  | .error c=>some (.error c)
  | .ok (g,l)=>f72_l3 k p rest (out ++ [g]) (names ++ [l])
def f72 (k:Nat):DProgram→Option (Except Int (DProgram × (List LB))):=fun a=>match a with
 | .mk fs=>(f99 k (.mk fs) false).bind fun ok=>(f98 k ok 2).bind fun q=>match q with
  | .error c=>some (.error c)
  | .ok _=>(f72_l1 k fs fs 0).bind fun q=>match q with
   | .error c=>some (.error c)
   | .ok _=>(f98 k (decide (f72_l2 fs=0)) (f72_l2 fs)).bind fun q=>match q with
    | .error c=>some (.error c)
    | .ok _=>f72_l3 k (.mk fs) fs [] []
def f1007104_b (k:Nat):DProgram→DProgram→Option (Except Int (DProgram × DProgram)):=fun b c =>
 match b,c with
 | .mk a,.mk sA_0=>((f72 k (DProgram.mk a)).bind fun q_=>match q_ with | .error c_=>some (.error c_) | .ok (.mk d,e)=>(some (.ok ((DProgram.mk a),(DProgram.mk d)))))
def f1007104 (k:Nat):DProgram→DProgram→Option (Except Int (DProgram × DProgram)):=f1007104_b k
def f1006890 (k:Nat):DProgram→DProgram→Option (DProgram × DProgram × Int):=fun a b=>match f1007104 k a b with
 | none=>none
 | some (.ok (y0,y1))=>some (y0,y1,0)
 | some (.error c)=>some (a,b,c)
def f47_b (k:Nat):DProgram→Option (DProgram × Int):=fun a =>
 match a with
 | .mk b=>((f1006890 k (DProgram.mk b) (DProgram.mk [])).bind fun q_=>match q_ with | (.mk e,.mk c,d)=>(some ((DProgram.mk c),d)))
def f47 (k:Nat):DProgram→Option (DProgram × Int):=f47_b k
def f105_l1 (k:Nat) (b:(List Int)) (c:(List Int)):LE→Nat→Option Bool
 | [],a=>(some true)
 | (.mk d e f g h) :: i,a=>((idxO c (a:Int)).bind fun j=>((f33 k (DExpr.mk d e f g h) b).bind fun l=>(cond (l != j) (some false) ((f105_l1 k b c i) (a + 1)))))
def f105_b (k:Nat):Dchecker→LE→(List Int)→Option Bool:=fun c a b =>
 match c,a,b with
 | .mk (.mk e) (.mk f g h i j l) d,a,b=>(f105_l1 k d b a 0)
def f105 (k:Nat):Dchecker→LE→(List Int)→Option Bool:=f105_b k
def f106_b (k:Nat):Option (List (Int × (List Int))):=(some (mput qI 26 [6] (mput qI 21 [2] (mput qI 20 [2] (mput qI 15 [3] (mput qI 22 [1] (mput qI 29 [1] (mput qI 25 [1] (mput qI 8 [1] (mput qI 7 [1] (mput qI 12 [1] (mput qI 10 [4,1] (mput qI 11 [4] (mput qI 6 [4] (mput qI 16 [5] (mput qI 5 [5] ([]:List (Int × (List Int)))))))))))))))))))
def f106 (k:Nat):Option (List (Int × (List Int))):=f106_b k
structure Fam48 where
 f48:Dchecker→LS→Option (Dchecker × Bool)
 f73:Dchecker→DStmt→Option (Dchecker × Bool)
def f48_l1 (k:Nat) (F:Fam48)  : LS→Nat→LF→BA→LP→Int→Bool→Int→LS→(List Int)→Option (Dchecker × Bool)
 | [],i,a,b,c,d,e,f,g,h=>(some ((Dchecker.mk (DProgram.mk a) (DFunc.mk b c d e f g) h),true))
 | (.mk s t u v w x y z A B C) :: D,i,a,b,c,d,e,f,g,h=>((F.f73 (Dchecker.mk (DProgram.mk a) (DFunc.mk b c d e f g) h) (DStmt.mk s t u v w x y z A B C)).bind fun q_=>match q_ with | (.mk (.mk j) (.mk l m n o p q) r,G)=>(cond (!G) (some ((Dchecker.mk (DProgram.mk j) (DFunc.mk l m n o p q) r),false)) ((f48_l1 k F D) (i + 1) j l m n o p q r)))
def f48_b (k:Nat) (F:Fam48):Dchecker→LS→Option (Dchecker × Bool):=fun b a =>
 match b,a with
 | .mk (.mk c) (.mk d e f g h i) j,a=>(f48_l1 k F a 0 c d e f g h i j)
def f73_j5 (k:Nat) (F:Fam48) (a:Bool) (b:LF) (c:BA) (d:LP) (e:Int) (f:Bool) (g:Int) (h:LS) (i:List Int):Option (Dchecker × Bool):=(some ((Dchecker.mk (DProgram.mk b) (DFunc.mk c d e f g h) i),a))
def f73_j7 (k:Nat) (F:Fam48) (i:LF) (j:BA) (l:LP) (m:Int) (n:Bool) (o:Int) (p:LS) (q:Nat) (r:LS) (s:List Int) (nx1:Nat→LF→BA→LP→Int→Bool→Int→LS→(List Int)→Option (Dchecker × Bool)):Option (Dchecker × Bool):=((F.f48 (Dchecker.mk (DProgram.mk i) (DFunc.mk j l m n o p) s) r).bind fun q_=>match q_ with | (.mk (.mk a) (.mk b c d e f g) h,t)=>(cond (!t) (some ((Dchecker.mk (DProgram.mk a) (DFunc.mk b c d e f g) h),false)) (nx1 (q + 1) a b c d e f g h)))
def f73_j6 (k:Nat) (F:Fam48) (b:LF) (c:BA) (d:LP) (e:Int) (f:Bool) (g:Int) (h:LS) (a:List Int) (i:Nat) (m:BA) (j:Int) (l:LS) (nx1:Nat→LF→BA→LP→Int→Bool→Int→LS→(List Int)→Option (Dchecker × Bool)):Option (Dchecker × Bool):=(cond (!seq m ⟨#[]⟩) ((idxO a j).bind fun n=>(f73_j7 k F b c d e f g h i l (a.set j.toNat 1) nx1)) (f73_j7 k F b c d e f g h i l a nx1))
def f73_l1 (k:Nat) (F:Fam48) (i:LS) (j:LS) (l:LS):LC→Nat→LF→BA→LP→Int→Bool→Int→LS→(List Int)→Option (Dchecker × Bool)
 | [],m,a,b,c,d,e,f,g,h=>((F.f48 (Dchecker.mk (DProgram.mk a) (DFunc.mk b c d e f g) h) i).bind fun q_=>match q_ with | (.mk (.mk n) (.mk o p q r s t) u,O)=>(cond O ((F.f48 (Dchecker.mk (DProgram.mk n) (DFunc.mk o p q r s t) u) j).bind fun q_=>match q_ with | (.mk (.mk v) (.mk w x y z A B) C,S)=>(cond S ((F.f48 (Dchecker.mk (DProgram.mk v) (DFunc.mk w x y z A B) C) l).bind fun q_=>match q_ with | (.mk (.mk U) (.mk V W X Y Z ab) ac,ad)=>(f73_j5 k F ad U V W X Y Z ab ac)) (f73_j5 k F false v w x y z A B C))) (f73_j5 k F false n o p q r s t u)))
 | (.mk ae D G I J) :: N,m,a,b,c,d,e,f,g,h=>(mcase (mget qI ae (mput qI 3 [1] (mput qI 2 [4,1] (mput qI 1 [4] ([]:List (Int × (List Int))))))) ((f105 k (Dchecker.mk (DProgram.mk a) (DFunc.mk b c d e f g) h) I []).bind fun af=>(cond (!af) (some ((Dchecker.mk (DProgram.mk a) (DFunc.mk b c d e f g) h),false)) (f73_j6 k F a b c d e f g h m D G J (f73_l1 k F i j l N)))) (fun ag=>((f105 k (Dchecker.mk (DProgram.mk a) (DFunc.mk b c d e f g) h) I ag).bind fun ah=>(cond (!ah) (some ((Dchecker.mk (DProgram.mk a) (DFunc.mk b c d e f g) h),false)) (f73_j6 k F a b c d e f g h m D G J (f73_l1 k F i j l N))))))
def f73_j4 (k:Nat) (F:Fam48) (a:LF) (b:BA) (c:LP) (d:Int) (e:Bool) (f:Int) (g:LS) (h:LS) (i:LS) (j:LS) (l:LC) (m:List Int):Option (Dchecker × Bool):=(f73_l1 k F h i j l 0 a b c d e f g m)
def f73_j3 (k:Nat) (F:Fam48) (b:LF) (c:BA) (d:LP) (e:Int) (f:Bool) (g:Int) (h:LS) (a:(List Int)) (o:BA) (i:Int) (j:LS) (l:LS) (m:LS) (n:LC) (p:Int) (q:Bool):Option (Dchecker × Bool):=(cond q (some ((Dchecker.mk (DProgram.mk b) (DFunc.mk c d e f g h) a),false)) (cond (!seq o ⟨#[]⟩) ((idxO a i).bind fun r=>(f73_j4 k F b c d e f g h j l m n (a.set i.toNat p))) (f73_j4 k F b c d e f g h j l m n a)))
def f73_j2 (k:Nat) (F:Fam48) (a:LF) (b:BA) (c:LP) (d:Int) (e:Bool) (f:Int) (g:LS) (h:(List Int)) (i:BA) (j:Int) (q:LE) (l:LS) (m:LS) (n:LS) (o:LC) (p:Int) (r:List Int) (s:Bool):Option (Dchecker × Bool):=(cond s ((f105 k (Dchecker.mk (DProgram.mk a) (DFunc.mk b c d e f g) h) q r).bind fun t=>(f73_j3 k F a b c d e f g h i j l m n o p (!t))) (f73_j3 k F a b c d e f g h i j l m n o p false))
def f73_j1 (k:Nat) (F:Fam48) (a:LF) (b:BA) (c:LP) (d:Int) (e:Bool) (f:Int) (g:LS) (h:(List Int)) (r:Int) (i:BA) (j:Int) (l:LE) (m:LS) (n:LS) (o:LS) (p:LC) (q:Int):Option (Dchecker × Bool):=((f106 k ).bind fun s=>(mcase (mget qI r s) (f73_j2 k F a b c d e f g h i j l m n o p q [] false) (fun t=>(f73_j2 k F a b c d e f g h i j l m n o p q t true))))
def f73_j10 (k:Nat) (F:Fam48) (b:LF) (c:BA) (d:LP) (e:Int) (f:Bool) (g:Int) (h:LS) (i:(List Int)) (a:Int) (j:BA) (l:Int) (m:LE) (n:LS) (o:LS) (p:LS) (q:LC) (r:Int):Option (Dchecker × Bool):=(cond (a == 28) (f73_j1 k F b c d e f g h i a j l m n o p q 1) (f73_j1 k F b c d e f g h i a j l m n o p q r))
def f73_j11 (k:Nat) (F:Fam48) (a:LF) (b:BA) (c:LP) (d:Int) (e:Bool) (f:Int) (g:LS) (h:(List Int)) (i:Int) (j:BA) (l:Int) (m:LE) (n:LS) (o:LS) (p:LS) (q:LC) (r:Bool):Option (Dchecker × Bool):=(cond r (some ((Dchecker.mk (DProgram.mk a) (DFunc.mk b c d e f g) h),false)) (f73_j10 k F a b c d e f g h i j l m n o p q 5))
def f73_j9 (k:Nat) (F:Fam48) (a:LF) (b:BA) (c:LP) (d:Int) (e:Bool) (f:Int) (g:LS) (h:(List Int)) (i:Int) (j:BA) (l:Int) (m:LE) (n:LS) (o:LS) (p:LS) (q:LC) (r:Int) (s:Bool):Option (Dchecker × Bool):=(cond s (some ((Dchecker.mk (DProgram.mk a) (DFunc.mk b c d e f g) h),false)) (cond (i == 4) (cond (r != 1) (f73_j11 k F a b c d e f g h i j l m n o p q (r != 0)) (f73_j11 k F a b c d e f g h i j l m n o p q false)) (f73_j10 k F a b c d e f g h i j l m n o p q r)))
def f73_j8 (k:Nat) (F:Fam48) (b:LF) (c:BA) (d:LP) (e:Int) (f:Bool) (g:Int) (h:LS) (i:(List Int)) (a:Int) (j:BA) (m:Int) (s:Int) (l:LE) (n:LS) (o:LS) (p:LS) (q:LC) (t:Bool):Option (Dchecker × Bool):=(cond t ((idxO b s).bind fun q_=>match q_ with | .mk u v r w x y=>((f42 k (DFunc.mk u v r w x y)).bind fun z=>((f105 k (Dchecker.mk (DProgram.mk b) (DFunc.mk c d e f g h) i) l z).bind fun A=>(cond (!A) (f73_j9 k F b c d e f g h i a j m l n o p q r true) (cond (a == 3) (cond (!seq j ⟨#[]⟩) (f73_j9 k F b c d e f g h i a j m l n o p q r (r == 0)) (f73_j9 k F b c d e f g h i a j m l n o p q r false)) (f73_j9 k F b c d e f g h i a j m l n o p q r false)))))) (cond (a == 7) (f73_j1 k F b c d e f g h i a j m l n o p q 4) (cond (a == 8) (f73_j1 k F b c d e f g h i a j m l n o p q 6) (cond (a == 24) (f73_j1 k F b c d e f g h i a j m l n o p q 3) (f73_j1 k F b c d e f g h i a j m l n o p q 1)))))
def f73_b (k:Nat) (F:Fam48):Dchecker→DStmt→Option (Dchecker × Bool):=fun t u =>
 match t,u with
 | .mk (.mk d) (.mk e f c g h i) a,.mk b m l Y r Z j n o p q=>(cond (b == 1) ((idxO j 0).bind fun q_=>match q_ with | .mk v w x y z=>((f33 k (DExpr.mk v w x y z) a).bind fun s=>(cond (s == (-1)) (some ((Dchecker.mk (DProgram.mk d) (DFunc.mk e f c g h i) a),false)) (f73_j1 k F d e f c g h i a b m l j n o p q s)))) (cond (b == 14) ((idxO j 0).bind fun q_=>match q_ with | .mk A B C D G=>((f33 k (DExpr.mk A B C D G) a).bind fun I=>(cond (I == (-1)) (some ((Dchecker.mk (DProgram.mk d) (DFunc.mk e f c g h i) a),false)) (f73_j1 k F d e f c g h i a b m l j n o p q 1)))) (cond (b == 2) ((idxO j 0).bind fun q_=>match q_ with | .mk J N O S U=>((idxO a l).bind fun V=>((f33 k (DExpr.mk J N O S U) a).bind fun W=>(some ((Dchecker.mk (DProgram.mk d) (DFunc.mk e f c g h i) a),(W == V)))))) (cond (b == 17) ((f105 k (Dchecker.mk (DProgram.mk d) (DFunc.mk e f c g h i) a) j [c]).bind fun X=>(some ((Dchecker.mk (DProgram.mk d) (DFunc.mk e f c g h i) a),X))) (cond (b == 3) (f73_j8 k F d e f c g h i a b m l r j n o p q (b == 3)) (cond (b == 4) (f73_j8 k F d e f c g h i a b m l r j n o p q (b == 4)) (f73_j8 k F d e f c g h i a b m l r j n o p q (b == 28))))))))
def fam48 (k0:Nat):Nat→Fam48
 | 0=>{ f48:=fun _ _=>none,f73:=fun _ _=>none }
 | k + 1=>{ f48:=f48_b k0 (fam48 k0 k),f73:=f73_b k0 (fam48 k0 k) }
def f48 (k:Nat):Dchecker→LS→Option (Dchecker × Bool):=(fam48 k k).f48
def f73 (k:Nat):Dchecker→DStmt→Option (Dchecker × Bool):=(fam48 k k).f73
def f26_j1 (k:Nat) (b:LF) (a:Int) (c:List (List Int)):Option (DProgram × (List (List Int)) × Int):=(cond (a != 0) (some ((DProgram.mk []),[],a)) (some ((DProgram.mk b),c,0)))
def f26_j3 (k:Nat) (c:LF) (a:List (List Int)) (d:Nat) (b:Int) (e:List Int) (nx1:Nat→Int→(List (List Int))→Option (DProgram × (List (List Int)) × Int)):Option (DProgram × (List (List Int)) × Int):=(cond (b != 0) (f26_j1 k c b a) (guardB (decide ((a.length + 1) * 24 ≤ 140737488355328)) (nx1 (d + 1) b (a ++ [e]))))
def f26_j4 (k:Nat) (a:LF) (e:Int) (b:List (List Int)) (c:Nat) (d:(List Int)) (f:Bool) (nx1:Nat→Int→(List (List Int))→Option (DProgram × (List (List Int)) × Int)):Option (DProgram × (List (List Int)) × Int):=(cond f (f26_j3 k a b c 26 d nx1) (f26_j3 k a b c e d nx1))
def f26_j2 (k:Nat) (a:LF) (e:Int) (b:List (List Int)) (c:Nat) (g:Int) (f:LS) (h:LF) (i:BA) (j:LP) (l:Int) (m:Bool) (n:Int) (o:LS) (p:List Int) (nx1:Nat→Int→(List (List Int))→Option (DProgram × (List (List Int)) × Int)):Option (DProgram × (List (List Int)) × Int):=((f48 k (Dchecker.mk (DProgram.mk h) (DFunc.mk i j l m n o) p) f).bind fun q_=>match q_ with | (.mk (.mk s) (.mk t u v w x y) d,q)=>(cond (!q) (f26_j3 k a b c 23 d nx1) (cond (g != 0) ((f40 k f).bind fun r=>(f26_j4 k a e b c d (!r) nx1)) (f26_j4 k a e b c d false nx1))))
def f26_l1 (k:Nat) (c:LF):LF→Nat→Int→(List (List Int))→Option (DProgram × (List (List Int)) × Int)
 | [],h,d,e=>(f26_j1 k c d e)
 | (.mk i a f j b g) :: m,h,d,e=>((f42 k (DFunc.mk i a f j b g)).bind fun l=>(guardB (decide (0 ≤ (w64 (b - (a.length:Int)))∧((l.length:Int) + (w64 (b - (a.length:Int)))) * ((8:Nat):Int) ≤ 140737488355328)) (f26_j2 k c d e h f g c i a f j b g (l ++ List.replicate (w64 (b - (a.length:Int))).toNat (0:Int)) (f26_l1 k c m))))
def f26_b (k:Nat):DProgram→Option (DProgram × (List (List Int)) × Int):=fun d =>
 match d with
 | .mk e=>((f46 k (DProgram.mk e)).bind fun q_=>match q_ with | (.mk f,b)=>(cond (b != 0) (some ((DProgram.mk []),[],b)) ((f47 k (DProgram.mk f)).bind fun q_=>match q_ with | (.mk c,a)=>(cond (a != 0) (some ((DProgram.mk []),[],a)) (f26_l1 k c c 0 a ([]:List (List Int)))))))
def f26 (k:Nat):DProgram→Option (DProgram × (List (List Int)) × Int):=f26_b k
def f10_b (k:Nat):DProgram→Option (DProgram × Int):=fun a =>
 match a with
 | .mk b=>((f26 k (DProgram.mk b)).bind fun q_=>match q_ with | (.mk c,e,d)=>(some ((DProgram.mk c),d)))
def f10 (k:Nat):DProgram→Option (DProgram × Int):=f10_b k
def f25_b (k:Nat):LS→Option DProgram:=fun a=>(some (DProgram.mk [(DFunc.mk ⟨#[109,97,105,110]⟩ [] 0 false 0 []),(DFunc.mk ⟨#[102]⟩ [] 1 false 0 [(DStmt.mk 21 ⟨#[]⟩ 0 ⟨#[]⟩ 0 0 [(DExpr.mk 2 1 ⟨#[]⟩ 0 [])] a [] [] [])])]))
def f25 (k:Nat):LS→Option DProgram:=f25_b k
def f9_j1 (k:Nat) (a:Bool):Option Bool:=(some a)
def f9_b (k:Nat):Option Bool:=((f25 k []).bind fun q_=>match q_ with | .mk a=>((f10 k (DProgram.mk a)).bind fun q_=>match q_ with | (.mk g,b)=>((f25 k [(DStmt.mk 18 ⟨#[]⟩ 0 ⟨#[]⟩ 0 0 [] [] [] [] [])]).bind fun q_=>match q_ with | .mk c=>((f10 k (DProgram.mk c)).bind fun q_=>match q_ with | (.mk h,d)=>((f13 k (DExpr.mk 11 0 ⟨#[]⟩ 0 [(DExpr.mk 1 0 ⟨#[]⟩ 0 []),(DExpr.mk 4 0 ⟨#[120]⟩ 1 [])]) [3,1]).bind fun q_=>match q_ with | (e,f)=>(cond (b == 0) (cond (d == 26) (cond (f == 0) (cond (e == 2) (f9_j1 k true) (f9_j1 k false)) (f9_j1 k false)) (f9_j1 k false)) (f9_j1 k false)))))))
def f9 (k:Nat):Option Bool:=f9_b k
def f4_j1 (k:Nat) (a:Bool):Option Bool:=(some a)
def f4_j2 (k:Nat) (a:Bool):Option Bool:=(some a)
def f4_j3 (k:Nat) (a:Bool):Option Bool:=(some a)
def f4_j4 (k:Nat) (a:Nat) (b:Bool) (nx1:Nat→Bool→Option Bool):Option Bool:=(nx1 (a + 1) b)
def f4_l1 (k:Nat) (d:Int) (e:Int) (f:BA) (g:Int) (h:LE) (c:(List Int)) (a:Int) (b:Int):List Int→Nat→Bool→Option Bool
 | [],i,j=>(cond (!j) (cond (a == 0) (cond (b == 2) ((f9 k ).bind fun o=>(f4_j1 k o)) (f4_j1 k false)) (f4_j1 k false)) ((f15 k (DExpr.mk d e f g h) (c.take (imin (c.length:Int) 100).toNat)).bind fun m=>(cond (m == (-1)) (cond (a == 0) (cond (b == 23) ((f9 k ).bind fun p=>(f4_j2 k p)) (f4_j2 k false)) (f4_j2 k false)) (cond (a == m) (cond (b == 0) ((f9 k ).bind fun q=>(f4_j3 k q)) (f4_j3 k false)) (f4_j3 k false)))))
 | n :: l,i,j=>(cond j (cond (decide (n ≥ 0)) (f4_j4 k i (decide (n ≤ 6)) (f4_l1 k d e f g h c a b l)) (f4_j4 k i false (f4_l1 k d e f g h c a b l))) (f4_j4 k i false (f4_l1 k d e f g h c a b l)))
def f4_b (k:Nat):DExpr→(List Int)→Option Bool:=fun g a =>
 match g,a with
 | .mk b c d e f,a=>(guardB (decide (0 ≤ (imin (a.length:Int) 100)∧(imin (a.length:Int) 100) ≤ (a.length:Int))) ((f13 k (DExpr.mk b c d e f) (a.take (imin (a.length:Int) 100).toNat)).bind fun q_=>match q_ with | (h,i)=>((f14 k (DExpr.mk b c d e f) ((a.take (imin (a.length:Int) 100).toNat).length:Int)).bind fun j=>(f4_l1 k b c d e f a h i (a.take (imin (a.length:Int) 100).toNat) 0 j))))
def f4 (k:Nat):DExpr→(List Int)→Option Bool:=f4_b k
def f30_spec (X:Int→Option Bool):Prop:=∀ {K w a b},X a=some b→GK K→ SR K K w w [] []→Calls Tryz.prog 30 #[iI a] w (Ret (fun v_ w_=>∃ K_,v_=.bool b∧SR K K_ w w_ [] []))
def f1005218_spec (X:(List Int)→Option Int):Prop:=∀ {K w a b c d},X a=some d→GK K→RSl Int (RInt .i64) 1 8 K b c a→ SR K K w w [] []→Calls Tryz.prog 52 #[sl b a c,.func (.func 30) #[] #[]] w (Ret (fun v_ w_=>∃ K_,v_=iI d∧SR K K_ w w_ [] []))
def f1002918_spec (X:(List Int)→Option Bool):Prop:=∀ {K w a b c d},X a=some d→GK K→RSl Int (RInt .i64) 1 8 K b c a→ SR K K w w [] []→Calls Tryz.prog 29 #[sl b a c,.func (.func 30) #[] #[]] w (Ret (fun v_ w_=>∃ K_,v_=.bool d∧SR K K_ w w_ [] []))
def f76_spec (X:Dcounter→Int→Option (Dcounter × Bool)):Prop:=∀ {K w g bs a b c d e f h i},X (Dcounter.mk a b c) d=some ((Dcounter.mk e f h),i)→GK K→ (fun E:Ents=>SR K K w w E E→Calls Tryz.prog 76 #[.pointer (some ⟨g,0,none⟩),iI d] w (Ret (fun v_ w_=>∃ K_,v_=.bool i∧SR K K_ w w_ E [.box bs g #[iI e,iI f,.bool h] 96]))) [.box bs g #[iI a,iI b,.bool c] 96]
def f77_spec (X:Int→Int→Int→Option Bool):Prop:=∀ {K w a b c d},X a b c=some d→GK K→ SR K K w w [] []→Calls Tryz.prog 77 #[iI a,iI b,iI c] w (Ret (fun v_ w_=>∃ K_,v_=.bool d∧SR K K_ w w_ [] []))
def f95_spec (X:BA→Option Bool):Prop:=∀ {K w a b},X a=some b→GK K→a.size ≤ mB→ SR K K w w [] []→Calls Tryz.prog 95 #[.string a] w (Ret (fun v_ w_=>∃ K_,v_=.bool b∧SR K K_ w w_ [] []))
def f78_spec (X:BA→Option Bool):Prop:=∀ {K w a b},X a=some b→GK K→a.size ≤ mB→ SR K K w w [] []→Calls Tryz.prog 78 #[.string a] w (Ret (fun v_ w_=>∃ K_,v_=.bool b∧SR K K_ w w_ [] []))
def f135_spec (X:Int→Option Bool):Prop:=∀ {K w a b},X a=some b→GK K→ SR K K w w [] []→Calls Tryz.prog 135 #[.int .u8 a] w (Ret (fun v_ w_=>∃ K_,v_=.bool b∧SR K K_ w w_ [] []))
def f136_spec (X:Int→Option Bool):Prop:=∀ {K w a b},X a=some b→GK K→ SR K K w w [] []→Calls Tryz.prog 136 #[.int .u8 a] w (Ret (fun v_ w_=>∃ K_,v_=.bool b∧SR K K_ w w_ [] []))
def f111_spec (X:BA→Option Bool):Prop:=∀ {K w a b},X a=some b→GK K→a.size ≤ mB→ SR K K w w [] []→Calls Tryz.prog 111 #[.string a] w (Ret (fun v_ w_=>∃ K_,v_=.bool b∧SR K K_ w w_ [] []))
def f165_spec (X:LB→BA→Option Int):Prop:=∀ {K w a c d b e},X a b=some e→GK K→RSl BA RStr 1 16 K c d a→b.size ≤ mB→ SR K K w w [] []→Calls Tryz.prog 165 #[sl c a d,.string b] w (Ret (fun v_ w_=>∃ K_,v_=iI e∧SR K K_ w w_ [] []))
def f137_spec (X:LB→BA→Option Bool):Prop:=∀ {K w a c d b e},X a b=some e→GK K→RSl BA RStr 1 16 K c d a→b.size ≤ mB→ SR K K w w [] []→Calls Tryz.prog 137 #[sl c a d,.string b] w (Ret (fun v_ w_=>∃ K_,v_=.bool e∧SR K K_ w w_ [] []))
def f138_spec (X:Option LB):Prop:=∀ {K w a},X =some a→GK K→ SR K K w w [] []→Calls Tryz.prog 138 #[] w (Ret (fun v_ w_=>∃ K_ Ar0 cr0,v_=sl Ar0 a cr0∧SR K K_ w w_ [] []∧RSl BA RStr 1 16 K_ Ar0 cr0 a))
def f112_spec (X:BA→Option Bool):Prop:=∀ {K w a b},X a=some b→GK K→a.size ≤ mB→ SR K K w w [] []→Calls Tryz.prog 112 #[.string a] w (Ret (fun v_ w_=>∃ K_,v_=.bool b∧SR K K_ w w_ [] []))
def f79_spec (X:BA→Option Bool):Prop:=∀ {K w a b},X a=some b→GK K→a.size ≤ mB→ SR K K w w [] []→Calls Tryz.prog 79 #[.string a] w (Ret (fun v_ w_=>∃ K_,v_=.bool b∧SR K K_ w w_ [] []))
def f53_spec (X:Dcounter→DExpr→Int→Option (Dcounter × Bool)):Prop:=∀ {K w g bs a b c d e f h i j k},X (Dcounter.mk a b c) d f=some ((Dcounter.mk h i j),k)→GK K→RDExpr K d e→ (fun E:Ents=>SR K K w w E E→Calls Tryz.prog 53 #[.pointer (some ⟨g,0,none⟩),.agg e.toArray,iI f] w (Ret (fun v_ w_=>∃ K_,v_=.bool k∧SR K K_ w w_ E [.box bs g #[iI h,iI i,.bool j] 96]))) [.box bs g #[iI a,iI b,.bool c] 96]
def f80_spec (X:Dcounter→LE→Int→Option (Dcounter × Bool)):Prop:=∀ {K w g bs a b c d e f h i j k l},X (Dcounter.mk a b c) d h=some ((Dcounter.mk i j k),l)→GK K→tE K e f d→ (fun E:Ents=>SR K K w w E E→Calls Tryz.prog 80 #[.pointer (some ⟨g,0,none⟩),sl e d f,iI h] w (Ret (fun v_ w_=>∃ K_,v_=.bool l∧SR K K_ w w_ E [.box bs g #[iI i,iI j,.bool k] 96]))) [.box bs g #[iI a,iI b,.bool c] 96]
def f31_spec (X:DExpr→Bool→Option Bool):Prop:=∀ {K w a b c d},X a c=some d→GK K→RDExpr K a b→ SR K K w w [] []→Calls Tryz.prog 31 #[.agg b.toArray,.bool c] w (Ret (fun v_ w_=>∃ K_,v_=.bool d∧SR K K_ w w_ [] []))
def f32_spec (X:DExpr→Int→Option Bool):Prop:=∀ {K w a b c d},X a c=some d→GK K→RDExpr K a b→ SR K K w w [] []→Calls Tryz.prog 32 #[.agg b.toArray,iI c] w (Ret (fun v_ w_=>∃ K_,v_=.bool d∧SR K K_ w w_ [] []))
def f1005440_spec (X:LE→Int→Option Bool):Prop:=∀ {K w a b c g bs s d},X a s=some d→GK K→tE K b c a→ (fun E:Ents=>SR K K w w E E→Calls Tryz.prog 54 #[sl b a c,.func (.func 55) #[] #[.pointer (some ⟨g,0,none⟩)]] w (Ret (fun v_ w_=>∃ K_,v_=.bool d∧SR K K_ w w_ E E))) [.box bs g #[iI s] 3]
def f1005532_spec (X:DExpr→Int→Option Bool):Prop:=∀ {K w a b g bs s c},X a s=some c→GK K→RDExpr K a b→ (fun E:Ents=>SR K K w w E E→Calls Tryz.prog 55 #[.agg b.toArray,.pointer (some ⟨g,0,none⟩)] w (Ret (fun v_ w_=>∃ K_,v_=.bool c∧SR K K_ w w_ E E))) [.box bs g #[iI s] 3]
def f1008147_spec (X:LE→Unit→Int→Option Bool):Prop:=∀ {K w a b c g bs gA bsA sA d},X a () sA=some d→GK K→tE K b c a→ (fun E:Ents=>SR K K w w E E→Calls Tryz.prog 81 #[sl b a c,.func (.func 82) #[] #[.pointer (some ⟨g,0,none⟩)]] w (Ret (fun v_ w_=>∃ K_,v_=.bool d∧SR K K_ w w_ E E))) [.box bs g #[.func (.func 55) #[] #[.pointer (some ⟨gA,0,none⟩)]] 74,.box bsA gA #[iI sA] 3]
def f1008221_spec (X:DExpr→Unit→Int→Option Bool):Prop:=∀ {K w a b g bs gA bsA sA c},X a () sA=some c→GK K→RDExpr K a b→ (fun E:Ents=>SR K K w w E E→Calls Tryz.prog 82 #[.agg b.toArray,.pointer (some ⟨g,0,none⟩)] w (Ret (fun v_ w_=>∃ K_,v_=.bool c∧SR K K_ w w_ E E))) [.box bs g #[.func (.func 55) #[] #[.pointer (some ⟨gA,0,none⟩)]] 74,.box bsA gA #[iI sA] 3]
def f1011347_spec (X:LE→Unit→Int→Option Int):Prop:=∀ {K w a b c g bs gA bsA sA d},X a () sA=some d→GK K→tE K b c a→ (fun E:Ents=>SR K K w w E E→Calls Tryz.prog 113 #[sl b a c,.func (.func 82) #[] #[.pointer (some ⟨g,0,none⟩)]] w (Ret (fun v_ w_=>∃ K_,v_=iI d∧SR K K_ w w_ E E))) [.box bs g #[.func (.func 55) #[] #[.pointer (some ⟨gA,0,none⟩)]] 74,.box bsA gA #[iI sA] 3]
def f56_spec (X:Option (List (Int × Doperator))):Prop:=∀ {K w a},X =some a→GK K→ SR K K w w [] []→Calls Tryz.prog 56 #[] w (Ret (fun v_ w_=>∃ K_ br0 er0 cr0,v_=.map (some br0)∧SR K K_ w w_ [] [.mp (zz w) br0 er0 cr0]∧MapR kI (VAgg (RDoperator K_)) a er0.toList))
def f83_spec (X:(List Int)→Int→Option Int):Prop:=∀ {K w a b c d e},X a d=some e→GK K→RSl Int (RInt .i64) 1 8 K b c a→ SR K K w w [] []→Calls Tryz.prog 83 #[sl b a c,iI d] w (Ret (fun v_ w_=>∃ K_,v_=iI e∧SR K K_ w w_ [] []))
def f57_spec (X:(List Int)→Int→Option Bool):Prop:=∀ {K w a b c d e},X a d=some e→GK K→RSl Int (RInt .i64) 1 8 K b c a→ SR K K w w [] []→Calls Tryz.prog 57 #[sl b a c,iI d] w (Ret (fun v_ w_=>∃ K_,v_=.bool e∧SR K K_ w w_ [] []))
def f33_spec (X:DExpr→(List Int)→Option Int):Prop:=∀ {K w b c a d e f},X b a=some f→GK K→RDExpr K b c→RSl Int (RInt .i64) 1 8 K d e a→ SR K K w w [] []→Calls Tryz.prog 33 #[.agg c.toArray,sl d a e] w (Ret (fun v_ w_=>∃ K_,v_=iI f∧SR K K_ w w_ [] []))
def f13_spec (X:DExpr→(List Int)→Option (Int × Int)):Prop:=∀ {K w b c a d e f g},X b a=some (f,g)→GK K→RDExpr K b c→RSl Int (RInt .i64) 1 8 K d e a→ SR K K w w [] []→Calls Tryz.prog 13 #[.agg c.toArray,sl d a e] w (Ret (fun v_ w_=>∃ K_,v_=.tuple #[iI f,iI g]∧SR K K_ w w_ [] []))
def f114_spec (X:DSize→Int→Option DSize):Prop:=∀ {K w g bs a b c d e f h},X (DSize.mk a b c) d=some (DSize.mk e f h)→GK K→ (fun E:Ents=>SR K K w w E E→Calls Tryz.prog 114 #[.pointer (some ⟨g,0,none⟩),iI d] w (Ret (fun v_ w_=>∃ K_,v_=.tuple #[]∧SR K K_ w w_ E [.box bs g #[iI e,iI f,.bool h] 104]))) [.box bs g #[iI a,iI b,.bool c] 104]
def f115_spec (X:DSize→Bool→Option DSize):Prop:=∀ {K w g bs a b c d e f h},X (DSize.mk a b c) d=some (DSize.mk e f h)→GK K→ (fun E:Ents=>SR K K w w E E→Calls Tryz.prog 115 #[.pointer (some ⟨g,0,none⟩),.bool d] w (Ret (fun v_ w_=>∃ K_,v_=.tuple #[]∧SR K K_ w w_ E [.box bs g #[iI e,iI f,.bool h] 104]))) [.box bs g #[iI a,iI b,.bool c] 104]
def f116_spec (X:BA→Option Bool):Prop:=∀ {K w a b},X a=some b→GK K→a.size ≤ mB→ SR K K w w [] []→Calls Tryz.prog 116 #[.string a] w (Ret (fun v_ w_=>∃ K_,v_=.bool b∧SR K K_ w w_ [] []))
def f139_spec (X:Int→Option Bool):Prop:=∀ {K w a b},X a=some b→GK K→ SR K K w w [] []→Calls Tryz.prog 139 #[.int .u8 a] w (Ret (fun v_ w_=>∃ K_,v_=.bool b∧SR K K_ w w_ [] []))
def f140_spec (X:Int→Option Bool):Prop:=∀ {K w a b},X a=some b→GK K→ SR K K w w [] []→Calls Tryz.prog 140 #[.int .u8 a] w (Ret (fun v_ w_=>∃ K_,v_=.bool b∧SR K K_ w w_ [] []))
def f167_spec (X:Option LB):Prop:=∀ {K w a},X =some a→GK K→ SR K K w w [] []→Calls Tryz.prog 167 #[] w (Ret (fun v_ w_=>∃ K_ Ar0 cr0,v_=sl Ar0 a cr0∧SR K K_ w w_ [] []∧RSl BA RStr 1 16 K_ Ar0 cr0 a))
def f141_spec (X:BA→Option Bool):Prop:=∀ {K w a b},X a=some b→GK K→a.size ≤ mB→ SR K K w w [] []→Calls Tryz.prog 141 #[.string a] w (Ret (fun v_ w_=>∃ K_,v_=.bool b∧SR K K_ w w_ [] []))
def f117_spec (X:BA→Option Bool):Prop:=∀ {K w a b},X a=some b→GK K→a.size ≤ mB→ SR K K w w [] []→Calls Tryz.prog 117 #[.string a] w (Ret (fun v_ w_=>∃ K_,v_=.bool b∧SR K K_ w w_ [] []))
def f84_spec (X:DSize→DExpr→Int→Bool→Option DSize):Prop:=∀ {K w g bs a b c d e f h i j k},X (DSize.mk a b c) d f h=some (DSize.mk i j k)→GK K→RDExpr K d e→ (fun E:Ents=>SR K K w w E E→Calls Tryz.prog 84 #[.pointer (some ⟨g,0,none⟩),.agg e.toArray,iI f,.bool h] w (Ret (fun v_ w_=>∃ K_,v_=.tuple #[]∧SR K K_ w w_ E [.box bs g #[iI i,iI j,.bool k] 104]))) [.box bs g #[iI a,iI b,.bool c] 104]
def f58_spec (X:DExpr→Int→Int→Bool→Option DSize):Prop:=∀ {K w a b c d e f},X a c d e=some f→GK K→RDExpr K a b→ SR K K w w [] []→Calls Tryz.prog 58 #[.agg b.toArray,iI c,iI d,.bool e] w (Ret (fun v_ w_=>∃ K_ csr0,v_=.agg csr0.toArray∧SR K K_ w w_ [] []∧RDSize K_ f csr0))
def f34_spec (X:DExpr→Option Bool):Prop:=∀ {K w a b c},X a=some c→GK K→RDExpr K a b→ SR K K w w [] []→Calls Tryz.prog 34 #[.agg b.toArray] w (Ret (fun v_ w_=>∃ K_,v_=.bool c∧SR K K_ w w_ [] []))
def f35_spec (X:DExpr→Int→Option Bool):Prop:=∀ {K w a b c d},X a c=some d→GK K→RDExpr K a b→ SR K K w w [] []→Calls Tryz.prog 35 #[.agg b.toArray,iI c] w (Ret (fun v_ w_=>∃ K_,v_=.bool d∧SR K K_ w w_ [] []))
def f14_spec (X:DExpr→Int→Option Bool):Prop:=∀ {K w a b c d},X a c=some d→GK K→RDExpr K a b→ SR K K w w [] []→Calls Tryz.prog 14 #[.agg b.toArray,iI c] w (Ret (fun v_ w_=>∃ K_,v_=.bool d∧SR K K_ w w_ [] []))
def f36_spec (X:Int→Int→Int→Option Int):Prop:=∀ {K w a b c d},X a b c=some d→GK K→ SR K K w w [] []→Calls Tryz.prog 36 #[iI a,iI b,iI c] w (Ret (fun v_ w_=>∃ K_,v_=iI d∧SR K K_ w w_ [] []))
def f15_spec (X:DExpr→(List Int)→Option Int):Prop:=∀ {K w b c a d e f},X b a=some f→GK K→RDExpr K b c→RSl Int (RInt .i64) 1 8 K d e a→ SR K K w w [] []→Calls Tryz.prog 15 #[.agg c.toArray,sl d a e] w (Ret (fun v_ w_=>∃ K_,v_=iI f∧SR K K_ w w_ [] []))
def f124_spec (X:DStmt→Option (List LS)):Prop:=∀ {K w b c a},X b=some a→GK K→RDStmt K b c→ SR K K w w [] []→Calls Tryz.prog 124 #[.agg c.toArray] w (Ret (fun v_ w_=>∃ K_ Ar0 cr0,v_=sl Ar0 a cr0∧SR K K_ w w_ [] []∧RSl LS (RSlE DStmt (fun K=>(RDStmt K)) 11 184 K_) 1 24 K_ Ar0 cr0 a))
def f92_spec (X:LS→Option Bool):Prop:=∀ {K w a b c d},X a=some d→GK K→tS K b c a→ SR K K w w [] []→Calls Tryz.prog 92 #[sl b a c] w (Ret (fun v_ w_=>∃ K_,v_=.bool d∧SR K K_ w w_ [] []))
def f122_spec (X:DStmt→Option Bool):Prop:=∀ {K w a b c},X a=some c→GK K→RDStmt K a b→ SR K K w w [] []→Calls Tryz.prog 122 #[.agg b.toArray] w (Ret (fun v_ w_=>∃ K_,v_=.bool c∧SR K K_ w w_ [] []))
def f1006489_spec (X:LS→Option Bool):Prop:=∀ {K w a b c d},X a=some d→GK K→tS K b c a→ SR K K w w [] []→Calls Tryz.prog 64 #[sl b a c,.func (.func 122) #[] #[]] w (Ret (fun v_ w_=>∃ K_,v_=.bool d∧SR K K_ w w_ [] []))
def f1009189_spec (X:LS→Option Int):Prop:=∀ {K w a b c d},X a=some d→GK K→tS K b c a→ SR K K w w [] []→Calls Tryz.prog 91 #[sl b a c,.func (.func 122) #[] #[]] w (Ret (fun v_ w_=>∃ K_,v_=iI d∧SR K K_ w w_ [] []))
def f1012326_spec (X:(List LS)→Option Bool):Prop:=∀ {K w a b c d},X a=some d→GK K→RSl LS (RSlE DStmt (fun K=>(RDStmt K)) 11 184 K) 1 24 K b c a→ SR K K w w [] []→Calls Tryz.prog 123 #[sl b a c,.func (.func 92) #[] #[]] w (Ret (fun v_ w_=>∃ K_,v_=.bool d∧SR K K_ w w_ [] []))
def f1014826_spec (X:(List LS)→Option Int):Prop:=∀ {K w a b c d},X a=some d→GK K→RSl LS (RSlE DStmt (fun K=>(RDStmt K)) 11 184 K) 1 24 K b c a→ SR K K w w [] []→Calls Tryz.prog 148 #[sl b a c,.func (.func 92) #[] #[]] w (Ret (fun v_ w_=>∃ K_,v_=iI d∧SR K K_ w w_ [] []))
def f40_spec (X:LS→Option Bool):Prop:=∀ {K w a b c d},X a=some d→GK K→tS K b c a→ SR K K w w [] []→Calls Tryz.prog 40 #[sl b a c] w (Ret (fun v_ w_=>∃ K_,v_=.bool d∧SR K K_ w w_ [] []))
def f65_spec (X:DStmt→Option Bool):Prop:=∀ {K w a b c},X a=some c→GK K→RDStmt K a b→ SR K K w w [] []→Calls Tryz.prog 65 #[.agg b.toArray] w (Ret (fun v_ w_=>∃ K_,v_=.bool c∧SR K K_ w w_ [] []))
def f94_spec (X:DCase→Option Bool):Prop:=∀ {K w a b c},X a=some c→GK K→RDCase K a b→ SR K K w w [] []→Calls Tryz.prog 94 #[.agg b.toArray] w (Ret (fun v_ w_=>∃ K_,v_=.bool c∧SR K K_ w w_ [] []))
def f1006449_spec (X:LS→Option Bool):Prop:=∀ {K w a b c d},X a=some d→GK K→tS K b c a→ SR K K w w [] []→Calls Tryz.prog 64 #[sl b a c,.func (.func 65) #[] #[]] w (Ret (fun v_ w_=>∃ K_,v_=.bool d∧SR K K_ w w_ [] []))
def f1009149_spec (X:LS→Option Int):Prop:=∀ {K w a b c d},X a=some d→GK K→tS K b c a→ SR K K w w [] []→Calls Tryz.prog 91 #[sl b a c,.func (.func 65) #[] #[]] w (Ret (fun v_ w_=>∃ K_,v_=iI d∧SR K K_ w w_ [] []))
def f1009388_spec (X:LC→Option Bool):Prop:=∀ {K w a b c d},X a=some d→GK K→tC K b c a→ SR K K w w [] []→Calls Tryz.prog 93 #[sl b a c,.func (.func 94) #[] #[]] w (Ret (fun v_ w_=>∃ K_,v_=.bool d∧SR K K_ w w_ [] []))
def f1012547_spec (X:LC→Unit→Option Bool):Prop:=∀ {K w a b c g bs d},X a ()=some d→GK K→tC K b c a→ (fun E:Ents=>SR K K w w E E→Calls Tryz.prog 125 #[sl b a c,.func (.func 126) #[] #[.pointer (some ⟨g,0,none⟩)]] w (Ret (fun v_ w_=>∃ K_,v_=.bool d∧SR K K_ w w_ E E))) [.box bs g #[.func (.func 94) #[] #[]] 137]
def f1012626_spec (X:DCase→Unit→Option Bool):Prop:=∀ {K w a b g bs c},X a ()=some c→GK K→RDCase K a b→ (fun E:Ents=>SR K K w w E E→Calls Tryz.prog 126 #[.agg b.toArray,.pointer (some ⟨g,0,none⟩)] w (Ret (fun v_ w_=>∃ K_,v_=.bool c∧SR K K_ w w_ E E))) [.box bs g #[.func (.func 94) #[] #[]] 137]
def f1014947_spec (X:LC→Unit→Option Int):Prop:=∀ {K w a b c g bs d},X a ()=some d→GK K→tC K b c a→ (fun E:Ents=>SR K K w w E E→Calls Tryz.prog 149 #[sl b a c,.func (.func 126) #[] #[.pointer (some ⟨g,0,none⟩)]] w (Ret (fun v_ w_=>∃ K_,v_=iI d∧SR K K_ w w_ E E))) [.box bs g #[.func (.func 94) #[] #[]] 137]
def f42_spec (X:DFunc→Option (List Int)):Prop:=∀ {K w b c a},X b=some a→GK K→RDFunc K b c→ SR K K w w [] []→Calls Tryz.prog 42 #[.agg c.toArray] w (Ret (fun v_ w_=>∃ K_ Ar0 cr0 yr0,v_=sl Ar0 a cr0∧SR K K_ w w_ [] [eW (zz w) Ar0 a cr0 3 1 yr0]∧Reps (RInt .i64) 1 a yr0∧a.length * 8 ≤ mB))
def f129_spec (X:LP→Option LP):Prop:=∀ {K w a c d b},X a=some b→GK K→tP K c d a→ SR K K w w [] []→Calls Tryz.prog 129 #[sl c a d] w (Ret (fun v_ w_=>∃ K_ Ar0 cr0,v_=sl Ar0 b cr0∧SR K K_ w w_ [] []∧tP K_ Ar0 cr0 b))
def f157_spec (X:DExpr→Option Int):Prop:=∀ {K w a b c},X a=some c→GK K→RDExpr K a b→ SR K K w w [] []→Calls Tryz.prog 157 #[.agg b.toArray] w (Ret (fun v_ w_=>∃ K_,v_=iI c∧SR K K_ w w_ [] []))
def f1015923_spec (X:LE→Option LE):Prop:=∀ {K w a c d b},X a=some b→GK K→tE K c d a→ SR K K w w [] []→Calls Tryz.prog 159 #[sl c a d,.func (.func 157) #[] #[]] w (Ret (fun v_ w_=>∃ K_ Ar0 cr0,v_=sl Ar0 b cr0∧SR K K_ w w_ [] []∧tE K_ Ar0 cr0 b))
def f1017823_spec (X:DExpr→Option DExpr):Prop:=∀ {K w a b c},X a=some c→GK K→RDExpr K a b→ SR K K w w [] []→Calls Tryz.prog 178 #[.agg b.toArray,.func (.func 157) #[] #[]] w (Ret (fun v_ w_=>∃ K_ csr0,v_=.agg csr0.toArray∧SR K K_ w w_ [] []∧RDExpr K_ c csr0))
def f158_spec (X:DExpr→Option Int):Prop:=∀ {K w a b c},X a=some c→GK K→RDExpr K a b→ SR K K w w [] []→Calls Tryz.prog 158 #[.agg b.toArray] w (Ret (fun v_ w_=>∃ K_,v_=iI c∧SR K K_ w w_ [] []))
def f1015954_spec (X:LE→Option LE):Prop:=∀ {K w a c d b},X a=some b→GK K→tE K c d a→ SR K K w w [] []→Calls Tryz.prog 159 #[sl c a d,.func (.func 158) #[] #[]] w (Ret (fun v_ w_=>∃ K_ Ar0 cr0,v_=sl Ar0 b cr0∧SR K K_ w w_ [] []∧tE K_ Ar0 cr0 b))
def f1017854_spec (X:DExpr→Option DExpr):Prop:=∀ {K w a b c},X a=some c→GK K→RDExpr K a b→ SR K K w w [] []→Calls Tryz.prog 178 #[.agg b.toArray,.func (.func 158) #[] #[]] w (Ret (fun v_ w_=>∃ K_ csr0,v_=.agg csr0.toArray∧SR K K_ w w_ [] []∧RDExpr K_ c csr0))
def f130_spec (X:LS→Bool→Option LS):Prop:=∀ {K w a c d e b},X a e=some b→GK K→tS K c d a→ SR K K w w [] []→Calls Tryz.prog 130 #[sl c a d,.bool e] w (Ret (fun v_ w_=>∃ K_ Ar0 cr0,v_=sl Ar0 b cr0∧SR K K_ w w_ [] []∧tS K_ Ar0 cr0 b))
def f100_spec (X:DProgram→Bool→Option DProgram):Prop:=∀ {K w a b c d},X a c=some d→GK K→RDProgram K a b→ SR K K w w [] []→Calls Tryz.prog 100 #[.agg b.toArray,.bool c] w (Ret (fun v_ w_=>∃ K_ csr0,v_=.agg csr0.toArray∧SR K K_ w w_ [] []∧RDProgram K_ d csr0))
def f98_spec (X:Bool→Int→Option (Except Int Unit)):Prop:=∀ {K w a b res_},X a b=some res_→GK K→ SR K K w w [] []→Calls Tryz.prog 98 #[.bool a,iI b] w (RetP (fun v_ w_=>∃ K_,res_=.ok ()∧v_=.tuple #[]∧SR K K_ w w_ [] []) (fun v_ w_=>∃ c_ K_,res_=.error c_∧v_=.iface 140 (.agg #[iI c_])∧SR K K_ w w_ [] []))
def f189_spec (X:Option (List (Int × Dshape))):Prop:=∀ {K w a},X =some a→GK K→ SR K K w w [] []→Calls Tryz.prog 189 #[] w (Ret (fun v_ w_=>∃ K_ br0 er0 cr0,v_=.map (some br0)∧SR K K_ w w_ [] [.mp (zz w) br0 er0 cr0]∧MapR kI (VAgg (RDshape K_)) a er0.toList))
def f190_spec (X:DStmt→Option Bool):Prop:=∀ {K w a b c},X a=some c→GK K→RDStmt K a b→ SR K K w w [] []→Calls Tryz.prog 190 #[.agg b.toArray] w (Ret (fun v_ w_=>∃ K_,v_=.bool c∧SR K K_ w w_ [] []))
def f156_spec (X:Dcounter→LS→Int→Option (Dcounter × Bool)):Prop:=∀ {K w g bs a b c d e f h i j k l},X (Dcounter.mk a b c) d h=some ((Dcounter.mk i j k),l)→GK K→tS K e f d→ (fun E:Ents=>SR K K w w E E→Calls Tryz.prog 156 #[.pointer (some ⟨g,0,none⟩),sl e d f,iI h] w (Ret (fun v_ w_=>∃ K_,v_=.bool l∧SR K K_ w w_ E [.box bs g #[iI i,iI j,.bool k] 96]))) [.box bs g #[iI a,iI b,.bool c] 96]
def f177_spec (X:Dcounter→DStmt→Int→Option (Dcounter × Bool)):Prop:=∀ {K w g bs a b c d e f h i j k},X (Dcounter.mk a b c) d f=some ((Dcounter.mk h i j),k)→GK K→RDStmt K d e→ (fun E:Ents=>SR K K w w E E→Calls Tryz.prog 177 #[.pointer (some ⟨g,0,none⟩),.agg e.toArray,iI f] w (Ret (fun v_ w_=>∃ K_,v_=.bool k∧SR K K_ w w_ E [.box bs g #[iI h,iI i,.bool j] 96]))) [.box bs g #[iI a,iI b,.bool c] 96]
def f191_spec (X:Dcounter→DCase→Int→Option (Dcounter × Bool)):Prop:=∀ {K w g bs a b c d e f h i j k},X (Dcounter.mk a b c) d f=some ((Dcounter.mk h i j),k)→GK K→RDCase K d e→ (fun E:Ents=>SR K K w w E E→Calls Tryz.prog 191 #[.pointer (some ⟨g,0,none⟩),.agg e.toArray,iI f] w (Ret (fun v_ w_=>∃ K_,v_=.bool k∧SR K K_ w w_ E [.box bs g #[iI h,iI i,.bool j] 96]))) [.box bs g #[iI a,iI b,.bool c] 96]
def f128_spec (X:Dcounter→DProgram→Option (Dcounter × Bool)):Prop:=∀ {K w g bs a b c d e f h i j},X (Dcounter.mk a b c) d=some ((Dcounter.mk f h i),j)→GK K→RDProgram K d e→ (fun E:Ents=>SR K K w w E E→Calls Tryz.prog 128 #[.pointer (some ⟨g,0,none⟩),.agg e.toArray] w (Ret (fun v_ w_=>∃ K_,v_=.bool j∧SR K K_ w w_ E [.box bs g #[iI f,iI h,.bool i] 96]))) [.box bs g #[iI a,iI b,.bool c] 96]
def f99_spec (X:DProgram→Bool→Option Bool):Prop:=∀ {K w a b c d},X a c=some d→GK K→RDProgram K a b→ SR K K w w [] []→Calls Tryz.prog 99 #[.agg b.toArray,.bool c] w (Ret (fun v_ w_=>∃ K_,v_=.bool d∧SR K K_ w w_ [] []))
def f70_spec (X:DProgram→Option (Except Int DProgram)):Prop:=∀ {K w a b res_},X a=some res_→GK K→RDProgram K a b→ SR K K w w [] []→Calls Tryz.prog 70 #[.agg b.toArray] w (RetP (fun v_ w_=>∃ c K_ csr0,res_=.ok c∧v_=.agg csr0.toArray∧SR K K_ w w_ [] []∧RDProgram K_ c csr0) (fun v_ w_=>∃ c_ K_,res_=.error c_∧v_=.iface 140 (.agg #[iI c_])∧SR K K_ w w_ [] []))
def f1006904_spec (X:DProgram→DProgram→Option (Except Int (DProgram × DProgram))):Prop:=∀ {K w g bs a b c gA bsA sA_0 AsA_0 csA_0 res_},X (DProgram.mk a) (DProgram.mk sA_0)=some res_→GK K→tF K b c a→tF K AsA_0 csA_0 sA_0→ (fun E:Ents=>SR K K w w E E→Calls Tryz.prog 69 #[.pointer (some ⟨g,0,none⟩),.pointer (some ⟨gA,0,none⟩)] w (RetP (fun v_ w_=>∃ d zA_0 K_ Az_0 cz_0 AzA_0 czA_0,res_=.ok ((DProgram.mk d),(DProgram.mk zA_0))∧v_=.tuple #[]∧SR K K_ w w_ E [.box bs g #[sl Az_0 d cz_0] 24,.box bsA gA #[sl AzA_0 zA_0 czA_0] 24]∧tF K_ Az_0 cz_0 d∧tF K_ AzA_0 czA_0 zA_0) (fun v_ w_=>∃ c_ K_,res_=.error c_∧v_=.iface 140 (.agg #[iI c_])∧SR K K_ w w_ E E))) [.box bs g #[sl b a c] 24,.box bsA gA #[sl AsA_0 sA_0 csA_0] 24]
def f1006835_spec (X:DProgram→DProgram→Option (DProgram × DProgram × Int)):Prop:=∀ {K w g bs a b c gA bsA sA_0 AsA_0 csA_0 d zA_0 e},X (DProgram.mk a) (DProgram.mk sA_0)=some ((DProgram.mk d),(DProgram.mk zA_0),e)→GK K→tF K b c a→tF K AsA_0 csA_0 sA_0→ (fun E:Ents=>SR K K w w E E→Calls Tryz.prog 68 #[.func (.func 69) #[] #[.pointer (some ⟨g,0,none⟩),.pointer (some ⟨gA,0,none⟩)]] w (Ret (fun v_ w_=>∃ K_ Az_0 cz_0 AzA_0 czA_0,v_=iI e∧SR K K_ w w_ E [.box bs g #[sl Az_0 d cz_0] 24,.box bsA gA #[sl AzA_0 zA_0 czA_0] 24]∧tF K_ Az_0 cz_0 d∧tF K_ AzA_0 czA_0 zA_0))) [.box bs g #[sl b a c] 24,.box bsA gA #[sl AsA_0 sA_0 csA_0] 24]
def f46_spec (X:DProgram→Option (DProgram × Int)):Prop:=∀ {K w a b c d},X a=some (c,d)→GK K→RDProgram K a b→ SR K K w w [] []→Calls Tryz.prog 46 #[.agg b.toArray] w (Ret (fun v_ w_=>∃ K_ csr0,v_=.tuple #[.agg csr0.toArray,iI d]∧SR K K_ w w_ [] []∧RDProgram K_ c csr0))
def f1010390_spec (X:DFunc→DFunc→Option Bool):Prop:=∀ {K w l m g bs a b d e f h i c j k n},X l (DFunc.mk a b f h i c)=some n→GK K→RDFunc K l m→a.size ≤ mB→tP K d e b→tS K j k c→ (fun E:Ents=>SR K K w w E E→Calls Tryz.prog 103 #[.agg m.toArray,.pointer (some ⟨g,0,none⟩)] w (Ret (fun v_ w_=>∃ K_,v_=.bool n∧SR K K_ w w_ E E))) [.box bs g (aF a d b e f h i j c k) 52]
def f1013262_spec (X:LF→DFunc→Option Int):Prop:=∀ {K w l m n g bs a b d e f h i c j k o},X l (DFunc.mk a b f h i c)=some o→GK K→tF K m n l→a.size ≤ mB→tP K d e b→tS K j k c→ (fun E:Ents=>SR K K w w E E→Calls Tryz.prog 132 #[sl m l n,.func (.func 103) #[] #[.pointer (some ⟨g,0,none⟩)]] w (Ret (fun v_ w_=>∃ K_,v_=iI o∧SR K K_ w w_ E E))) [.box bs g (aF a d b e f h i j c k) 52]
def f1010262_spec (X:LF→DFunc→Option Bool):Prop:=∀ {K w l m n g bs a b d e f h i c j k o},X l (DFunc.mk a b f h i c)=some o→GK K→tF K m n l→a.size ≤ mB→tP K d e b→tS K j k c→ (fun E:Ents=>SR K K w w E E→Calls Tryz.prog 102 #[sl m l n,.func (.func 103) #[] #[.pointer (some ⟨g,0,none⟩)]] w (Ret (fun v_ w_=>∃ K_,v_=.bool o∧SR K K_ w w_ E E))) [.box bs g (aF a d b e f h i j c k) 52]
def f160_spec (X:Dresolver→BA→Option (Int × Bool)):Prop:=∀ {K w g bs br h l m i j n o p q r k s t a c d u b e f v x y z A},X (Dresolver.mk (DProgram.mk h) (DFunc.mk i j p q r k) a b x) y=some (z,A)→GK K→tF K l m h→i.size ≤ mB→tP K n o j→tS K s t k→Reps RStr 1 a u→a.length * 16 ≤ mB→StkR kS VInt b v→b.length * 8 ≤ mB→br ≤ (zz w)→y.size ≤ mB→ (fun E:Ents=>SR K K w w E E→Calls Tryz.prog 160 #[.pointer (some ⟨g,0,none⟩),.string y] w (Ret (fun v_ w_=>∃ K_,v_=.tuple #[iI z,.bool A]∧SR K K_ w w_ E E))) [.box bs g (aR l h m i n j o p q r s k t c a d e b f x) 176,eW br c a d 9 1 u,eK br e b f 173 v]
def f133_spec (X:Dresolver→BA→Option (Except Int (Dresolver × Int))):Prop:=∀ {K w g bs br h n o i j p q r s t k u v a c d x b e f y z A res_},X (Dresolver.mk (DProgram.mk h) (DFunc.mk i j r s t k) a b z) A=some res_→GK K→tF K n o h→i.size ≤ mB→tP K p q j→tS K u v k→Reps RStr 1 a x→a.length * 16 ≤ mB→StkR kS VInt b y→b.length * 8 ≤ mB→br ≤ (zz w)→A.size ≤ mB→ (fun E:Ents=>SR K K w w E E→Calls Tryz.prog 133 #[.pointer (some ⟨g,0,none⟩),.string A] w (RetP (fun v_ w_=>∃ B C D I J N G l m O S K_ Az_0_0 cz_0_0 Az_1_1 cz_1_1 Az_1_5 cz_1_5 Az_2 cz_2 yz_2 Az_3 cz_3 yz_3,res_=.ok ((Dresolver.mk (DProgram.mk B) (DFunc.mk C D I J N G) l m O),S)∧v_=iI S∧SR K K_ w w_ E [.box bs g (aR Az_0_0 B cz_0_0 C Az_1_1 D cz_1_1 I J N Az_1_5 G cz_1_5 Az_2 l cz_2 Az_3 m cz_3 O) 176,eW br Az_2 l cz_2 9 1 yz_2,eK br Az_3 m cz_3 173 yz_3]∧tF K_ Az_0_0 cz_0_0 B∧C.size ≤ mB∧tP K_ Az_1_1 cz_1_1 D∧tS K_ Az_1_5 cz_1_5 G∧Reps RStr 1 l yz_2∧l.length * 16 ≤ mB∧StkR kS VInt m yz_3∧m.length * 8 ≤ mB) (fun v_ w_=>∃ c_ K_,res_=.error c_∧v_=.iface 140 (.agg #[iI c_])∧SR K K_ w w_ E []))) [.box bs g (aR n h o i p j q r s t u k v c a d e b f z) 176,eW br c a d 9 1 x,eK br e b f 173 y]
def f1017941_spec (X:DExpr→Dresolver→Option (Except Int Int)):Prop:=∀ {K w y z gr bsr g bs br h l m i j n o p q r k s t a c d u b e f v x res_},X y (Dresolver.mk (DProgram.mk h) (DFunc.mk i j p q r k) a b x)=some res_→GK K→RDExpr K y z→tF K l m h→i.size ≤ mB→tP K n o j→tS K s t k→Reps RStr 1 a u→a.length * 16 ≤ mB→StkR kS VInt b v→b.length * 8 ≤ mB→br ≤ (zz w)→ (fun E:Ents=>SR K K w w E E→Calls Tryz.prog 179 #[.agg z.toArray,.pointer (some ⟨gr,0,none⟩)] w (RetP (fun v_ w_=>∃ A K_,res_=.ok A∧v_=iI A∧SR K K_ w w_ E E) (fun v_ w_=>∃ c_ K_,res_=.error c_∧v_=.iface 140 (.agg #[iI c_])∧SR K K_ w w_ E []))) [.box bsr gr #[.pointer (some ⟨g,0,none⟩)] 172,.box bs g (aR l h m i n j o p q r s k t c a d e b f x) 176,eW br c a d 9 1 u,eK br e b f 173 v]
def f1015988_spec (X:LE→Dresolver→Option (Except Int LE)):Prop:=∀ {K w y A B gr bsr g bs br h l m i j n o p q r k s t a c d u b e f v x res_},X y (Dresolver.mk (DProgram.mk h) (DFunc.mk i j p q r k) a b x)=some res_→GK K→tE K A B y→tF K l m h→i.size ≤ mB→tP K n o j→tS K s t k→Reps RStr 1 a u→a.length * 16 ≤ mB→StkR kS VInt b v→b.length * 8 ≤ mB→br ≤ (zz w)→ (fun E:Ents=>SR K K w w E E→Calls Tryz.prog 159 #[sl A y B,.func (.func 179) #[] #[.pointer (some ⟨gr,0,none⟩)]] w (RetP (fun v_ w_=>∃ z K_ Ar0 cr0,res_=.ok z∧v_=sl Ar0 z cr0∧SR K K_ w w_ E E∧tE K_ Ar0 cr0 z) (fun v_ w_=>∃ c_ K_,res_=.error c_∧v_=.iface 140 (.agg #[iI c_])∧SR K K_ w w_ E []))) [.box bsr gr #[.pointer (some ⟨g,0,none⟩)] 172,.box bs g (aR l h m i n j o p q r s k t c a d e b f x) 176,eW br c a d 9 1 u,eK br e b f 173 v]
def f1017888_spec (X:DExpr→Dresolver→Option (Except Int DExpr)):Prop:=∀ {K w y z gr bsr g bs br h l m i j n o p q r k s t a c d u b e f v x res_},X y (Dresolver.mk (DProgram.mk h) (DFunc.mk i j p q r k) a b x)=some res_→GK K→RDExpr K y z→tF K l m h→i.size ≤ mB→tP K n o j→tS K s t k→Reps RStr 1 a u→a.length * 16 ≤ mB→StkR kS VInt b v→b.length * 8 ≤ mB→br ≤ (zz w)→ (fun E:Ents=>SR K K w w E E→Calls Tryz.prog 178 #[.agg z.toArray,.func (.func 179) #[] #[.pointer (some ⟨gr,0,none⟩)]] w (RetP (fun v_ w_=>∃ A K_ csr0,res_=.ok A∧v_=.agg csr0.toArray∧SR K K_ w w_ E E∧RDExpr K_ A csr0) (fun v_ w_=>∃ c_ K_,res_=.error c_∧v_=.iface 140 (.agg #[iI c_])∧SR K K_ w w_ E []))) [.box bsr gr #[.pointer (some ⟨g,0,none⟩)] 172,.box bs g (aR l h m i n j o p q r s k t c a d e b f x) 176,eW br c a d 9 1 u,eK br e b f 173 v]
def f161_spec (X:Dresolver→LE→Option (Except Int LE)):Prop:=∀ {K w g bs br h l m i j n o p q r k s t a c d u b e f v x y A B res_},X (Dresolver.mk (DProgram.mk h) (DFunc.mk i j p q r k) a b x) y=some res_→GK K→tF K l m h→i.size ≤ mB→tP K n o j→tS K s t k→Reps RStr 1 a u→a.length * 16 ≤ mB→StkR kS VInt b v→b.length * 8 ≤ mB→br ≤ (zz w)→tE K A B y→ (fun E:Ents=>SR K K w w E E→Calls Tryz.prog 161 #[.pointer (some ⟨g,0,none⟩),sl A y B] w (RetP (fun v_ w_=>∃ z K_ Ar0 cr0,res_=.ok z∧v_=sl Ar0 z cr0∧SR K K_ w w_ E E∧tE K_ Ar0 cr0 z) (fun v_ w_=>∃ c_ K_,res_=.error c_∧v_=.iface 140 (.agg #[iI c_])∧SR K K_ w w_ E []))) [.box bs g (aR l h m i n j o p q r s k t c a d e b f x) 176,eW br c a d 9 1 u,eK br e b f 173 v]
def f1018093_spec (X:DFunc→DStmt→Option Bool):Prop:=∀ {K w x y gr bsr g bs i a j b k l c m n d o p e q r f s t h u v z},X x (DStmt.mk i a j b k l c d e f h)=some z→GK K→RDFunc K x y→a.size ≤ mB→b.size ≤ mB→tE K m n c→tS K o p d→tS K q r e→tS K s t f→tC K u v h→ (fun E:Ents=>SR K K w w E E→Calls Tryz.prog 180 #[.agg y.toArray,.pointer (some ⟨gr,0,none⟩)] w (Ret (fun v_ w_=>∃ K_,v_=.bool z∧SR K K_ w w_ E E))) [.box bsr gr #[.pointer (some ⟨g,0,none⟩)] 206,.box bs g (aS i a j b k l m c n o d p q e r s f t u h v) 62]
def f1013218_spec (X:LF→DStmt→Option Int):Prop:=∀ {K w x y z gr bsr g bs i a j b k l c m n d o p e q r f s t h u v A},X x (DStmt.mk i a j b k l c d e f h)=some A→GK K→tF K y z x→a.size ≤ mB→b.size ≤ mB→tE K m n c→tS K o p d→tS K q r e→tS K s t f→tC K u v h→ (fun E:Ents=>SR K K w w E E→Calls Tryz.prog 132 #[sl y x z,.func (.func 180) #[] #[.pointer (some ⟨gr,0,none⟩)]] w (Ret (fun v_ w_=>∃ K_,v_=iI A∧SR K K_ w w_ E E))) [.box bsr gr #[.pointer (some ⟨g,0,none⟩)] 206,.box bs g (aS i a j b k l m c n o d p q e r s f t u h v) 62]
def f163_spec (X:Dresolver→DStmt→Option (Except Int (Dresolver × DStmt))):Prop:=∀ {K w g bs br h n o i j p q r s t k u v a c d x b e f y z gA bsA sA_0 sA_1 sA_2 sA_3 sA_4 sA_5 sA_6 AsA_6 csA_6 sA_7 AsA_7 csA_7 sA_8 AsA_8 csA_8 sA_9 AsA_9 csA_9 sA_10 AsA_10 csA_10 res_},X (Dresolver.mk (DProgram.mk h) (DFunc.mk i j r s t k) a b z) (DStmt.mk sA_0 sA_1 sA_2 sA_3 sA_4 sA_5 sA_6 sA_7 sA_8 sA_9 sA_10)=some res_→GK K→tF K n o h→i.size ≤ mB→tP K p q j→tS K u v k→Reps RStr 1 a x→a.length * 16 ≤ mB→StkR kS VInt b y→b.length * 8 ≤ mB→br ≤ (zz w)→sA_1.size ≤ mB→sA_3.size ≤ mB→tE K AsA_6 csA_6 sA_6→tS K AsA_7 csA_7 sA_7→tS K AsA_8 csA_8 sA_8→tS K AsA_9 csA_9 sA_9→tC K AsA_10 csA_10 sA_10→ (fun E:Ents=>SR K K w w E E→Calls Tryz.prog 163 #[.pointer (some ⟨g,0,none⟩),.pointer (some ⟨gA,0,none⟩)] w (RetP (fun v_ w_=>∃ A B C G I J D l m N zA_0 zA_1 zA_2 zA_3 zA_4 zA_5 zA_6 zA_7 zA_8 zA_9 zA_10 K_ Az_0_0 cz_0_0 Az_1_1 cz_1_1 Az_1_5 cz_1_5 Az_2 cz_2 yz_2 Az_3 cz_3 yz_3 AzA_6 czA_6 AzA_7 czA_7 AzA_8 czA_8 AzA_9 czA_9 AzA_10 czA_10,res_=.ok ((Dresolver.mk (DProgram.mk A) (DFunc.mk B C G I J D) l m N),(DStmt.mk zA_0 zA_1 zA_2 zA_3 zA_4 zA_5 zA_6 zA_7 zA_8 zA_9 zA_10))∧v_=.tuple #[]∧SR K K_ w w_ E [.box bs g (aR Az_0_0 A cz_0_0 B Az_1_1 C cz_1_1 G I J Az_1_5 D cz_1_5 Az_2 l cz_2 Az_3 m cz_3 N) 176,eW br Az_2 l cz_2 9 1 yz_2,eK br Az_3 m cz_3 173 yz_3,.box bsA gA (aS zA_0 zA_1 zA_2 zA_3 zA_4 zA_5 AzA_6 zA_6 czA_6 AzA_7 zA_7 czA_7 AzA_8 zA_8 czA_8 AzA_9 zA_9 czA_9 AzA_10 zA_10 czA_10) 62]∧tF K_ Az_0_0 cz_0_0 A∧B.size ≤ mB∧tP K_ Az_1_1 cz_1_1 C∧tS K_ Az_1_5 cz_1_5 D∧Reps RStr 1 l yz_2∧l.length * 16 ≤ mB∧StkR kS VInt m yz_3∧m.length * 8 ≤ mB∧zA_1.size ≤ mB∧zA_3.size ≤ mB∧tE K_ AzA_6 czA_6 zA_6∧tS K_ AzA_7 czA_7 zA_7∧tS K_ AzA_8 czA_8 zA_8∧tS K_ AzA_9 czA_9 zA_9∧tC K_ AzA_10 czA_10 zA_10) (fun v_ w_=>∃ c_ K_,res_=.error c_∧v_=.iface 140 (.agg #[iI c_])∧SR K K_ w w_ E []))) [.box bs g (aR n h o i p j q r s t u k v c a d e b f z) 176,eW br c a d 9 1 x,eK br e b f 173 y,.box bsA gA (aS sA_0 sA_1 sA_2 sA_3 sA_4 sA_5 AsA_6 sA_6 csA_6 AsA_7 sA_7 csA_7 AsA_8 sA_8 csA_8 AsA_9 sA_9 csA_9 AsA_10 sA_10 csA_10) 62]
def f134_spec (X:Dresolver→DStmt→Option (Except Int (Dresolver × DStmt))):Prop:=∀ {K w g bs br h n o i j p q r s t k u v a c d x b e f y z G I res_},X (Dresolver.mk (DProgram.mk h) (DFunc.mk i j r s t k) a b z) G=some res_→GK K→tF K n o h→i.size ≤ mB→tP K p q j→tS K u v k→Reps RStr 1 a x→a.length * 16 ≤ mB→StkR kS VInt b y→b.length * 8 ≤ mB→br ≤ (zz w)→RDStmt K G I→ (fun E:Ents=>SR K K w w E E→Calls Tryz.prog 134 #[.pointer (some ⟨g,0,none⟩),.agg I.toArray] w (RetP (fun v_ w_=>∃ A B C J N O D l m S U K_ Az_0_0 cz_0_0 Az_1_1 cz_1_1 Az_1_5 cz_1_5 Az_2 cz_2 yz_2 Az_3 cz_3 yz_3 csr0,res_=.ok ((Dresolver.mk (DProgram.mk A) (DFunc.mk B C J N O D) l m S),U)∧v_=.agg csr0.toArray∧SR K K_ w w_ E [.box bs g (aR Az_0_0 A cz_0_0 B Az_1_1 C cz_1_1 J N O Az_1_5 D cz_1_5 Az_2 l cz_2 Az_3 m cz_3 S) 176,eW br Az_2 l cz_2 9 1 yz_2,eK br Az_3 m cz_3 173 yz_3]∧tF K_ Az_0_0 cz_0_0 A∧B.size ≤ mB∧tP K_ Az_1_1 cz_1_1 C∧tS K_ Az_1_5 cz_1_5 D∧Reps RStr 1 l yz_2∧l.length * 16 ≤ mB∧StkR kS VInt m yz_3∧m.length * 8 ≤ mB∧RDStmt K_ U csr0) (fun v_ w_=>∃ c_ K_,res_=.error c_∧v_=.iface 140 (.agg #[iI c_])∧SR K K_ w w_ E []))) [.box bs g (aR n h o i p j q r s t u k v c a d e b f z) 176,eW br c a d 9 1 x,eK br e b f 173 y]
def f1016212_spec (X:Dresolver→BA→LS→DCase→Option (Except Int (Dresolver × DCase × LS))):Prop:=∀ {K w g bs br h n o i j p q r s t k u v a c d x b e f y z A B N O gA bsA sA_0 sA_1 sA_2 sA_3 AsA_3 csA_3 sA_4 AsA_4 csA_4 res_},X (Dresolver.mk (DProgram.mk h) (DFunc.mk i j r s t k) a b z) A B (DCase.mk sA_0 sA_1 sA_2 sA_3 sA_4)=some res_→GK K→tF K n o h→i.size ≤ mB→tP K p q j→tS K u v k→Reps RStr 1 a x→a.length * 16 ≤ mB→StkR kS VInt b y→b.length * 8 ≤ mB→br ≤ (zz w)→A.size ≤ mB→tS K N O B→sA_1.size ≤ mB→tE K AsA_3 csA_3 sA_3→tS K AsA_4 csA_4 sA_4→ (fun E:Ents=>SR K K w w E E→Calls Tryz.prog 162 #[.pointer (some ⟨g,0,none⟩),.string A,sl N B O,.pointer (some ⟨gA,2,none⟩)] w (RetP (fun v_ w_=>∃ C D G S U V I l m W zA_0 zA_1 zA_2 zA_3 zA_4 J K_ Az_0_0 cz_0_0 Az_1_1 cz_1_1 Az_1_5 cz_1_5 Az_2 cz_2 yz_2 Az_3 cz_3 yz_3 AzA_3 czA_3 AzA_4 czA_4 Ar0 cr0,res_=.ok ((Dresolver.mk (DProgram.mk C) (DFunc.mk D G S U V I) l m W),(DCase.mk zA_0 zA_1 zA_2 zA_3 zA_4),J)∧v_=sl Ar0 J cr0∧SR K K_ w w_ E [.box bs g (aR Az_0_0 C cz_0_0 D Az_1_1 G cz_1_1 S U V Az_1_5 I cz_1_5 Az_2 l cz_2 Az_3 m cz_3 W) 176,eW br Az_2 l cz_2 9 1 yz_2,eK br Az_3 m cz_3 173 yz_3,.box bsA gA (aC' zA_0 zA_1 zA_2 AzA_3 zA_3 czA_3 AzA_4 zA_4 czA_4) 84]∧tF K_ Az_0_0 cz_0_0 C∧D.size ≤ mB∧tP K_ Az_1_1 cz_1_1 G∧tS K_ Az_1_5 cz_1_5 I∧Reps RStr 1 l yz_2∧l.length * 16 ≤ mB∧StkR kS VInt m yz_3∧m.length * 8 ≤ mB∧zA_1.size ≤ mB∧tE K_ AzA_3 czA_3 zA_3∧tS K_ AzA_4 czA_4 zA_4∧tS K_ Ar0 cr0 J) (fun v_ w_=>∃ c_ K_,res_=.error c_∧v_=.iface 140 (.agg #[iI c_])∧SR K K_ w w_ E []))) [.box bs g (aR n h o i p j q r s t u k v c a d e b f z) 176,eW br c a d 9 1 x,eK br e b f 173 y,.box bsA gA (aC' sA_0 sA_1 sA_2 AsA_3 sA_3 csA_3 AsA_4 sA_4 csA_4) 84]
def f1016220_spec (X:Dresolver→BA→LS→DStmt→Option (Except Int (Dresolver × DStmt × LS))):Prop:=∀ {K w g bs br h n o i j p q r s t k u v a c d x b e f y z A B N O gA bsA sA_0 sA_1 sA_2 sA_3 sA_4 sA_5 sA_6 AsA_6 csA_6 sA_7 AsA_7 csA_7 sA_8 AsA_8 csA_8 sA_9 AsA_9 csA_9 sA_10 AsA_10 csA_10 res_},X (Dresolver.mk (DProgram.mk h) (DFunc.mk i j r s t k) a b z) A B (DStmt.mk sA_0 sA_1 sA_2 sA_3 sA_4 sA_5 sA_6 sA_7 sA_8 sA_9 sA_10)=some res_→GK K→tF K n o h→i.size ≤ mB→tP K p q j→tS K u v k→Reps RStr 1 a x→a.length * 16 ≤ mB→StkR kS VInt b y→b.length * 8 ≤ mB→br ≤ (zz w)→A.size ≤ mB→tS K N O B→sA_1.size ≤ mB→sA_3.size ≤ mB→tE K AsA_6 csA_6 sA_6→tS K AsA_7 csA_7 sA_7→tS K AsA_8 csA_8 sA_8→tS K AsA_9 csA_9 sA_9→tC K AsA_10 csA_10 sA_10→ (fun E:Ents=>SR K K w w E E→Calls Tryz.prog 162 #[.pointer (some ⟨g,0,none⟩),.string A,sl N B O,.pointer (some ⟨gA,2,none⟩)] w (RetP (fun v_ w_=>∃ C D G S U V I l m W zA_0 zA_1 zA_2 zA_3 zA_4 zA_5 zA_6 zA_7 zA_8 zA_9 zA_10 J K_ Az_0_0 cz_0_0 Az_1_1 cz_1_1 Az_1_5 cz_1_5 Az_2 cz_2 yz_2 Az_3 cz_3 yz_3 AzA_6 czA_6 AzA_7 czA_7 AzA_8 czA_8 AzA_9 czA_9 AzA_10 czA_10 Ar0 cr0,res_=.ok ((Dresolver.mk (DProgram.mk C) (DFunc.mk D G S U V I) l m W),(DStmt.mk zA_0 zA_1 zA_2 zA_3 zA_4 zA_5 zA_6 zA_7 zA_8 zA_9 zA_10),J)∧v_=sl Ar0 J cr0∧SR K K_ w w_ E [.box bs g (aR Az_0_0 C cz_0_0 D Az_1_1 G cz_1_1 S U V Az_1_5 I cz_1_5 Az_2 l cz_2 Az_3 m cz_3 W) 176,eW br Az_2 l cz_2 9 1 yz_2,eK br Az_3 m cz_3 173 yz_3,.box bsA gA (aS zA_0 zA_1 zA_2 zA_3 zA_4 zA_5 AzA_6 zA_6 czA_6 AzA_7 zA_7 czA_7 AzA_8 zA_8 czA_8 AzA_9 zA_9 czA_9 AzA_10 zA_10 czA_10) 62]∧tF K_ Az_0_0 cz_0_0 C∧D.size ≤ mB∧tP K_ Az_1_1 cz_1_1 G∧tS K_ Az_1_5 cz_1_5 I∧Reps RStr 1 l yz_2∧l.length * 16 ≤ mB∧StkR kS VInt m yz_3∧m.length * 8 ≤ mB∧zA_1.size ≤ mB∧zA_3.size ≤ mB∧tE K_ AzA_6 czA_6 zA_6∧tS K_ AzA_7 czA_7 zA_7∧tS K_ AzA_8 czA_8 zA_8∧tS K_ AzA_9 czA_9 zA_9∧tC K_ AzA_10 czA_10 zA_10∧tS K_ Ar0 cr0 J) (fun v_ w_=>∃ c_ K_,res_=.error c_∧v_=.iface 140 (.agg #[iI c_])∧SR K K_ w w_ E []))) [.box bs g (aR n h o i p j q r s t u k v c a d e b f z) 176,eW br c a d 9 1 x,eK br e b f 173 y,.box bsA gA (aS sA_0 sA_1 sA_2 sA_3 sA_4 sA_5 AsA_6 sA_6 csA_6 AsA_7 sA_7 csA_7 AsA_8 sA_8 csA_8 AsA_9 sA_9 csA_9 AsA_10 sA_10 csA_10) 62]
def f1016266_spec (X:Dresolver→BA→LS→Option (Except Int (Dresolver × LS))):Prop:=∀ {K w g bs br h n o i j p q r s t k u v a c d x b e f y z A B N O res_},X (Dresolver.mk (DProgram.mk h) (DFunc.mk i j r s t k) a b z) A B=some res_→GK K→tF K n o h→i.size ≤ mB→tP K p q j→tS K u v k→Reps RStr 1 a x→a.length * 16 ≤ mB→StkR kS VInt b y→b.length * 8 ≤ mB→br ≤ (zz w)→A.size ≤ mB→tS K N O B→ (fun E:Ents=>SR K K w w E E→Calls Tryz.prog 162 #[.pointer (some ⟨g,0,none⟩),.string A,sl N B O,.pointer none] w (RetP (fun v_ w_=>∃ C D G S U V I l m W J K_ Az_0_0 cz_0_0 Az_1_1 cz_1_1 Az_1_5 cz_1_5 Az_2 cz_2 yz_2 Az_3 cz_3 yz_3 Ar0 cr0,res_=.ok ((Dresolver.mk (DProgram.mk C) (DFunc.mk D G S U V I) l m W),J)∧v_=sl Ar0 J cr0∧SR K K_ w w_ E [.box bs g (aR Az_0_0 C cz_0_0 D Az_1_1 G cz_1_1 S U V Az_1_5 I cz_1_5 Az_2 l cz_2 Az_3 m cz_3 W) 176,eW br Az_2 l cz_2 9 1 yz_2,eK br Az_3 m cz_3 173 yz_3]∧tF K_ Az_0_0 cz_0_0 C∧D.size ≤ mB∧tP K_ Az_1_1 cz_1_1 G∧tS K_ Az_1_5 cz_1_5 I∧Reps RStr 1 l yz_2∧l.length * 16 ≤ mB∧StkR kS VInt m yz_3∧m.length * 8 ≤ mB∧tS K_ Ar0 cr0 J) (fun v_ w_=>∃ c_ K_,res_=.error c_∧v_=.iface 140 (.agg #[iI c_])∧SR K K_ w w_ E []))) [.box bs g (aR n h o i p j q r s t u k v c a d e b f z) 176,eW br c a d 9 1 x,eK br e b f 173 y]
def f1016420_spec (X:Dresolver→BA→LS→DStmt→Option (Except Int (Dresolver × DStmt × LS))):Prop:=∀ {K w g bs br h n o i j p q r s t k u v a c d x b e f y z A B N O gA bsA sA_0 sA_1 sA_2 sA_3 sA_4 sA_5 sA_6 AsA_6 csA_6 sA_7 AsA_7 csA_7 sA_8 AsA_8 csA_8 sA_9 AsA_9 csA_9 sA_10 AsA_10 csA_10 res_},X (Dresolver.mk (DProgram.mk h) (DFunc.mk i j r s t k) a b z) A B (DStmt.mk sA_0 sA_1 sA_2 sA_3 sA_4 sA_5 sA_6 sA_7 sA_8 sA_9 sA_10)=some res_→GK K→tF K n o h→i.size ≤ mB→tP K p q j→tS K u v k→Reps RStr 1 a x→a.length * 16 ≤ mB→StkR kS VInt b y→b.length * 8 ≤ mB→br ≤ (zz w)→A.size ≤ mB→tS K N O B→sA_1.size ≤ mB→sA_3.size ≤ mB→tE K AsA_6 csA_6 sA_6→tS K AsA_7 csA_7 sA_7→tS K AsA_8 csA_8 sA_8→tS K AsA_9 csA_9 sA_9→tC K AsA_10 csA_10 sA_10→ (fun E:Ents=>SR K K w w E E→Calls Tryz.prog 164 #[.pointer (some ⟨g,0,none⟩),.string A,sl N B O,.pointer (some ⟨gA,2,none⟩)] w (RetP (fun v_ w_=>∃ C D G S U V I l m W zA_0 zA_1 zA_2 zA_3 zA_4 zA_5 zA_6 zA_7 zA_8 zA_9 zA_10 J K_ Az_0_0 cz_0_0 Az_1_1 cz_1_1 Az_1_5 cz_1_5 Az_2 cz_2 yz_2 Az_3 cz_3 yz_3 AzA_6 czA_6 AzA_7 czA_7 AzA_8 czA_8 AzA_9 czA_9 AzA_10 czA_10 Ar0 cr0,res_=.ok ((Dresolver.mk (DProgram.mk C) (DFunc.mk D G S U V I) l m W),(DStmt.mk zA_0 zA_1 zA_2 zA_3 zA_4 zA_5 zA_6 zA_7 zA_8 zA_9 zA_10),J)∧v_=sl Ar0 J cr0∧SR K K_ w w_ E [.box bs g (aR Az_0_0 C cz_0_0 D Az_1_1 G cz_1_1 S U V Az_1_5 I cz_1_5 Az_2 l cz_2 Az_3 m cz_3 W) 176,eW br Az_2 l cz_2 9 1 yz_2,eK br Az_3 m cz_3 173 yz_3,.box bsA gA (aS zA_0 zA_1 zA_2 zA_3 zA_4 zA_5 AzA_6 zA_6 czA_6 AzA_7 zA_7 czA_7 AzA_8 zA_8 czA_8 AzA_9 zA_9 czA_9 AzA_10 zA_10 czA_10) 62]∧tF K_ Az_0_0 cz_0_0 C∧D.size ≤ mB∧tP K_ Az_1_1 cz_1_1 G∧tS K_ Az_1_5 cz_1_5 I∧Reps RStr 1 l yz_2∧l.length * 16 ≤ mB∧StkR kS VInt m yz_3∧m.length * 8 ≤ mB∧zA_1.size ≤ mB∧zA_3.size ≤ mB∧tE K_ AzA_6 czA_6 zA_6∧tS K_ AzA_7 czA_7 zA_7∧tS K_ AzA_8 czA_8 zA_8∧tS K_ AzA_9 czA_9 zA_9∧tC K_ AzA_10 czA_10 zA_10∧tS K_ Ar0 cr0 J) (fun v_ w_=>∃ c_ K_,res_=.error c_∧v_=.iface 140 (.agg #[iI c_])∧SR K K_ w w_ E []))) [.box bs g (aR n h o i p j q r s t u k v c a d e b f z) 176,eW br c a d 9 1 x,eK br e b f 173 y,.box bsA gA (aS sA_0 sA_1 sA_2 sA_3 sA_4 sA_5 AsA_6 sA_6 csA_6 AsA_7 sA_7 csA_7 AsA_8 sA_8 csA_8 AsA_9 sA_9 csA_9 AsA_10 sA_10 csA_10) 62]
def f1016466_spec (X:Dresolver→BA→LS→Option (Except Int (Dresolver × LS))):Prop:=∀ {K w g bs br h n o i j p q r s t k u v a c d x b e f y z A B N O res_},X (Dresolver.mk (DProgram.mk h) (DFunc.mk i j r s t k) a b z) A B=some res_→GK K→tF K n o h→i.size ≤ mB→tP K p q j→tS K u v k→Reps RStr 1 a x→a.length * 16 ≤ mB→StkR kS VInt b y→b.length * 8 ≤ mB→br ≤ (zz w)→A.size ≤ mB→tS K N O B→ (fun E:Ents=>SR K K w w E E→Calls Tryz.prog 164 #[.pointer (some ⟨g,0,none⟩),.string A,sl N B O,.pointer none] w (RetP (fun v_ w_=>∃ C D G S U V I l m W J K_ Az_0_0 cz_0_0 Az_1_1 cz_1_1 Az_1_5 cz_1_5 Az_2 cz_2 yz_2 Az_3 cz_3 yz_3 Ar0 cr0,res_=.ok ((Dresolver.mk (DProgram.mk C) (DFunc.mk D G S U V I) l m W),J)∧v_=sl Ar0 J cr0∧SR K K_ w w_ E [.box bs g (aR Az_0_0 C cz_0_0 D Az_1_1 G cz_1_1 S U V Az_1_5 I cz_1_5 Az_2 l cz_2 Az_3 m cz_3 W) 176,eW br Az_2 l cz_2 9 1 yz_2,eK br Az_3 m cz_3 173 yz_3]∧tF K_ Az_0_0 cz_0_0 C∧D.size ≤ mB∧tP K_ Az_1_1 cz_1_1 G∧tS K_ Az_1_5 cz_1_5 I∧Reps RStr 1 l yz_2∧l.length * 16 ≤ mB∧StkR kS VInt m yz_3∧m.length * 8 ≤ mB∧tS K_ Ar0 cr0 J) (fun v_ w_=>∃ c_ K_,res_=.error c_∧v_=.iface 140 (.agg #[iI c_])∧SR K K_ w w_ E []))) [.box bs g (aR n h o i p j q r s t u k v c a d e b f z) 176,eW br c a d 9 1 x,eK br e b f 173 y]
def f104_spec (X:DProgram→DFunc→Option (Except Int (DFunc × LB))):Prop:=∀ {K w b c d e res_},X b d=some res_→GK K→RDProgram K b c→RDFunc K d e→ SR K K w w [] []→Calls Tryz.prog 104 #[.agg c.toArray,.agg e.toArray] w (RetP (fun v_ w_=>∃ f a K_ csr0 Ar1 cr1,res_=.ok (f,a)∧v_=.tuple #[.agg csr0.toArray,sl Ar1 a cr1]∧SR K K_ w w_ [] []∧RDFunc K_ f csr0∧RSl BA RStr 1 16 K_ Ar1 cr1 a) (fun v_ w_=>∃ c_ K_,res_=.error c_∧v_=.iface 140 (.agg #[iI c_])∧SR K K_ w w_ [] []))
def f72_spec (X:DProgram→Option (Except Int (DProgram × (List LB)))):Prop:=∀ (K:KH) (w:World) (b:DProgram) (c:List Value) (res_:(Except Int (DProgram × (List LB)))),X b=some res_→GK K→RDProgram K b c→ SR K K w w [] []→Calls Tryz.prog 72 #[.agg c.toArray] w (RetP (fun v_ w_=>∃ d a K_ csr0 Ar1 cr1,res_=.ok (d,a)∧v_=.tuple #[.agg csr0.toArray,sl Ar1 a cr1]∧SR K K_ w w_ [] []∧RDProgram K_ d csr0∧RSl LB (RSlE BA (fun K=>RStr) 1 16 K_) 1 24 K_ Ar1 cr1 a) (fun v_ w_=>∃ c_ K_,res_=.error c_∧v_=.iface 140 (.agg #[iI c_])∧SR K K_ w w_ [] []))
def f1007104_spec (X:DProgram→DProgram→Option (Except Int (DProgram × DProgram))):Prop:=∀ {K w g bs a b c gA bsA sA_0 AsA_0 csA_0 res_},X (DProgram.mk a) (DProgram.mk sA_0)=some res_→GK K→tF K b c a→tF K AsA_0 csA_0 sA_0→ (fun E:Ents=>SR K K w w E E→Calls Tryz.prog 71 #[.pointer (some ⟨g,0,none⟩),.pointer (some ⟨gA,0,none⟩)] w (RetP (fun v_ w_=>∃ d zA_0 K_ Az_0 cz_0 AzA_0 czA_0,res_=.ok ((DProgram.mk d),(DProgram.mk zA_0))∧v_=.tuple #[]∧SR K K_ w w_ E [.box bs g #[sl Az_0 d cz_0] 24,.box bsA gA #[sl AzA_0 zA_0 czA_0] 24]∧tF K_ Az_0 cz_0 d∧tF K_ AzA_0 czA_0 zA_0) (fun v_ w_=>∃ c_ K_,res_=.error c_∧v_=.iface 140 (.agg #[iI c_])∧SR K K_ w w_ E E))) [.box bs g #[sl b a c] 24,.box bsA gA #[sl AsA_0 sA_0 csA_0] 24]
def f1006890_spec (X:DProgram→DProgram→Option (DProgram × DProgram × Int)):Prop:=∀ {K w g bs a b c gA bsA sA_0 AsA_0 csA_0 d zA_0 e},X (DProgram.mk a) (DProgram.mk sA_0)=some ((DProgram.mk d),(DProgram.mk zA_0),e)→GK K→tF K b c a→tF K AsA_0 csA_0 sA_0→ (fun E:Ents=>SR K K w w E E→Calls Tryz.prog 68 #[.func (.func 71) #[] #[.pointer (some ⟨g,0,none⟩),.pointer (some ⟨gA,0,none⟩)]] w (Ret (fun v_ w_=>∃ K_ Az_0 cz_0 AzA_0 czA_0,v_=iI e∧SR K K_ w w_ E [.box bs g #[sl Az_0 d cz_0] 24,.box bsA gA #[sl AzA_0 zA_0 czA_0] 24]∧tF K_ Az_0 cz_0 d∧tF K_ AzA_0 czA_0 zA_0))) [.box bs g #[sl b a c] 24,.box bsA gA #[sl AsA_0 sA_0 csA_0] 24]
def f47_spec (X:DProgram→Option (DProgram × Int)):Prop:=∀ {K w a b c d},X a=some (c,d)→GK K→RDProgram K a b→ SR K K w w [] []→Calls Tryz.prog 47 #[.agg b.toArray] w (Ret (fun v_ w_=>∃ K_ csr0,v_=.tuple #[.agg csr0.toArray,iI d]∧SR K K_ w w_ [] []∧RDProgram K_ c csr0))
def f105_spec (X:Dchecker→LE→(List Int)→Option Bool):Prop:=∀ {K w g bs br d i j e f k l m n o h p q a b c r s u v t x y z},X (Dchecker.mk (DProgram.mk d) (DFunc.mk e f m n o h) a) s t=some z→GK K→tF K i j d→e.size ≤ mB→tP K k l f→tS K p q h→Reps (RInt .i64) 1 a r→a.length * 8 ≤ mB→br ≤ (zz w)→tE K u v s→RSl Int (RInt .i64) 1 8 K x y t→ (fun E:Ents=>SR K K w w E E→Calls Tryz.prog 105 #[.pointer (some ⟨g,0,none⟩),sl u s v,sl x t y] w (Ret (fun v_ w_=>∃ K_,v_=.bool z∧SR K K_ w w_ E E))) [.box bs g #[sl i d j,.string e,sl k f l,iI m,.bool n,iI o,sl p h q,sl b a c] 87,eW br b a c 3 1 r]
def f106_spec (X:Option (List (Int × (List Int)))):Prop:=∀ {K w a},X =some a→GK K→ SR K K w w [] []→Calls Tryz.prog 106 #[] w (Ret (fun v_ w_=>∃ K_ br0 er0 cr0,v_=.map (some br0)∧SR K K_ w w_ [] [.mp (zz w) br0 er0 cr0]∧MapR kI (VSl Int (RInt .i64) 1 8 K_) a er0.toList))
def f48_spec (X:Dchecker→LS→Option (Dchecker × Bool)):Prop:=∀ {K w g bs br e j k f h l m n o p i q r a b c s t z A u v x B C D y d G},X (Dchecker.mk (DProgram.mk e) (DFunc.mk f h n o p i) a) t=some ((Dchecker.mk (DProgram.mk u) (DFunc.mk v x B C D y) d),G)→GK K→tF K j k e→f.size ≤ mB→tP K l m h→tS K q r i→Reps (RInt .i64) 1 a s→a.length * 8 ≤ mB→br ≤ (zz w)→tS K z A t→ (fun E:Ents=>SR K K w w E E→Calls Tryz.prog 48 #[.pointer (some ⟨g,0,none⟩),sl z t A] w (Ret (fun v_ w_=>∃ K_ Az_0_0 cz_0_0 Az_1_1 cz_1_1 Az_1_5 cz_1_5 Az_2 cz_2 yz_2,v_=.bool G∧SR K K_ w w_ E [.box bs g #[sl Az_0_0 u cz_0_0,.string v,sl Az_1_1 x cz_1_1,iI B,.bool C,iI D,sl Az_1_5 y cz_1_5,sl Az_2 d cz_2] 87,eW br Az_2 d cz_2 3 1 yz_2]∧tF K_ Az_0_0 cz_0_0 u∧v.size ≤ mB∧tP K_ Az_1_1 cz_1_1 x∧tS K_ Az_1_5 cz_1_5 y∧Reps (RInt .i64) 1 d yz_2∧d.length * 8 ≤ mB))) [.box bs g #[sl j e k,.string f,sl l h m,iI n,.bool o,iI p,sl q i r,sl b a c] 87,eW br b a c 3 1 s]
def f73_spec (X:Dchecker→DStmt→Option (Dchecker × Bool)):Prop:=∀ {K w g bs br e j k f h l m n o p i q r a b c s y z t u v A B C x d D},X (Dchecker.mk (DProgram.mk e) (DFunc.mk f h n o p i) a) y=some ((Dchecker.mk (DProgram.mk t) (DFunc.mk u v A B C x) d),D)→GK K→tF K j k e→f.size ≤ mB→tP K l m h→tS K q r i→Reps (RInt .i64) 1 a s→a.length * 8 ≤ mB→br ≤ (zz w)→RDStmt K y z→ (fun E:Ents=>SR K K w w E E→Calls Tryz.prog 73 #[.pointer (some ⟨g,0,none⟩),.agg z.toArray] w (Ret (fun v_ w_=>∃ K_ Az_0_0 cz_0_0 Az_1_1 cz_1_1 Az_1_5 cz_1_5 Az_2 cz_2 yz_2,v_=.bool D∧SR K K_ w w_ E [.box bs g #[sl Az_0_0 t cz_0_0,.string u,sl Az_1_1 v cz_1_1,iI A,.bool B,iI C,sl Az_1_5 x cz_1_5,sl Az_2 d cz_2] 87,eW br Az_2 d cz_2 3 1 yz_2]∧tF K_ Az_0_0 cz_0_0 t∧u.size ≤ mB∧tP K_ Az_1_1 cz_1_1 v∧tS K_ Az_1_5 cz_1_5 x∧Reps (RInt .i64) 1 d yz_2∧d.length * 8 ≤ mB))) [.box bs g #[sl j e k,.string f,sl l h m,iI n,.bool o,iI p,sl q i r,sl b a c] 87,eW br b a c 3 1 s]
def f26_spec (X:DProgram→Option (DProgram × (List (List Int)) × Int)):Prop:=∀ {K w b c d a e},X b=some (d,a,e)→GK K→RDProgram K b c→ SR K K w w [] []→Calls Tryz.prog 26 #[.agg c.toArray] w (Ret (fun v_ w_=>∃ K_ csr0 Ar1 cr1,v_=.tuple #[.agg csr0.toArray,sl Ar1 a cr1,iI e]∧SR K K_ w w_ [] []∧RDProgram K_ d csr0∧RSl (List Int) (RSlE Int (fun K=>(RInt .i64)) 1 8 K_) 1 24 K_ Ar1 cr1 a))
def f10_spec (X:DProgram→Option (DProgram × Int)):Prop:=∀ {K w a b c d},X a=some (c,d)→GK K→RDProgram K a b→ SR K K w w [] []→Calls Tryz.prog 10 #[.agg b.toArray] w (Ret (fun v_ w_=>∃ K_ csr0,v_=.tuple #[.agg csr0.toArray,iI d]∧SR K K_ w w_ [] []∧RDProgram K_ c csr0))
def f25_spec (X:LS→Option DProgram):Prop:=∀ {K w a b c d},X a=some d→GK K→tS K b c a→ SR K K w w [] []→Calls Tryz.prog 25 #[sl b a c] w (Ret (fun v_ w_=>∃ K_ csr0,v_=.agg csr0.toArray∧SR K K_ w w_ [] []∧RDProgram K_ d csr0))
def f9_spec (X:Option Bool):Prop:=∀ {K w a},X =some a→GK K→ SR K K w w [] []→Calls Tryz.prog 9 #[] w (Ret (fun v_ w_=>∃ K_,v_=.bool a∧SR K K_ w w_ [] []))
def f4_spec (X:DExpr→(List Int)→Option Bool):Prop:=∀ {K w b c a d e f},X b a=some f→GK K→RDExpr K b c→RSl Int (RInt .i64) 1 8 K d e a→ SR K K w w [] []→Calls Tryz.prog 4 #[.agg c.toArray,sl d a e] w (Ret (fun v_ w_=>∃ K_,v_=.bool f∧SR K K_ w w_ [] []))
end Go.Proofs.YtphdlngnegjgcaaGreatDoor
set_option maxRecDepth 100000
set_option maxHeartbeats 20000000
namespace Go.Proofs.YtphdlngnegjgcaaGreatDoor
open Go
theorem f30_b_ok (k:Nat):f30_spec (f30_b k):=by
 unfold f30_spec;intro K wi b i h hG e;obtain ⟨r_,hr_,h⟩:=rz h;refine enter Tryz.func30 rfl (n:=9) rfl ?_;unfold f30_b at h;refine sr (m2 vN (wt (wp_cut (fun a w=>∃ f d,a=fr 9 (updL f [(2,.bool d)])∧SR K K wi w [] []∧f30_j1 k d=some r_) ?_ ?_)))
 ·refine wp_region_lit (m1 (iI b) (c0 (decide (b < 0)) (m1 (.bool (decide (b < 0))) (cd h (fun c h=>?_) (fun c h=>?_)))))
  ·exact o1 5 c (o1 5 c (m3 true vT (cg c) (m2 vT (wt (⟨_,true,fR,e,h⟩)))))
  ·exact n1 5 c (m1 (iI b) (n1 5 c (c0 (decide (b > 6)) (m3 false (.bool (decide (b > 6))) (cg c) (m2 (.bool (decide (b > 6))) (wt (⟨_,(decide (b > 6)),fR,e,h⟩)))))))
 ·rintro _ j ⟨f,d,rfl,g,h⟩;unfold f30_j1 at h;refine wp_ret ?_;cases (oi h).trans hr_;exact retA1 rfl (resT rfl) ⟨K,rfl,g⟩
theorem f30_ok (k:Nat):f30_spec (f30 k):=f30_b_ok k
theorem f1005218_b_ok (k:Nat):f1005218_spec (f1005218_b k):=by
 unfold f1005218_spec;intro K wi d m p N h hG s A;obtain ⟨r_,hr_,h⟩:=rz h;refine enter Tryz.func52 rfl (n:=19) rfl ?_;unfold f1005218_b at h;refine sr (m2 (iI 0) (wt (wp_seq (sr (m1 (sl m d p) (lS d.length Tye36 (m1 (iI 0) (wt (wp_block (wp_loopG (fun g_ a w=>∃ t g e,∃ (c:Nat),g_=e.length∧a=fr 19 (updL t [(0,sl m d p),(1,.func (.func 30) #[] #[]),(7,iI (d.length:Int)),(8,iI (c:Int))])∧KH.sub K g∧SR K g wi w [] []∧d.drop c=e∧f1005218_l1 k e c=some r_) d.length ?_ ?_))))))))))
 ·exact ⟨_,K,d,0,rfl,fR,kr,A,List.drop_zero,h⟩
 ·rintro _ _ O ⟨t,g,e,c,rfl,rfl,j,l,f,h⟩;rcases e with _ | ⟨u,e⟩
  ·unfold f1005218_l1 at h;refine sr (bcm (r:=false) rfl rfl (congrArg some (drop_nil_lt f)) (wt (wp_seq (cndF rfl (wp_exit (thenX (thenX (blkX (thenN (sr (m2 (iI (-1)) (wt (wp_ret ?_)))))))))))));cases (oi h).trans hr_;exact retA1 rfl (resT rfl) ⟨g,rfl,l⟩
  ·unfold f1005218_l1 at h;refine sr (bcm (r:=true) rfl rfl (congrArg some (drop_cons_t f)) (wt (wp_seq (cndT rfl (wp_skip (thenN (wp_seq (wp_block (sr (m1 (iI (c:Int)) (m2 (iI (c:Int)) (wt (sr (m1 (.func (.func 30) #[] #[]) (m1 (sl m d p) (m1 (iI (c:Int)) ?_))))))))))))))));obtain ⟨B,C,S,D,U,G,I⟩:=((s.mono j (fun _ _ h=>h))).row.at_ (drop_cons_at f);obtain rfl:=I;refine idxN (b:=B) (o:=C) (i:=c) Tye36 Tys3 rfl D rfl (drop_cons_lt f) (ld1 (v:=iI u) Tya3 rfl (l.cell (kr.cell (G 0 _ rfl))) ?_);obtain ⟨V,J,h⟩:=ob h;refine cv ([iI u]) Tyb30 ((f30_ok k) J (hG.mono j) (pt l)) ?_;rintro _ W ⟨x,rfl,y⟩;have z:=ca y l;refine wt (cd h (fun q h=>?_) (fun q h=>?_))
   ·refine cT q (sr (m1 (iI (c:Int)) (m2 (iI (c:Int)) (wt (wp_ret (blkR (thenR (thenR (blkR (thenR ?_))))))))));cases (oi h).trans hr_;exact retA1 rfl (resT rfl) ⟨x,rfl,z⟩
   ·exact cF q (wp_skip (blkN (thenN (wp_region_lit (bar (r:=((c + 1:Nat):Int)) rfl rfl (inc_ok (le_big (((s.mono j (fun _ _ h=>h))).len) (by decide) (drop_cons_lt f))) (m1 (iI ((c + 1:Nat):Int)) (wt (⟨_,Nat.lt_succ_self _,_,x,e,c + 1,rfl,fR,(j.trans y.sub),z,drop_cons_next f,h⟩))))))))
theorem f1005218_ok (k:Nat):f1005218_spec (f1005218 k):=f1005218_b_ok k
theorem f1002918_b_ok (k:Nat):f1002918_spec (f1002918_b k):=by
 unfold f1002918_spec;intro K wi b c d a h hG f e;obtain ⟨r_,hr_,h⟩:=rz h;refine enter Tryz.func29 rfl (n:=9) rfl ?_;unfold f1002918_b at h;refine sr (m2 vN (wt (sr (m1 (sl c b d) (m1 (.func (.func 30) #[] #[]) ?_)))));obtain ⟨a,g,h⟩:=ob h;refine cv ([sl c b d,.func (.func 30) #[] #[]]) Tyb52 ((f1005218_ok k) g (hG.mono kr) f (pt e)) ?_;rintro _ m ⟨i,rfl,j⟩;have l:=ca j e;refine c0 (decide (a ≥ 0)) (m2 (.bool (decide (a ≥ 0))) (wt (wp_ret ?_)));cases (oi h).trans hr_;exact retA1 rfl (resT rfl) ⟨i,rfl,l⟩
theorem f1002918_ok (k:Nat):f1002918_spec (f1002918 k):=f1002918_b_ok k
theorem f76_b_ok (k:Nat):f76_spec (f76_b k):=by
 unfold f76_spec;intro K wi g bs c e i d x y z A h hG j;obtain ⟨r_,hr_,h⟩:=rz h;refine enter Tryz.func76 rfl (n:=30) rfl ?_;unfold f76_b at h;refine sr (m2 vN (wt (sr (m1 (pp g 0) (nilc rfl (fd 0 Tyf96_0 rfl (l1 0 (iI c) j Tya3 (bar (r:=(w64 (c + 1))) rfl rfl rfl (nilc rfl (fd 0 Tyf96_0 rfl (sI 0 (iI (w64 (c + 1))) #[iI (w64 (c + 1)),iI e,.bool i] j Tys3 rfl rfl (fun B j=>(wt (sr (m1 (pp g 0) (m1 (pp g 0) (nilc rfl (fd 1 Tyf96_1 rfl (l1 0 (iI e) j Tya3 (m1 (iI d) (mxb (a:=e) (b:=d) rfl rfl (nilc rfl (fd 1 Tyf96_1 rfl (sI 0 (iI (imax e d)) #[iI (w64 (c + 1)),iI (imax e d),.bool i] j Tys3 rfl rfl (fun C l=>(wt (wp_cut (fun a w=>∃ o m,a=fr 30 (updL o [(4,.bool m)])∧SR K K wi w [.box bs g #[iI c,iI e,.bool i] 96] [.box bs g #[iI (w64 (c + 1)),iI (imax e d),.bool i] 96]∧f76_j1 k c e i d m=some r_) ?_ ?_)))))))))))))))))))))))))))
 ·refine wp_region_lit (m1 (pp g 0) (nilc rfl (fd 0 Tyf96_0 rfl (l1 0 (iI (w64 (c + 1))) l Tya3 (c0 (decide ((w64 (c + 1)) ≤ 600)) (m1 (.bool (decide ((w64 (c + 1)) ≤ 600))) (cd h (fun f h=>?_) (fun f h=>?_))))))))
  ·exact n1 26 f (m1 (iI d) (n1 26 f (c0 (decide (d ≤ 16)) (m3 true (.bool (decide (d ≤ 16))) (cg f) (m2 (.bool (decide (d ≤ 16))) (wt (⟨_,(decide (d ≤ 16)),fR,l,h⟩)))))))
  ·exact o1 26 f (o1 26 f (m3 false vN (cg f) (m2 vN (wt (⟨_,false,fR,l,h⟩)))))
 ·rintro _ D ⟨o,m,rfl,p,h⟩;unfold f76_j1 at h;refine wp_ret ?_;have e_:=(Option.some.inj h).trans hr_;obtain ⟨q,s⟩:=Prod.mk.inj e_;obtain ⟨t,u,v⟩:=Dcounter.mk.inj q;subst t;subst u;subst v;subst s;exact retA1 rfl (resT rfl) ⟨K,rfl,p⟩
theorem f76_ok (k:Nat):f76_spec (f76 k):=f76_b_ok k
theorem f77_b_ok (k:Nat):f77_spec (f77_b k):=by
 unfold f77_spec;intro K wi c e d l h hG g;obtain ⟨r_,hr_,h⟩:=rz h;refine enter Tryz.func77 rfl (n:=15) rfl ?_;unfold f77_b at h;refine sr (m2 vN (wt (wp_cut (fun a w=>∃ i f,a=fr 15 (updL i [(6,.bool f)])∧SR K K wi w [] []∧f77_j1 k f=some r_) ?_ ?_)))
 ·refine wp_region_lit (m1 (iI c) (m1 (iI e) (c0 (decide (c ≥ e)) (m1 (.bool (decide (c ≥ e))) (cd h (fun b h=>?_) (fun b h=>?_))))))
  ·exact n1 10 b (m1 (iI c) (n1 10 b (m1 (iI d) (n1 10 b (c0 (decide (c ≤ d)) (m3 true (.bool (decide (c ≤ d))) (cg b) (m2 (.bool (decide (c ≤ d))) (wt (⟨_,(decide (c ≤ d)),fR,g,h⟩)))))))))
  ·exact o1 10 b (o1 10 b (o1 10 b (m3 false vN (cg b) (m2 vN (wt (⟨_,false,fR,g,h⟩))))))
 ·rintro _ m ⟨i,f,rfl,j,h⟩;unfold f77_j1 at h;refine wp_ret ?_;cases (oi h).trans hr_;exact retA1 rfl (resT rfl) ⟨K,rfl,j⟩
theorem f77_ok (k:Nat):f77_spec (f77 k):=f77_b_ok k
theorem f95_b_ok (k:Nat):f95_spec (f95_b k):=by
 unfold f95_spec;intro K wi b t h hG q s;obtain ⟨r_,hr_,h⟩:=rz h;refine enter Tryz.func95 rfl (n:=23) rfl ?_;unfold f95_b at h;refine sr (m2 vN (wt (wp_seq (sr (m1 (.string b) (lnT (a:=b) Tyt9 rfl (m1 (iI 0) (wt (wp_block (wp_loopG (fun g_ a w=>∃ m e,∃ (c:Nat),g_=e.length∧a=fr 23 (updL m [(0,.string b),(5,iI (b.size:Int)),(6,iI (c:Int))])∧SR K K wi w [] []∧b.data.toList.drop c=e∧f95_l1 k b e c=some r_) b.data.toList.length ?_ ?_))))))))))
 ·exact ⟨_,b.data.toList,0,rfl,fR,s,List.drop_zero,h⟩
 ·rintro _ _ u ⟨m,e,c,rfl,rfl,i,f,h⟩;rcases e with _ | ⟨g,e⟩
  ·unfold f95_l1 at h;refine sr (bcm (r:=false) rfl rfl (congrArg some (drop_nil_ls f)) (wt (wp_seq (cndF rfl (wp_exit (thenX (thenX (blkX (thenN (sr (m1 (.string b) (lnT (a:=b) Tyt9 rfl (c0 (decide ((b.size:Int) ≤ 60)) (m2 (.bool (decide ((b.size:Int) ≤ 60))) (wt (wp_ret ?_))))))))))))))));cases (oi h).trans hr_;exact retA1 rfl (resT rfl) ⟨K,rfl,i⟩
  ·unfold f95_l1 at h;refine sr (bcm (r:=true) rfl rfl (congrArg some (drop_cons_ts f)) (wt (wp_seq (cndT rfl (wp_skip (thenN (wp_seq (wp_block (sr (m1 (iI (c:Int)) (m2 (iI (c:Int)) (wt (wp_cut (fun a w=>∃ o j,a=fr 23 (updL o [(0,.string b),(5,iI (b.size:Int)),(6,iI (c:Int)),(18,.bool j)])∧SR K K wi w [] []∧f95_j1 k c j (f95_l1 k b e)=some r_) ?_ ?_)))))))))))))
   ·refine wp_region_lit (m1 (.string b) (m1 (iI (c:Int)) (ixN Tyt9 rfl rfl f (c0 (decide ((g.toNat:Int) < 32)) (m1 (.bool (decide ((g.toNat:Int) < 32))) (cd h (fun d h=>?_) (fun d h=>?_)))))))
    ·exact o1 13 d (o1 13 d (o1 13 d (o1 13 d (m3 true vT (cg d) (wt (⟨_,true,fR,i,h⟩))))))
    ·exact n1 13 d (m1 (.string b) (n1 13 d (m1 (iI (c:Int)) (n1 13 d (ixN Tyt9 rfl rfl f (n1 13 d (c0 (decide ((g.toNat:Int) > 126)) (m3 false (.bool (decide ((g.toNat:Int) > 126))) (cg d) (wt (⟨_,(decide ((g.toNat:Int) > 126)),fR,i,h⟩))))))))))
   ·rintro _ v ⟨o,j,rfl,p,h⟩;unfold f95_j1 at h;refine cd h (fun l h=>?_) (fun l h=>?_)
    ·refine cT l (sr (m2 vN (wt (wp_ret (blkR (thenR (thenR (blkR (thenR ?_)))))))));cases (oi h).trans hr_;exact retA1 rfl (resT rfl) ⟨K,rfl,p⟩
    ·exact cF l (wp_skip (blkN (thenN (wp_region_lit (bar (r:=((c + 1:Nat):Int)) rfl rfl (inc_ok (le_bigs q f)) (m1 (iI ((c + 1:Nat):Int)) (wt (⟨_,Nat.lt_succ_self _,_,e,c + 1,rfl,fR,p,drop_cons_next f,h⟩))))))))
theorem f95_ok (k:Nat):f95_spec (f95 k):=f95_b_ok k
theorem isText_short (k:Nat) (a:ByteArray) : ∀ (l:List UInt8) (i:Nat),f95_l1 k a l i=some true→a.size≤60
 | [],i,h=>by
  unfold f95_l1 at h;have:=of_decide_eq_true (Option.some.inj h);omega
 | e :: l,i,h=>by
  unfold f95_l1 at h;rcases Bool.eq_false_or_eq_true (decide ((e.toNat:Int) < 32)) with h1 | h1
  ·rw [h1] at h;simp [f95_j1] at h
  ·rw [h1] at h;simp only [cond_false,f95_j1] at h;rcases Bool.eq_false_or_eq_true (decide ((e.toNat:Int) > 126)) with h2 | h2
   ·rw [h2] at h;simp at h
   ·rw [h2] at h;exact isText_short k a l _ h
theorem quote_ok (k:Nat) (h162:f95_spec (f95 k)) {K:KH} {wi:World} {a:ByteArray} {r:Bool} (h:f95 k a=some r) (hG:GK K) (ha:a.size≤mB) (S0:Sx K K wi wi (fun b=>b ∈ Ents.blks []) []) :
  Calls Tryz.prog 67 #[.string a] wi (Ret fun v w'=>∃ (K' : KH) (s:ByteArray),v=.tuple #[.string s,.int .i64 (cond r 0 2)]∧Sx K K' wi w' (fun b=>b ∈ Ents.blks []) []):=by
 refine enter Tryz.func67 rfl (n:=12) rfl ?_;refine wp_seq ?_;refine wp_region_lit ?_;refine asg (v:=.string ⟨#[]⟩) rfl ?_;refine asg (v:=.int .i64 0) rfl ?_;refine wpList_nil ?_;refine thenN ?_;refine wp_seq ?_;refine wp_seq ?_;refine wp_region_lit ?_;refine mv (v:=.string a) rfl ?_;refine clV (caps:=#[]) (vs:=[.string a]) rfl (by kernel_rfl) rfl (h162 h hG ha S0) ?_;rintro _ w1 ⟨K1,rfl,T1⟩;refine unot (a:=r) rfl ?_;refine wpList_nil ?_;refine thenN ?_;rcases r with _ | _
 ·refine cndT rfl ?_;refine wp_seq ?_;refine wp_region_lit ?_;refine asg (v:=.string ⟨#[]⟩) rfl ?_;refine asg (v:=.int .i64 2) rfl ?_;refine wpList_nil ?_;refine thenN ?_;refine wp_ret ?_;refine thenR ?_;exact retA2 rfl (resT rfl) (resT rfl) ⟨K1,_,rfl,T1⟩
 ·have hsh:a.size≤60:=isText_short k a _ _ h;refine cndF rfl ?_;refine wp_skip ?_;refine thenN ?_;refine wp_seq ?_;refine wp_region_lit ?_;refine mv (v:=.string a) rfl ?_;have hG1:=hG.mono T1.sub;refine clV (caps:=#[]) (vs:=[.string a,.string ⟨#[92]⟩,.string ⟨#[92,92]⟩]) rfl (by kernel_rfl) rfl (replAll T1 hG1 a ⟨#[92]⟩ ⟨#[92,92]⟩ (by omega) (by decide) (by decide)) ?_;rintro _ w2 ⟨s2,rfl,hs2,T2⟩;refine clV (caps:=#[]) (vs:=[.string s2,.string ⟨#[34]⟩,.string ⟨#[92,34]⟩]) rfl (by kernel_rfl) rfl (replAll T2 hG1 s2 ⟨#[34]⟩ ⟨#[92,34]⟩ (by omega) (by decide) (by decide)) ?_;rintro _ w3 ⟨s3,rfl,hs3,T3⟩;refine bsa (a:=⟨#[34]⟩) (b:=s3) rfl rfl (by have:(⟨#[34]⟩:ByteArray).size=1:=rfl; omega) ?_;refine bsa (a:=⟨#[34]⟩ ++ s3) (b:=⟨#[34]⟩) rfl rfl (by have:(⟨#[34]⟩:ByteArray).size=1:=rfl; rw [ByteArray.size_append]; omega) ?_;refine asg (v:=.string (⟨#[34]⟩ ++ s3 ++ ⟨#[34]⟩)) rfl ?_;refine asg (v:=.int .i64 0) rfl ?_;refine wpList_nil ?_;refine thenN ?_;refine wp_ret ?_;exact retA2 rfl (resT rfl) (resT rfl) ⟨K1,_,rfl,T3⟩
theorem f78_ok (k:Nat):f78_spec (f78 k):=by
 unfold f78_spec;intro K wi a0 r0 h hG ha0 S0;unfold f78 at h;refine enter Tryz.func78 rfl (n:=12) rfl ?_;refine wp_seq ?_;refine wp_region_lit ?_;refine asg (v:=.bool false) rfl ?_;refine wpList_nil ?_;refine thenN ?_;refine wp_seq ?_;refine wp_region_lit ?_;refine mv (v:=.string a0) rfl ?_;refine clV (caps:=#[]) (vs:=[.string a0]) rfl (by kernel_rfl) rfl (quote_ok k (f95_ok k) h hG ha0 S0) ?_;rintro _ w1 ⟨K1,s1,rfl,T1⟩;refine mv (v:=.tuple #[.string s1,.int .i64 (cond r0 0 2)]) rfl ?_;refine ext (v:=.string s1) rfl rfl ?_;refine ext (v:=.int .i64 (cond r0 0 2)) rfl rfl ?_;refine asg (v:=.string s1) rfl ?_;refine asg (v:=.int .i64 (cond r0 0 2)) rfl ?_;refine wpList_nil ?_;refine thenN ?_;refine wp_seq ?_;refine wp_region_lit ?_;refine mv (v:=.int .i64 (cond r0 0 2)) rfl ?_;refine bcm (r:=decide ((cond r0 0 2:Int)=0)) rfl rfl rfl ?_;refine asg (v:=.bool (decide ((cond r0 0 2:Int)=0))) rfl ?_;refine wpList_nil ?_;refine thenN ?_;refine wp_ret ?_;exact retA1 rfl (resT rfl) ⟨K1,by cases r0 <;> rfl,T1⟩
theorem f135_b_ok (k:Nat):f135_spec (f135_b k):=by
 unfold f135_spec;intro K wi b i h hG e;obtain ⟨r_,hr_,h⟩:=rz h;refine enter Tryz.func135 rfl (n:=9) rfl ?_;unfold f135_b at h;refine sr (m2 vN (wt (wp_cut (fun a w=>∃ f d,a=fr 9 (updL f [(2,.bool d)])∧SR K K wi w [] []∧f135_j1 k d=some r_) ?_ ?_)))
 ·refine wp_region_lit (m1 (.int .u8 b) (c0 (decide (b ≥ 97)) (m1 (.bool (decide (b ≥ 97))) (cd h (fun c h=>?_) (fun c h=>?_)))))
  ·exact n1 5 c (m1 (.int .u8 b) (n1 5 c (c0 (decide (b ≤ 122)) (m3 true (.bool (decide (b ≤ 122))) (cg c) (m2 (.bool (decide (b ≤ 122))) (wt (⟨_,(decide (b ≤ 122)),fR,e,h⟩)))))))
  ·exact o1 5 c (o1 5 c (m3 false vN (cg c) (m2 vN (wt (⟨_,false,fR,e,h⟩)))))
 ·rintro _ j ⟨f,d,rfl,g,h⟩;unfold f135_j1 at h;refine wp_ret ?_;cases (oi h).trans hr_;exact retA1 rfl (resT rfl) ⟨K,rfl,g⟩
theorem f135_ok (k:Nat):f135_spec (f135 k):=f135_b_ok k
theorem f136_b_ok (k:Nat):f136_spec (f136_b k):=by
 unfold f136_spec;intro K wi b i h hG e;obtain ⟨r_,hr_,h⟩:=rz h;refine enter Tryz.func136 rfl (n:=9) rfl ?_;unfold f136_b at h;refine sr (m2 vN (wt (wp_cut (fun a w=>∃ f d,a=fr 9 (updL f [(2,.bool d)])∧SR K K wi w [] []∧f136_j1 k d=some r_) ?_ ?_)))
 ·refine wp_region_lit (m1 (.int .u8 b) (c0 (decide (b ≥ 48)) (m1 (.bool (decide (b ≥ 48))) (cd h (fun c h=>?_) (fun c h=>?_)))))
  ·exact n1 5 c (m1 (.int .u8 b) (n1 5 c (c0 (decide (b ≤ 57)) (m3 true (.bool (decide (b ≤ 57))) (cg c) (m2 (.bool (decide (b ≤ 57))) (wt (⟨_,(decide (b ≤ 57)),fR,e,h⟩)))))))
  ·exact o1 5 c (o1 5 c (m3 false vN (cg c) (m2 vN (wt (⟨_,false,fR,e,h⟩)))))
 ·rintro _ j ⟨f,d,rfl,g,h⟩;unfold f136_j1 at h;refine wp_ret ?_;cases (oi h).trans hr_;exact retA1 rfl (resT rfl) ⟨K,rfl,g⟩
theorem f136_ok (k:Nat):f136_spec (f136 k):=f136_b_ok k
theorem f111_b_ok (k:Nat):f111_spec (f111_b k):=by
 unfold f111_spec;intro K wi b S h hG C D;obtain ⟨r_,hr_,h⟩:=rz h;refine enter Tryz.func111 rfl (n:=28) rfl ?_;unfold f111_b at h;refine sr (m2 vN (wt (wp_seq (sr (m1 (.string b) (lnT (a:=b) Tyt9 rfl (m1 (iI 0) (wt (wp_block (wp_loopG (fun g_ a w=>∃ u i f,∃ (c:Nat),g_=f.length∧a=fr 28 (updL u [(0,.string b),(5,iI (b.size:Int)),(6,iI (c:Int))])∧KH.sub K i∧SR K i wi w [] []∧b.data.toList.drop c=f∧f111_l1 k b f c=some r_) b.data.toList.length ?_ ?_))))))))))
 ·exact ⟨_,K,b.data.toList,0,rfl,fR,kr,D,List.drop_zero,h⟩
 ·rintro _ _ U ⟨u,i,f,c,rfl,rfl,p,q,g,h⟩;rcases f with _ | ⟨v,f⟩
  ·unfold f111_l1 at h;refine sr (bcm (r:=false) rfl rfl (congrArg some (drop_nil_ls g)) (wt (wp_seq (cndF rfl (wp_exit (thenX (thenX (blkX (thenN (sr (m1 (.string b) (bsc (r:=(!seq b ⟨#[]⟩)) rfl rfl rfl (m2 (.bool (!seq b ⟨#[]⟩)) (wt (wp_ret ?_)))))))))))))));cases (oi h).trans hr_;exact retA1 rfl (resT rfl) ⟨i,rfl,q⟩
  ·unfold f111_l1 at h;refine sr (bcm (r:=true) rfl rfl (congrArg some (drop_cons_ts g)) (wt (wp_seq (cndT rfl (wp_skip (thenN (wp_seq (wp_block (sr (m1 (iI (c:Int)) (m2 (iI (c:Int)) (wt (wp_cut (fun a w=>∃ x j s,a=fr 28 (updL x [(0,.string b),(5,iI (b.size:Int)),(6,iI (c:Int)),(24,.bool s)])∧KH.sub i j∧SR K j wi w [] []∧f111_j1 k c s (f111_l1 k b f)=some r_) ?_ ?_)))))))))))))
   ·refine wp_region_lit (m1 (.string b) (m1 (iI (c:Int)) (ixN Tyt9 rfl rfl g ?_)));obtain ⟨y,G,h⟩:=ob h;refine cv ([.int .u8 (v.toNat:Int)]) Tyb135 ((f135_ok k) G (hG.mono p) (pt q)) ?_;rintro _ V ⟨z,rfl,l⟩;have m:=ca l q;refine uN y (m1 (.bool (!y)) (cd h (fun d h=>?_) (fun d h=>?_)))
    ·refine n1 14 d (m1 (iI (c:Int)) (n1 14 d (c0 ((c:Int) == 0) (n1 14 d (m1 (.bool ((c:Int) == 0)) (cd h (fun e h=>?_) (fun e h=>?_)))))))
     ·exact o1 17 e (o1 17 e (o1 17 e (o1 17 e (o1 17 e (n1 14 d (m3 true vT (cg e) (m3 true vT (cg d) (wt (⟨_,z,true,fR,l.sub,m,h⟩)))))))))
     ·refine n1 17 e (m1 (.string b) (n1 17 e (m1 (iI (c:Int)) (n1 17 e (ixN Tyt9 rfl rfl g (n1 17 e ?_))))));obtain ⟨o,I,h⟩:=ob h;refine cv ([.int .u8 (v.toNat:Int)]) Tyb136 ((f136_ok k) I (hG.mono m.sub) (pt m)) ?_;rintro _ W ⟨J,rfl,A⟩;have N:=ca A m;exact n1 17 e (uN o (n1 14 d (m3 false (.bool (!o)) (cg e) (m3 true (.bool (!o)) (cg d) (wt (⟨_,J,(!o),fR,(l.sub.trans A.sub),N,h⟩))))))
    ·exact o1 14 d (o1 14 d (o1 14 d (ou 17 (ou 17 (ou 17 (ou 17 (ou 17 (o1 14 d (m3 false vN (cg d) (wt (⟨_,z,false,fR,l.sub,m,h⟩)))))))))))
   ·rintro _ X ⟨x,j,s,rfl,O,B,h⟩;unfold f111_j1 at h;refine cd h (fun t h=>?_) (fun t h=>?_)
    ·refine cT t (sr (m2 vN (wt (wp_ret (blkR (thenR (thenR (blkR (thenR ?_)))))))));cases (oi h).trans hr_;exact retA1 rfl (resT rfl) ⟨j,rfl,B⟩
    ·exact cF t (wp_skip (blkN (thenN (wp_region_lit (bar (r:=((c + 1:Nat):Int)) rfl rfl (inc_ok (le_bigs C g)) (m1 (iI ((c + 1:Nat):Int)) (wt (⟨_,Nat.lt_succ_self _,_,j,f,c + 1,rfl,fR,(p.trans O),B,drop_cons_next g,h⟩))))))))
theorem f111_ok (k:Nat):f111_spec (f111 k):=f111_b_ok k
theorem f165_b_ok (k:Nat):f165_spec (f165_b k):=by
 unfold f165_spec;intro K wi d l m g C h hG q D u;obtain ⟨r_,hr_,h⟩:=rz h;refine enter Tryz.func165 rfl (n:=19) rfl ?_;unfold f165_b at h;refine sr (m2 (iI 0) (wt (wp_seq (sr (m1 (sl l d m) (lS d.length Tye107 (m1 (iI 0) (wt (wp_block (wp_loopG (fun g_ a w=>∃ s e,∃ (c:Nat),g_=e.length∧a=fr 19 (updL s [(0,sl l d m),(1,.string g),(7,iI (d.length:Int)),(8,iI (c:Int))])∧SR K K wi w [] []∧d.drop c=e∧f165_l1 k g e c=some r_) d.length ?_ ?_))))))))))
 ·exact ⟨_,d,0,rfl,fR,u,List.drop_zero,h⟩
 ·rintro _ _ G ⟨s,e,c,rfl,rfl,j,f,h⟩;rcases e with _ | ⟨t,e⟩
  ·unfold f165_l1 at h;refine sr (bcm (r:=false) rfl rfl (congrArg some (drop_nil_lt f)) (wt (wp_seq (cndF rfl (wp_exit (thenX (thenX (blkX (thenN (sr (m2 (iI (-1)) (wt (wp_ret ?_)))))))))))));cases (oi h).trans hr_;exact retA1 rfl (resT rfl) ⟨K,rfl,j⟩
  ·unfold f165_l1 at h;refine sr (bcm (r:=true) rfl rfl (congrArg some (drop_cons_t f)) (wt (wp_seq (cndT rfl (wp_skip (thenN (wp_seq (wp_block (sr (m1 (iI (c:Int)) (m2 (iI (c:Int)) (wt (sr (m1 (.string g) (m1 (sl l d m) (m1 (iI (c:Int)) ?_))))))))))))))));obtain ⟨x,y,I,z,J,A,B⟩:=(q).row.at_ (drop_cons_at f);obtain ⟨rfl,N⟩:=B;refine idxN (b:=x) (o:=y) (i:=c) Tye107 Tys9 rfl z rfl (drop_cons_lt f) (ld1 (v:=.string t) Tya9 rfl (j.cell (kr.cell (A 0 _ rfl))) (bsc (r:=(seq g t)) rfl rfl rfl (wt (cd h (fun p h=>?_) (fun p h=>?_)))))
   ·refine cT p (sr (m1 (iI (c:Int)) (m2 (iI (c:Int)) (wt (wp_ret (blkR (thenR (thenR (blkR (thenR ?_))))))))));cases (oi h).trans hr_;exact retA1 rfl (resT rfl) ⟨K,rfl,j⟩
   ·exact cF p (wp_skip (blkN (thenN (wp_region_lit (bar (r:=((c + 1:Nat):Int)) rfl rfl (inc_ok (le_big ((q).len) (by decide) (drop_cons_lt f))) (m1 (iI ((c + 1:Nat):Int)) (wt (⟨_,Nat.lt_succ_self _,_,e,c + 1,rfl,fR,j,drop_cons_next f,h⟩))))))))
theorem f165_ok (k:Nat):f165_spec (f165 k):=f165_b_ok k
theorem f137_b_ok (k:Nat):f137_spec (f137_b k):=by
 unfold f137_spec;intro K wi b c d e a h hG g i f;obtain ⟨r_,hr_,h⟩:=rz h;refine enter Tryz.func137 rfl (n:=9) rfl ?_;unfold f137_b at h;refine sr (m2 vN (wt (sr (m1 (sl c b d) (m1 (.string e) ?_)))));obtain ⟨a,j,h⟩:=ob h;refine cv ([sl c b d,.string e]) Tyb165 ((f165_ok k) j (hG.mono kr) g i (pt f)) ?_;rintro _ p ⟨l,rfl,m⟩;have o:=ca m f;refine c0 (decide (a ≥ 0)) (m2 (.bool (decide (a ≥ 0))) (wt (wp_ret ?_)));cases (oi h).trans hr_;exact retA1 rfl (resT rfl) ⟨l,rfl,o⟩
theorem f137_ok (k:Nat):f137_spec (f137 k):=f137_b_ok k
set_option maxRecDepth 100000 in
theorem words_fields:(Lib.fields wordsS.data.toList).map (fun l=>(⟨l.toArray⟩:ByteArray))=wordsL:=by kernel_rfl
theorem words_sizes : ∀ x ∈ wordsL,x.size≤mB:=by
 have h:wordsL.all (fun x=>decide (x.size≤mB))=true:=by kernel_rfl
 intro x hx;simpa using List.all_eq_true.1 h x hx
set_option maxRecDepth 100000 in
theorem f138_ok (k:Nat):f138_spec (f138 k):=by
 unfold f138_spec;intro K wi r0 h hG S0;unfold f138 at h;obtain rfl:=Option.some.inj h;refine enter Tryz.func138 rfl (n:=2) rfl ?_;refine wp_seq ?_;refine wp_region_lit ?_;refine asg (v:=.slice none 0 0) rfl ?_;refine wpList_nil ?_;refine thenN ?_;refine wp_seq ?_;refine wp_region_lit ?_;have hlen:(Lib.fields wordsS.data.toList).length=wordsL.length:=by rw [← words_fields,List.length_map]
 have hmap:(Lib.fields wordsS.data.toList).map (fun l=>Value.string ⟨l.toArray⟩)=wordsL.map Value.string:=by rw [← words_fields,List.map_map]; rfl
 obtain ⟨K1,S1,hs1,hr1⟩:=S0.texts (xs:=wordsL) 9 words_sizes (by decide);refine clV (caps:=#[]) (vs:=[.string wordsS]) (R:=fun v w'=>v=.slice (some ⟨(zz wi),0,none⟩) wordsL.length wordsL.length∧w'=wi.alloc (.cells (wordsL.map Value.string).toArray 9)) rfl (by kernel_rfl) rfl
  ((Any.strings_Fields_core Tryz.lays157 (by kernel_rfl) wordsS wi (by decide) words_ascii (fun c hc=>S0.cell (hG.1 c hc))).mono (fun e w' h=>⟨_,h.1,by rw [hlen],by rw [h.2,hmap]; rfl⟩)) ?_
 rintro _ _ ⟨rfl,rfl⟩;refine asg (v:=.slice (some ⟨(zz wi),0,none⟩) wordsL.length wordsL.length) rfl ?_;refine wpList_nil ?_;refine thenN ?_;refine wp_ret ?_;exact retA1 rfl (resT rfl) ⟨K1,_,_,rfl,S1,hr1⟩
theorem f112_b_ok (k:Nat):f112_spec (f112_b k):=by
 unfold f112_spec;intro K wi a b h hG f c;obtain ⟨r_,hr_,h⟩:=rz h;refine enter Tryz.func112 rfl (n:=6) rfl ?_;unfold f112_b at h;refine sr (m2 vN (wt (sr ?_)));obtain ⟨b,g,h⟩:=ob h;refine cv ([]) Tyb138 ((f138_ok k) g (hG.mono kr) (pt c)) ?_;rintro _ s ⟨t,i,j,rfl,d,l⟩;have e:=ca d c;refine m1 (.string a) ?_;obtain ⟨m,o,h⟩:=ob h;refine cv ([sl i b j,.string a]) Tyb137 ((f137_ok k) o (hG.mono d.sub) l f (pt e)) ?_;rintro _ u ⟨p,rfl,q⟩;have r:=ca q e;refine m2 (.bool m) (wt (wp_ret ?_));cases (oi h).trans hr_;exact retA1 rfl (resT rfl) ⟨p,rfl,r⟩
theorem f112_ok (k:Nat):f112_spec (f112 k):=f112_b_ok k
theorem f79_b_ok (k:Nat):f79_spec (f79_b k):=by
 unfold f79_spec;intro K wi b y h hG l m;obtain ⟨r_,hr_,h⟩:=rz h;refine enter Tryz.func79 rfl (n:=15) rfl ?_;unfold f79_b at h;refine sr (m2 vN (wt (wp_cut (fun a w=>∃ o f j,a=fr 15 (updL o [(2,.bool j)])∧KH.sub K f∧SR K f wi w [] []∧f79_j1 k j=some r_) ?_ ?_)))
 ·refine wp_region_lit (m1 (.string b) ?_);obtain ⟨r,s,h⟩:=ob h;refine cv ([.string b]) Tyb111 ((f111_ok k) s (hG.mono kr) l (pt m)) ?_;rintro _ z ⟨p,rfl,e⟩;have g:=ca e m;refine m1 (.bool r) (cd h (fun c h=>?_) (fun c h=>?_))
  ·refine n1 5 c (m1 (.string b) (n1 5 c (lnT (a:=b) Tyt9 rfl (n1 5 c (c0 (decide ((b.size:Int) ≤ 12)) (m3 true (.bool (decide ((b.size:Int) ≤ 12))) (cg c) (m1 (.bool (decide ((b.size:Int) ≤ 12))) (cd h (fun d h=>?_) (fun d h=>?_)))))))))
   ·refine n1 10 d (m1 (.string b) (n1 10 d ?_));obtain ⟨i,t,h⟩:=ob h;refine cv ([.string b]) Tyb112 ((f112_ok k) t (hG.mono e.sub) l (pt g)) ?_;rintro _ A ⟨u,rfl,q⟩;have v:=ca q g;exact n1 10 d (uN i (m3 true (.bool (!i)) (cg d) (m2 (.bool (!i)) (wt (⟨_,u,(!i),fR,(e.sub.trans q.sub),v,h⟩)))))
   ·exact o1 10 d (o1 10 d (o1 10 d (m3 false vN (cg d) (m2 vN (wt (⟨_,p,false,fR,e.sub,g,h⟩))))))
  ·exact o1 5 c (o1 5 c (o1 5 c (m3 false vN (cg c) (m1 vN (o0 10 (o0 10 (o0 10 (m3 false vN rfl (m2 vN (wt (⟨_,p,false,fR,e.sub,g,h⟩)))))))))))
 ·rintro _ B ⟨o,f,j,rfl,C,x,h⟩;unfold f79_j1 at h;refine wp_ret ?_;cases (oi h).trans hr_;exact retA1 rfl (resT rfl) ⟨f,rfl,x⟩
theorem f79_ok (k:Nat):f79_spec (f79 k):=f79_b_ok k
theorem f53_b_ok (k:Nat) (F:Fam53) (IH53:f53_spec F.f53) (IH80:f80_spec F.f80):f53_spec (f53_b k F):=by
 unfold f53_spec;intro K wi g bs I J N a6 bO i bP bQ bR bS h hG a7 a8;obtain ⟨r_,hr_,h⟩:=rz h;obtain ⟨c,d,b,u,f⟩:=a6;obtain ⟨v,x,rfl,aM,a9⟩:=RDExpr.open a7;refine enter Tryz.func53 rfl (n:=107) rfl ?_;unfold f53_b at h;refine sr (bxoC (cs:=(aE c d b u v f x)) a8 rfl rfl (fun ba bb=>(m2 vN (wt (wp_seq (wp_cut (fun a w=>∃ aN t m o p ai,a=fr 107 (updL aN [(0,pp g 0),(2,iI i),(4,pp (zz wi) 0),(24,.bool ai)])∧KH.sub K t∧SR K t wi w [.box bs g #[iI I,iI J,.bool N] 96] [.box bs g #[iI m,iI o,.bool p] 96,.box (zz wi) (zz wi) (aE c d b u v f x) 35]∧f53_j1 k F c d b f i m o p ai=some r_) ?_ ?_))))))
 ·refine wp_region_lit (m1 (pp g 0) (m1 (iI i) ?_));have aP:=p10 bb;obtain ⟨⟨⟨aj,ak,O⟩,aQ⟩,bd,h⟩:=ob h;refine cv ([pp g 0,iI i]) Tyb76 ((f76_ok k) bd (hG.mono kr) (pt aP)) ?_;rintro _ bT ⟨al,rfl,ac⟩;have Y:=ca ac aP;refine uN aQ (m1 (.bool (!aQ)) (cd h (fun j h=>?_) (fun j h=>?_)))
  ·exact o1 13 j (o1 13 j (o1 13 j (o1 13 j (ou 17 (ou 17 (ou 17 (ou 17 (ou 17 (o1 13 j (m3 true vT (cg j) (wt (⟨_,al,aj,ak,O,true,fR,ac.sub,Y,h⟩))))))))))))
  ·refine n1 13 j (fd 3 Tyf35_3 rfl (n1 13 j (l1 1 (iI u) Y Tya3 (n1 13 j (c0 (u != 0) (n1 13 j (m1 (.bool (u != 0)) (cd h (fun q h=>?_) (fun q h=>?_)))))))))
   ·exact n1 17 q (m1 (pp g 0) (n1 17 q (nilc rfl (n1 17 q (fd 2 Tyf96_2 rfl (n1 17 q (l1 0 (.bool O) Y Tya4 (n1 17 q (uN O (n1 13 j (m3 true (.bool (!O)) (cg q) (m3 false (.bool (!O)) (cg j) (wt (⟨_,al,aj,ak,O,(!O),fR,ac.sub,Y,h⟩))))))))))))))
   ·exact o1 17 q (o1 17 q (o1 17 q (o1 17 q (o1 17 q (n1 13 j (m3 false vN (cg q) (m3 false vN (cg j) (wt (⟨_,al,aj,ak,O,false,fR,ac.sub,Y,h⟩)))))))))
 ·rintro _ bU ⟨aN,t,m,o,p,ai,rfl,S,e,h⟩;unfold f53_j1 at h;refine cd h (fun am h=>?_) (fun am h=>?_)
  ·refine cT am (sr (m2 vN (wt (wp_ret (thenR ?_)))));have e_:=(Option.some.inj h).trans hr_;obtain ⟨be,bf⟩:=Prod.mk.inj e_;obtain ⟨bg,bh,bi⟩:=Dcounter.mk.inj be;subst bg;subst bh;subst bi;subst bf;exact retA1 rfl (resT rfl) ⟨t,rfl,(e.sel [0])⟩
  ·refine cF am (wp_skip (thenN (sr (m2 (iI 0) (wt (sr (m2 vN (wt (wp_cut (fun a w=>∃ aT W U Z,a=fr 107 (updL aT [(0,pp g 0),(2,iI i),(4,pp (zz wi) 0),(7,iI U),(8,.bool Z)])∧KH.sub t W∧SR K W wi w [.box bs g #[iI I,iI J,.bool N] 96] [.box bs g #[iI m,iI o,.bool p] 96,.box (zz wi) (zz wi) (aE c d b u v f x) 35]∧f53_j2 k F f i m o p U Z=some r_) ?_ ?_)))))))))
   ·refine sr (fd 0 Tyf35_0 rfl (l1 1 (iI c) e Tya3 (wt (wp_block (sr (c0 (c == 1) (m2 (.bool (c == 1)) (wt (cd h (fun an h=>?_) (fun an h=>?_))))))))))
    ·refine cT an (wp_region_lit (fd 1 Tyf35_1 rfl (l1 1 (iI d) e Tya3 ?_)));obtain ⟨bj,bk,h⟩:=ob h;refine cv ([iI d,iI 0,iI 1000000000000]) Tyb77 ((f77_ok k) bk (hG.mono S) (pt e)) ?_;rintro _ bV ⟨aU,rfl,ao⟩;have ap:=ca ao e;refine m1 (.bool bj) (cd h (fun y h=>?_) (fun y h=>?_))
     ·exact n1 45 y (fd 2 Tyf35_2 rfl (n1 45 y (l1 1 (.string b) ap Tya9 (n1 45 y (bsc (r:=(seq b ⟨#[]⟩)) rfl rfl rfl (m3 true (.bool (seq b ⟨#[]⟩)) (cg y) (m2 (.bool (seq b ⟨#[]⟩)) (wpList_nil (blkN (thenN (⟨_,aU,0,(seq b ⟨#[]⟩),fR,ao.sub,ap,h⟩)))))))))))
     ·exact o1 45 y (o1 45 y (o1 45 y (m3 false vN (cg y) (m2 vN (wpList_nil (blkN (thenN (⟨_,aU,0,false,fR,ao.sub,ap,h⟩))))))))
    ·refine cF an (sr (c0 (c == 2) (m2 (.bool (c == 2)) (wt (cd h (fun aq h=>?_) (fun aq h=>?_))))))
     ·refine cT aq (wp_region_lit (fd 1 Tyf35_1 rfl (l1 1 (iI d) e Tya3 ?_)));obtain ⟨bm,bn,h⟩:=ob h;refine cv ([iI d,iI 0,iI 1]) Tyb77 ((f77_ok k) bn (hG.mono S) (pt e)) ?_;rintro _ bW ⟨aV,rfl,ar⟩;have au:=ca ar e;refine m1 (.bool bm) (cd h (fun z h=>?_) (fun z h=>?_))
      ·exact n1 55 z (fd 2 Tyf35_2 rfl (n1 55 z (l1 1 (.string b) au Tya9 (n1 55 z (bsc (r:=(seq b ⟨#[]⟩)) rfl rfl rfl (m3 true (.bool (seq b ⟨#[]⟩)) (cg z) (m2 (.bool (seq b ⟨#[]⟩)) (wpList_nil (blkN (thenN (⟨_,aV,0,(seq b ⟨#[]⟩),fR,ar.sub,au,h⟩)))))))))))
      ·exact o1 55 z (o1 55 z (o1 55 z (m3 false vN (cg z) (m2 vN (wpList_nil (blkN (thenN (⟨_,aV,0,false,fR,ar.sub,au,h⟩))))))))
     ·refine cF aq (sr (c0 (c == 3) (m2 (.bool (c == 3)) (wt (cd h (fun av h=>?_) (fun av h=>?_))))))
      ·refine cT av (wp_region_lit (fd 1 Tyf35_1 rfl (l1 1 (iI d) e Tya3 (c0 (d == 0) (m1 (.bool (d == 0)) (cd h (fun A h=>?_) (fun A h=>?_)))))))
       ·refine n1 65 A (fd 2 Tyf35_2 rfl (n1 65 A (l1 1 (.string b) e Tya9 (n1 65 A ?_))));obtain ⟨aw,bo,h⟩:=ob h;refine cv ([.string b]) Tyb78 ((f78_ok k) bo (hG.mono S) aM (pt e)) ?_;rintro _ bX ⟨bp,rfl,aW⟩;have bq:=ca aW e;exact m3 true (.bool aw) (cg A) (m2 (.bool aw) (wpList_nil (blkN (thenN (⟨_,bp,0,aw,fR,aW.sub,bq,h⟩)))))
       ·exact o1 65 A (o1 65 A (o1 65 A (m3 false vN (cg A) (m2 vN (wpList_nil (blkN (thenN (⟨_,t,0,false,fR,kr,e,h⟩))))))))
      ·refine cF av (sr (c0 (c == 4) (m2 (.bool (c == 4)) (wt (cd h (fun ax h=>?_) (fun ax h=>?_))))))
       ·refine cT ax (wp_region_lit (fd 1 Tyf35_1 rfl (l1 1 (iI d) e Tya3 (c0 (d == 0) (m1 (.bool (d == 0)) (cd h (fun B h=>?_) (fun B h=>?_)))))))
        ·refine n1 75 B (fd 2 Tyf35_2 rfl (n1 75 B (l1 1 (.string b) e Tya9 (n1 75 B ?_))));obtain ⟨ay,br,h⟩:=ob h;refine cv ([.string b]) Tyb79 ((f79_ok k) br (hG.mono S) aM (pt e)) ?_;rintro _ bY ⟨bu,rfl,aX⟩;have bv:=ca aX e;exact m3 true (.bool ay) (cg B) (m2 (.bool ay) (wpList_nil (blkN (thenN (⟨_,bu,0,ay,fR,aX.sub,bv,h⟩)))))
        ·exact o1 75 B (o1 75 B (o1 75 B (m3 false vN (cg B) (m2 vN (wpList_nil (blkN (thenN (⟨_,t,0,false,fR,kr,e,h⟩))))))))
       ·refine cF ax (wp_cut (fun a w=>∃ aY az,a=fr 107 (updL aY [(0,pp g 0),(2,iI i),(4,pp (zz wi) 0),(80,.bool az)])∧SR K t wi w [.box bs g #[iI I,iI J,.bool N] 96] [.box bs g #[iI m,iI o,.bool p] 96,.box (zz wi) (zz wi) (aE c d b u v f x) 35]∧f53_j4 k F c d b f i m o p az=some r_) ?_ ?_)
        ·refine sr (c0 (c == 5) (m2 (.bool (c == 5)) (wt (cd h (fun aA h=>?_) (fun aA h=>?_)))))
         ·exact cT aA (wp_skip (thenN (⟨_,(c == 5),fR,e,h⟩)))
         ·exact cF aA (wp_region_lit (c0 (c == 6) (m2 (.bool (c == 6)) (wt (⟨_,(c == 6),fR,e,h⟩)))))
        ·rintro _ bZ ⟨aY,az,rfl,V,h⟩;unfold f53_j4 at h;refine cd h (fun aB h=>?_) (fun aB h=>?_)
         ·refine cT aB (wp_cut (fun a w=>∃ aZ ad,a=fr 107 (updL aZ [(0,pp g 0),(2,iI i),(4,pp (zz wi) 0),(8,.bool ad)])∧SR K t wi w [.box bs g #[iI I,iI J,.bool N] 96] [.box bs g #[iI m,iI o,.bool p] 96,.box (zz wi) (zz wi) (aE c d b u v f x) 35]∧f53_j5 k F f i m o p ad=some r_) ?_ ?_)
          ·refine wp_region_lit (fd 1 Tyf35_1 rfl (l1 1 (iI d) V Tya3 (c0 (d == 0) (m1 (.bool (d == 0)) (cd h (fun C h=>?_) (fun C h=>?_))))))
           ·exact n1 86 C (fd 2 Tyf35_2 rfl (n1 86 C (l1 1 (.string b) V Tya9 (n1 86 C (bsc (r:=(seq b ⟨#[]⟩)) rfl rfl rfl (m3 true (.bool (seq b ⟨#[]⟩)) (cg C) (m2 (.bool (seq b ⟨#[]⟩)) (wt (⟨_,(seq b ⟨#[]⟩),fR,V,h⟩)))))))))
           ·exact o1 86 C (o1 86 C (o1 86 C (m3 false vN (cg C) (m2 vN (wt (⟨_,false,fR,V,h⟩))))))
          ·rintro _ b0 ⟨aZ,ad,rfl,bw,h⟩;unfold f53_j5 at h;exact wp_region_lit (m2 (iI 1) (wpList_nil (blkN (thenN (⟨_,t,1,ad,fR,kr,bw,h⟩)))))
         ·refine cF aB (wp_cut (fun a w=>∃ a0 ae af,a=fr 107 (updL a0 [(0,pp g 0),(2,iI i),(4,pp (zz wi) 0),(8,.bool af)])∧KH.sub t ae∧SR K ae wi w [.box bs g #[iI I,iI J,.bool N] 96] [.box bs g #[iI m,iI o,.bool p] 96,.box (zz wi) (zz wi) (aE c d b u v f x) 35]∧f53_j6 k F f i m o p af=some r_) ?_ ?_)
          ·refine wp_region_lit (fd 0 Tyf35_0 rfl (l1 1 (iI c) V Tya3 ?_));obtain ⟨bx,bz,h⟩:=ob h;refine cv ([iI c,iI 7,iI 19]) Tyb77 ((f77_ok k) bz (hG.mono S) (pt V)) ?_;rintro _ b1 ⟨aG,rfl,ag⟩;have ab:=ca ag V;refine m1 (.bool bx) (cd h (fun D h=>?_) (fun D h=>?_))
           ·refine n1 30 D (fd 1 Tyf35_1 rfl (n1 30 D (l1 1 (iI d) ab Tya3 (n1 30 D (c0 (d == 0) (m3 true (.bool (d == 0)) (cg D) (m1 (.bool (d == 0)) (cd h (fun G h=>?_) (fun G h=>?_)))))))))
            ·exact n1 35 G (fd 2 Tyf35_2 rfl (n1 35 G (l1 1 (.string b) ab Tya9 (n1 35 G (bsc (r:=(seq b ⟨#[]⟩)) rfl rfl rfl (m3 true (.bool (seq b ⟨#[]⟩)) (cg G) (m2 (.bool (seq b ⟨#[]⟩)) (wt (⟨_,aG,(seq b ⟨#[]⟩),fR,ag.sub,ab,h⟩)))))))))
            ·exact o1 35 G (o1 35 G (o1 35 G (m3 false vN (cg G) (m2 vN (wt (⟨_,aG,false,fR,ag.sub,ab,h⟩))))))
           ·exact o1 30 D (o1 30 D (o1 30 D (m3 false vN (cg D) (m1 vN (o0 35 (o0 35 (o0 35 (m3 false vN rfl (m2 vN (wt (⟨_,aG,false,fR,ag.sub,ab,h⟩)))))))))))
          ·rintro _ b2 ⟨a0,ae,af,rfl,bA,bB,h⟩;unfold f53_j6 at h;exact wp_region_lit (m2 (iI 2) (wpList_nil (blkN (thenN (⟨_,ae,2,af,fR,bA,bB,h⟩)))))
   ·rintro _ b3 ⟨aT,W,U,Z,rfl,a3,X,h⟩;unfold f53_j2 at h;refine wp_cut (fun a w=>∃ a4 ah aH aI aJ aK,a=fr 107 (updL a4 [(6,.bool aH)])∧KH.sub W ah∧SR K ah wi w [.box bs g #[iI I,iI J,.bool N] 96] [.box bs g #[iI aI,iI aJ,.bool aK] 96]∧f53_j3 k F aH aI aJ aK=some r_) ?_ ?_
    ·refine wp_region_lit (m1 (.bool Z) (m1 (.bool Z) (cd h (fun s h=>?_) (fun s h=>?_))))
     ·refine n1 92 s (fd 4 Tyf35_4 rfl (n1 92 s (l1 1 (sl v f x) X Tya33 (n1 92 s (lS f.length Tye33 (n1 92 s (m1 (iI U) (n1 92 s (c0 ((f.length:Int) == U) (m3 true (.bool ((f.length:Int) == U)) (cg s) (m1 (.bool ((f.length:Int) == U)) (cd h (fun l h=>?_) (fun l h=>?_)))))))))))))
      ·refine n1 99 l (m1 (pp g 0) (n1 99 l (fd 4 Tyf35_4 rfl (n1 99 l (l1 1 (sl v f x) X Tya33 (n1 99 l (m1 (iI i) (n1 99 l (bar (r:=(w64 (i + 1))) rfl rfl rfl (n1 99 l ?_))))))))));obtain ⟨⟨⟨bC,bD,bE⟩,aL⟩,bF,h⟩:=ob h;refine cv ([pp g 0,sl v f x,iI (w64 (i + 1))]) Tyb80 (IH80 bF (hG.mono (S.trans a3)) (me a9 (S.trans a3)) (pt X)) ?_;rintro _ b4 ⟨bG,rfl,a5⟩;have bH:=ca a5 X;exact m3 true (.bool aL) (cg l) (m2 (.bool aL) (wt (⟨_,bG,aL,bC,bD,bE,fR,a5.sub,(bH.sel [0]),h⟩)))
      ·exact o1 99 l (o1 99 l (o1 99 l (o1 99 l (o1 99 l (o1 99 l (m3 false vN (cg l) (m2 vN (wt (⟨_,W,false,m,o,p,fR,kr,(X.sel [0]),h⟩)))))))))
     ·exact o1 92 s (o1 92 s (o1 92 s (o1 92 s (o1 92 s (m3 false vN (cg s) (m1 vN (o0 99 (o0 99 (o0 99 (o0 99 (o0 99 (o0 99 (m3 false vN rfl (m2 vN (wt (⟨_,W,false,m,o,p,fR,kr,(X.sel [0]),h⟩))))))))))))))))
    ·rintro _ b5 ⟨a4,ah,aH,aI,aJ,aK,rfl,b6,bI,h⟩;unfold f53_j3 at h;refine wp_ret ?_;have e_:=(Option.some.inj h).trans hr_;obtain ⟨bJ,bK⟩:=Prod.mk.inj e_;obtain ⟨bL,bM,bN⟩:=Dcounter.mk.inj bJ;subst bL;subst bM;subst bN;subst bK;exact retA1 rfl (resT rfl) ⟨ah,rfl,bI⟩
theorem f80_b_ok (k:Nat) (F:Fam53) (IH53:f53_spec F.f53) (IH80:f80_spec F.f80):f80_spec (f80_b k F):=by
 unfold f80_spec;intro K wi g bs D G I d O S y aI aJ aK aL h hG U ac;obtain ⟨r_,hr_,h⟩:=rz h;refine enter Tryz.func80 rfl (n:=21) rfl ?_;unfold f80_b at h;refine sr (m2 vN (wt (wp_seq (sr (m1 (sl O d S) (lS d.length Tye33 (m1 (iI 0) (wt (wp_block (wp_loopG (fun g_ a w=>∃ V x e,∃ (c:Nat),∃ z A B,g_=e.length∧a=fr 21 (updL V [(0,pp g 0),(2,iI y),(9,sl O d S),(10,iI (d.length:Int)),(11,iI (c:Int))])∧KH.sub K x∧SR K x wi w [.box bs g #[iI D,iI G,.bool I] 96] [.box bs g #[iI z,iI A,.bool B] 96]∧d.drop c=e∧f80_l1 k F y e c z A B=some r_) d.length ?_ ?_))))))))))
 ·exact ⟨_,K,d,0,D,G,I,rfl,fR,kr,ac,List.drop_zero,h⟩
 ·rintro _ _ ad ⟨V,x,e,c,z,A,B,rfl,rfl,C,J,f,h⟩;rcases e with _ | ⟨⟨l,m,p,q,s⟩,e⟩
  ·unfold f80_l1 at h;refine sr (bcm (r:=false) rfl rfl (congrArg some (drop_nil_lt f)) (wt (wp_seq (cndF rfl (wp_exit (thenX (thenX (blkX (thenN (sr (m2 vT (wt (wp_ret ?_)))))))))))));have e_:=(Option.some.inj h).trans hr_;obtain ⟨ae,af⟩:=Prod.mk.inj e_;obtain ⟨ag,ah,ai⟩:=Dcounter.mk.inj ae;subst ag;subst ah;subst ai;subst af;exact retA1 rfl (resT rfl) ⟨x,rfl,J⟩
  ·unfold f80_l1 at h;refine sr (bcm (r:=true) rfl rfl (congrArg some (drop_cons_t f)) (wt (wp_seq (cndT rfl (wp_skip (thenN (wp_seq (wp_block (sr ?_)))))))));obtain ⟨aj,ak,aM,al,aN,am,an⟩:=((me U C)).row.at_ (drop_cons_at f);obtain ⟨t,u,rfl,ao,ap⟩:=RDExpr.open an;refine idxN (b:=aj) (o:=ak) (i:=c) Tye33 Tys35 rfl al rfl (drop_cons_lt f) (lD (vE l m p q t s u) Tya35 Tys35 rfl (fun j v hj=>J.cell (kr.cell (am j v hj))) (aC zE.toArray J Tyz35 (fun aP aq=>(sI 0 (.agg (aE l m p q t s u)) ((aE l m p q t s u)) aq Tys35 rfl rfl (fun ar W=>(wt (sr (m1 (pp g 0) (lN 0 (vE l m p q t s u) W Tya35 Tys35 (m1 (iI y) ?_))))))))));have X:=p10 W;obtain ⟨⟨⟨au,av,aw⟩,ax⟩,ay,h⟩:=ob h;refine cv ([pp g 0,.agg (aE l m p q t s u),iI y]) Tyb53 (IH53 ay (hG.mono C) (RDExpr.intro ao ap) (pt X)) ?_;rintro _ aQ ⟨Y,rfl,Z⟩;have ab:=ca Z X;refine uN ax (wt (cd h (fun N h=>?_) (fun N h=>?_)))
   ·refine cT N (sr (m2 vN (wt (wp_ret (blkR (thenR (thenR (blkR (thenR ?_)))))))));have e_:=(Option.some.inj h).trans hr_;obtain ⟨az,aA⟩:=Prod.mk.inj e_;obtain ⟨aB,aG,aH⟩:=Dcounter.mk.inj az;subst aB;subst aG;subst aH;subst aA;exact retA1 rfl (resT rfl) ⟨Y,rfl,(ab.sel [0])⟩
   ·exact cF N (wp_skip (blkN (thenN (wp_region_lit (bar (r:=((c + 1:Nat):Int)) rfl rfl (inc_ok (le_big (((me U C)).len) (by decide) (drop_cons_lt f))) (m1 (iI ((c + 1:Nat):Int)) (wt (⟨_,Nat.lt_succ_self _,_,Y,e,c + 1,au,av,aw,rfl,fR,(C.trans Z.sub),(ab.sel [0]),drop_cons_next f,h⟩))))))))
theorem fam53_ok (k0:Nat) : ∀ k,f53_spec (fam53 k0 k).f53∧f80_spec (fam53 k0 k).f80:=by
 intro k;induction k with
 | zero=>exact ⟨(by unfold f53_spec; intro _ _ _ _ _ _ _ _ _ _ _ _ _ _ h_; cases h_),(by unfold f80_spec; intro _ _ _ _ _ _ _ _ _ _ _ _ _ _ _ h_; cases h_)⟩
 | succ k ih=>exact ⟨f53_b_ok k0 (fam53 k0 k) ih.1 ih.2,f80_b_ok k0 (fam53 k0 k) ih.1 ih.2⟩
theorem f53_ok (k:Nat):f53_spec (f53 k):=(fam53_ok k k).1
theorem f80_ok (k:Nat):f80_spec (f80 k):=(fam53_ok k k).2
theorem f31_b_ok (k:Nat):f31_spec (f31_b k):=by
 unfold f31_spec;intro K wi l A a B h hG m o;obtain ⟨r_,hr_,h⟩:=rz h;obtain ⟨b,c,d,e,f⟩:=l;obtain ⟨g,i,rfl,p,q⟩:=RDExpr.open m;refine enter Tryz.func31 rfl (n:=10) rfl ?_;unfold f31_b at h;refine sr (bxoC (cs:=(aE b c d e g f i)) o rfl rfl (fun r s=>(m2 vN (wt (sr (m1 (.bool a) (bld (cells:=#[iI 0,iI 0,.bool a]) (vs:=[(2,.bool a)]) rfl (fun w=>by kernel_rfl) (aC #[iI 0,iI 0,vN] s Tyz96 (fun C t=>(sI 0 (.agg #[iI 0,iI 0,.bool a]) #[iI 0,iI 0,.bool a] t Tys96 rfl rfl (fun D j=>(wt (sr (lN 1 (vE b c d e g f i) j Tya35 Tys35 ?_))))))))))))));obtain ⟨⟨⟨G,I,J⟩,u⟩,v,h⟩:=ob h;refine cv ([pp (zz r) 0,.agg (aE b c d e g f i),iI 1]) Tyb53 ((f53_ok k) v (hG.mono kr) (RDExpr.intro p q) (pt j)) ?_;rintro _ N ⟨x,rfl,y⟩;have z:=ca y j;refine m2 (.bool u) (wt (wp_ret ?_));cases (oi h).trans hr_;exact retA1 rfl (resT rfl) ⟨x,rfl,(z.sel [])⟩
theorem f31_ok (k:Nat):f31_spec (f31 k):=f31_b_ok k
theorem f32_b_ok (k:Nat) (F:Fam32) (IH32:f32_spec F.f32) (IH1005440:f1005440_spec F.f1005440) (IH1005532:f1005532_spec F.f1005532) (IH1008147:f1008147_spec F.f1008147) (IH1008221:f1008221_spec F.f1008221) (IH1011347:f1011347_spec F.f1011347):f32_spec (f32_b k F):=by
 unfold f32_spec;intro K wi y V g W h hG z A;obtain ⟨r_,hr_,h⟩:=rz h;obtain ⟨m,B,C,f,i⟩:=y;obtain ⟨j,l,rfl,X,t⟩:=RDExpr.open z;refine enter Tryz.func32 rfl (n:=25) rfl ?_;unfold f32_b at h;refine sr (bxoC (cs:=(aE m B C f j i l)) A rfl rfl (fun o D=>(bxoC (cs:=#[iI g]) D rfl rfl (fun Y c=>(m2 vN (wt (wp_cut (fun a w=>∃ u p q,a=fr 25 (updL u [(4,.bool q)])∧KH.sub K p∧SR K p wi w [] []∧f32_j1 k F q=some r_) ?_ ?_)))))))
 ·refine wp_region_lit (fd 0 Tyf35_0 rfl (l1 1 (iI m) c Tya3 (c0 (m != 4) (m1 (.bool (m != 4)) (cd h (fun b h=>?_) (fun b h=>?_))))))
  ·refine o1 8 b (o1 8 b (o1 8 b (o1 8 b (ou 12 (ou 12 (ou 12 (ou 12 (o1 8 b (m3 true vT (cg b) (m1 vT (n0 19 (fd 4 Tyf35_4 rfl (n0 19 (l1 1 (sl j i l) c Tya33 (n0 19 (mkf (us:=[]) (vs:=[pp (zz o) 0]) rfl rfl (n0 19 ?_)))))))))))))))));obtain ⟨r,G,h⟩:=ob h;refine cv ([sl j i l,.func (.func 55) #[] #[pp (zz o) 0]]) Tyb54 (IH1005440 G (hG.mono kr) t (pt c)) ?_;rintro _ Z ⟨I,rfl,v⟩;have J:=ca v c;exact m3 true (.bool r) rfl (m2 (.bool r) (wt (⟨_,I,r,fR,v.sub,(J.sel []),h⟩)))
  ·refine n1 8 b (fd 3 Tyf35_3 rfl (n1 8 b (l1 1 (iI f) c Tya3 (n1 8 b (c0 (decide (f ≥ 0)) (n1 8 b (m1 (.bool (decide (f ≥ 0))) (cd h (fun d h=>?_) (fun d h=>?_)))))))))
   ·refine n1 12 d (fd 3 Tyf35_3 rfl (n1 12 d (l1 1 (iI f) c Tya3 (n1 12 d (l1 0 (iI g) c Tya3 (n1 12 d (c0 (decide (f < g)) (n1 8 b (m3 true (.bool (decide (f < g))) (cg d) (m3 false (.bool (decide (f < g))) (cg b) (m1 (.bool (decide (f < g))) (cd h (fun e h=>?_) (fun e h=>?_)))))))))))))
    ·refine n1 19 e (fd 4 Tyf35_4 rfl (n1 19 e (l1 1 (sl j i l) c Tya33 (n1 19 e (mkf (us:=[]) (vs:=[pp (zz o) 0]) rfl rfl (n1 19 e ?_))))));obtain ⟨s,N,h⟩:=ob h;refine cv ([sl j i l,.func (.func 55) #[] #[pp (zz o) 0]]) Tyb54 (IH1005440 N (hG.mono kr) t (pt c)) ?_;rintro _ ab ⟨O,rfl,x⟩;have S:=ca x c;exact m3 true (.bool s) (cg e) (m2 (.bool s) (wt (⟨_,O,s,fR,x.sub,(S.sel []),h⟩)))
    ·exact o1 19 e (o1 19 e (o1 19 e (o1 19 e (m3 false vN (cg e) (m2 vN (wt (⟨_,K,false,fR,kr,(c.sel []),h⟩)))))))
   ·exact o1 12 d (o1 12 d (o1 12 d (o1 12 d (n1 8 b (m3 false vN (cg d) (m3 false vN (cg b) (m1 vN (o0 19 (o0 19 (o0 19 (o0 19 (m3 false vN rfl (m2 vN (wt (⟨_,K,false,fR,kr,(c.sel []),h⟩)))))))))))))))
 ·rintro _ ac ⟨u,p,q,rfl,ad,U,h⟩;unfold f32_j1 at h;refine wp_ret ?_;cases (oi h).trans hr_;exact retA1 rfl (resT rfl) ⟨p,rfl,U⟩
theorem f1005440_b_ok (k:Nat) (F:Fam32) (IH32:f32_spec F.f32) (IH1005440:f1005440_spec F.f1005440) (IH1005532:f1005532_spec F.f1005532) (IH1008147:f1008147_spec F.f1008147) (IH1008221:f1008221_spec F.f1008221) (IH1011347:f1011347_spec F.f1011347):f1005440_spec (f1005440_b k F):=by
 unfold f1005440_spec;intro K wi b c d g bs s o h hG f a;obtain ⟨r_,hr_,h⟩:=rz h;refine enter Tryz.func54 rfl (n:=9) rfl ?_;unfold f1005440_b at h;refine sr (bxoC (cs:=#[.func (.func 55) #[] #[pp g 0]]) a rfl rfl (fun p a=>(m2 vN (wt (sr (m1 (sl c b d) (mkf (us:=[]) (vs:=[pp (zz wi) 0]) rfl rfl ?_)))))));obtain ⟨e,i,h⟩:=ob h;refine cv ([sl c b d,.func (.func 82) #[] #[pp (zz wi) 0]]) Tyb81 (IH1008147 i (hG.mono kr) f (pt a)) ?_;rintro _ q ⟨j,rfl,l⟩;have m:=ca l a;refine uN e (m2 (.bool (!e)) (wt (wp_ret ?_)));cases (oi h).trans hr_;exact retA1 rfl (resT rfl) ⟨j,rfl,(m.sel [1])⟩
theorem f1005532_b_ok (k:Nat) (F:Fam32) (IH32:f32_spec F.f32) (IH1005440:f1005440_spec F.f1005440) (IH1005532:f1005532_spec F.f1005532) (IH1008147:f1008147_spec F.f1008147) (IH1008221:f1008221_spec F.f1008221) (IH1011347:f1011347_spec F.f1011347):f1005532_spec (f1005532_b k F):=by
 unfold f1005532_spec;intro K wi l x g bs s y h hG m o;obtain ⟨r_,hr_,h⟩:=rz h;obtain ⟨b,c,d,e,f⟩:=l;obtain ⟨i,j,rfl,p,q⟩:=RDExpr.open m;refine enter Tryz.func55 rfl (n:=7) rfl ?_;unfold f1005532_b at h;refine sr (bxoC (cs:=(aE b c d e i f j)) o rfl rfl (fun z a=>(m2 vN (wt (sr (lN 0 (vE b c d e i f j) a Tya35 Tys35 (l1 1 (iI s) a Tya3 ?_)))))));obtain ⟨r,t,h⟩:=ob h;refine cv ([.agg (aE b c d e i f j),iI s]) Tyb32 (IH32 t (hG.mono kr) (RDExpr.intro p q) (pt a)) ?_;rintro _ A ⟨u,rfl,v⟩;have w:=ca v a;refine m2 (.bool r) (wt (wp_ret ?_));cases (oi h).trans hr_;exact retA1 rfl (resT rfl) ⟨u,rfl,(w.sel [1])⟩
theorem f1008147_b_ok (k:Nat) (F:Fam32) (IH32:f32_spec F.f32) (IH1005440:f1005440_spec F.f1005440) (IH1005532:f1005532_spec F.f1005532) (IH1008147:f1008147_spec F.f1008147) (IH1008221:f1008221_spec F.f1008221) (IH1011347:f1011347_spec F.f1011347):f1008147_spec (f1008147_b k F):=by
 unfold f1008147_spec;intro K wi b c d g bs gA bsA sA a h hG f e;obtain ⟨r_,hr_,h⟩:=rz h;refine enter Tryz.func81 rfl (n:=9) rfl ?_;unfold f1008147_b at h;refine sr (m2 vN (wt (sr (m1 (sl c b d) (m1 (.func (.func 82) #[] #[pp g 0]) ?_)))));obtain ⟨a,i,h⟩:=ob h;refine cv ([sl c b d,.func (.func 82) #[] #[pp g 0]]) Tyb113 (IH1011347 i (hG.mono kr) f (pt e)) ?_;rintro _ o ⟨j,rfl,l⟩;have m:=ca l e;refine c0 (decide (a ≥ 0)) (m2 (.bool (decide (a ≥ 0))) (wt (wp_ret ?_)));cases (oi h).trans hr_;exact retA1 rfl (resT rfl) ⟨j,rfl,m⟩
theorem f1008221_b_ok (k:Nat) (F:Fam32) (IH32:f32_spec F.f32) (IH1005440:f1005440_spec F.f1005440) (IH1005532:f1005532_spec F.f1005532) (IH1008147:f1008147_spec F.f1008147) (IH1008221:f1008221_spec F.f1008221) (IH1011347:f1011347_spec F.f1011347):f1008221_spec (f1008221_b k F):=by
 unfold f1008221_spec;intro K wi o y g bs gA bsA sA z h hG p q;obtain ⟨r_,hr_,h⟩:=rz h;obtain ⟨a,b,c,d,e⟩:=o;obtain ⟨f,i,rfl,r,s⟩:=RDExpr.open p;refine enter Tryz.func82 rfl (n:=8) rfl ?_;unfold f1008221_b at h;refine sr (bxoC (cs:=(aE a b c d f e i)) q rfl rfl (fun t j=>(m2 vN (wt (sr (l1 1 (.func (.func 55) #[] #[pp gA 0]) j Tya74 (lN 0 (vE a b c d f e i) j Tya35 Tys35 ?_)))))));have l:=p201 j;obtain ⟨m,u,h⟩:=ob h;refine clV (caps:=#[pp gA 0]) (vs:=[.agg (aE a b c d f e i),pp gA 0]) rfl Tyb55 rfl (IH1005532 u (hG.mono kr) (RDExpr.intro r s) (pt l)) ?_;rintro _ A ⟨v,rfl,w⟩;have x:=ca w l;refine uN m (m2 (.bool (!m)) (wt (wp_ret ?_)));cases (oi h).trans hr_;exact retA1 rfl (resT rfl) ⟨v,rfl,(x.sel [2,0])⟩
theorem f1011347_b_ok (k:Nat) (F:Fam32) (IH32:f32_spec F.f32) (IH1005440:f1005440_spec F.f1005440) (IH1005532:f1005532_spec F.f1005532) (IH1008147:f1008147_spec F.f1008147) (IH1008221:f1008221_spec F.f1008221) (IH1011347:f1011347_spec F.f1011347):f1011347_spec (f1011347_b k F):=by
 unfold f1011347_spec;intro K wi d p q g bs gA bsA sA ac h hG u U;obtain ⟨r_,hr_,h⟩:=rz h;refine enter Tryz.func113 rfl (n:=19) rfl ?_;unfold f1011347_b at h;refine sr (m2 (iI 0) (wt (wp_seq (sr (m1 (sl p d q) (lS d.length Tye33 (m1 (iI 0) (wt (wp_block (wp_loopG (fun g_ a w=>∃ x l e,∃ (c:Nat),g_=e.length∧a=fr 19 (updL x [(0,sl p d q),(1,.func (.func 82) #[] #[pp g 0]),(7,iI (d.length:Int)),(8,iI (c:Int))])∧KH.sub K l∧SR K l wi w [.box bs g #[.func (.func 55) #[] #[pp gA 0]] 74,.box bsA gA #[iI sA] 3] [.box bsA gA #[iI sA] 3,.box bs g #[.func (.func 55) #[] #[pp gA 0]] 74]∧d.drop c=e∧f1011347_l1 k F sA e c=some r_) d.length ?_ ?_))))))))))
 ·exact ⟨_,K,d,0,rfl,fR,kr,(U.sel [1,0]),List.drop_zero,h⟩
 ·rintro _ _ V ⟨x,l,e,c,rfl,rfl,m,s,f,h⟩;rcases e with _ | ⟨⟨y,z,A,B,C⟩,e⟩
  ·unfold f1011347_l1 at h;refine sr (bcm (r:=false) rfl rfl (congrArg some (drop_nil_lt f)) (wt (wp_seq (cndF rfl (wp_exit (thenX (thenX (blkX (thenN (sr (m2 (iI (-1)) (wt (wp_ret ?_)))))))))))));cases (oi h).trans hr_;exact retA1 rfl (resT rfl) ⟨l,rfl,(s.sel [1,0])⟩
  ·unfold f1011347_l1 at h;refine sr (bcm (r:=true) rfl rfl (congrArg some (drop_cons_t f)) (wt (wp_seq (cndT rfl (wp_skip (thenN (wp_seq (wp_block (sr (m1 (iI (c:Int)) (m2 (iI (c:Int)) (wt (sr (m1 (.func (.func 82) #[] #[pp g 0]) (m1 (sl p d q) (m1 (iI (c:Int)) ?_))))))))))))))));obtain ⟨W,X,ad,Y,ae,Z,D⟩:=((me u m)).row.at_ (drop_cons_at f);obtain ⟨G,I,rfl,af,ag⟩:=RDExpr.open D;refine idxN (b:=W) (o:=X) (i:=c) Tye33 Tys35 rfl Y rfl (drop_cons_lt f) (lD (vE y z A B G C I) Tya35 Tys35 rfl (fun j v hj=>s.cell (kr.cell (Z j v hj))) ?_);have J:=p10 s;obtain ⟨ah,ab,h⟩:=ob h;refine clV (caps:=#[pp g 0]) (vs:=[.agg (aE y z A B G C I),pp g 0]) rfl Tyb82 rfl (IH1008221 ab (hG.mono m) D (pt J)) ?_;rintro _ ai ⟨N,rfl,O⟩;have S:=ca O J;refine wt (cd h (fun t h=>?_) (fun t h=>?_))
   ·refine cT t (sr (m1 (iI (c:Int)) (m2 (iI (c:Int)) (wt (wp_ret (blkR (thenR (thenR (blkR (thenR ?_))))))))));cases (oi h).trans hr_;exact retA1 rfl (resT rfl) ⟨N,rfl,S⟩
   ·exact cF t (wp_skip (blkN (thenN (wp_region_lit (bar (r:=((c + 1:Nat):Int)) rfl rfl (inc_ok (le_big (((me u m)).len) (by decide) (drop_cons_lt f))) (m1 (iI ((c + 1:Nat):Int)) (wt (⟨_,Nat.lt_succ_self _,_,N,e,c + 1,rfl,fR,(m.trans O.sub),(S.sel [1,0]),drop_cons_next f,h⟩))))))))
theorem fam32_ok (k0:Nat) : ∀ k,f32_spec (fam32 k0 k).f32∧f1005440_spec (fam32 k0 k).f1005440∧f1005532_spec (fam32 k0 k).f1005532∧f1008147_spec (fam32 k0 k).f1008147∧f1008221_spec (fam32 k0 k).f1008221∧f1011347_spec (fam32 k0 k).f1011347:=by
 intro k;induction k with
 | zero=>exact ⟨(by unfold f32_spec; intro _ _ _ _ _ _ h_; cases h_),(by unfold f1005440_spec; intro _ _ _ _ _ _ _ _ _ h_; cases h_),(by unfold f1005532_spec; intro _ _ _ _ _ _ _ _ h_; cases h_),(by unfold f1008147_spec; intro _ _ _ _ _ _ _ _ _ _ _ h_; cases h_),(by unfold f1008221_spec; intro _ _ _ _ _ _ _ _ _ _ h_; cases h_),(by unfold f1011347_spec; intro _ _ _ _ _ _ _ _ _ _ _ h_; cases h_)⟩
 | succ k ih=>exact ⟨f32_b_ok k0 (fam32 k0 k) ih.1 ih.2.1 ih.2.2.1 ih.2.2.2.1 ih.2.2.2.2.1 ih.2.2.2.2.2,f1005440_b_ok k0 (fam32 k0 k) ih.1 ih.2.1 ih.2.2.1 ih.2.2.2.1 ih.2.2.2.2.1 ih.2.2.2.2.2,f1005532_b_ok k0 (fam32 k0 k) ih.1 ih.2.1 ih.2.2.1 ih.2.2.2.1 ih.2.2.2.2.1 ih.2.2.2.2.2,f1008147_b_ok k0 (fam32 k0 k) ih.1 ih.2.1 ih.2.2.1 ih.2.2.2.1 ih.2.2.2.2.1 ih.2.2.2.2.2,f1008221_b_ok k0 (fam32 k0 k) ih.1 ih.2.1 ih.2.2.1 ih.2.2.2.1 ih.2.2.2.2.1 ih.2.2.2.2.2,f1011347_b_ok k0 (fam32 k0 k) ih.1 ih.2.1 ih.2.2.1 ih.2.2.2.1 ih.2.2.2.2.1 ih.2.2.2.2.2⟩
theorem f32_ok (k:Nat):f32_spec (f32 k):=(fam32_ok k k).1
theorem f1005440_ok (k:Nat):f1005440_spec (f1005440 k):=(fam32_ok k k).2.1
theorem f1005532_ok (k:Nat):f1005532_spec (f1005532 k):=(fam32_ok k k).2.2.1
theorem f1008147_ok (k:Nat):f1008147_spec (f1008147 k):=(fam32_ok k k).2.2.2.1
theorem f1008221_ok (k:Nat):f1008221_spec (f1008221 k):=(fam32_ok k k).2.2.2.2.1
theorem f1011347_ok (k:Nat):f1011347_spec (f1011347 k):=(fam32_ok k k).2.2.2.2.2
theorem f56_b_ok (k:Nat):f56_spec (f56_b k):=by
 unfold f56_spec;intro K wi aT h hG r;obtain ⟨r_,hr_,h⟩:=rz h;refine enter Tryz.func56 rfl (n:=24) rfl ?_;unfold f56_b at h;refine sr (m2 (.map none) (wt (sr (bsl (e:=3) (cells:=#[iI 1,iI 3]) (vs:=[(0,iI 1),(1,iI 3)]) r rfl (fun w=>by kernel_rfl) (fun f r=>(bld (cells:=#[.slice (some ⟨(zz wi),0,none⟩) 2 2,iI 2]) (vs:=[(0,.slice (some ⟨(zz wi),0,none⟩) 2 2),(1,iI 2)]) rfl (fun w=>by kernel_rfl) (aC #[nS,iI 0] r Tyz99 (fun aU S=>(sI 0 (.agg #[.slice (some ⟨(zz wi),0,none⟩) 2 2,iI 2]) #[.slice (some ⟨(zz wi),0,none⟩) 2 2,iI 2] S Tys99 rfl rfl (fun a U=>(wt (sr (bsl (e:=3) (cells:=#[iI 1]) (vs:=[(0,iI 1)]) U rfl (buildSl_one Tye36 Tys3 Tyz3 rfl (by decide) (by decide) rfl) (fun g V=>(bld (cells:=#[.slice (some ⟨(zz a),0,none⟩) 1 1,iI 1]) (vs:=[(0,.slice (some ⟨(zz a),0,none⟩) 1 1),(1,iI 1)]) rfl (fun w=>by kernel_rfl) (aC #[nS,iI 0] V Tyz99 (fun aV W=>(sI 0 (.agg #[.slice (some ⟨(zz a),0,none⟩) 1 1,iI 1]) #[.slice (some ⟨(zz a),0,none⟩) 1 1,iI 1] W Tys99 rfl rfl (fun b X=>(wt (sr (bsl (e:=3) (cells:=#[iI 2]) (vs:=[(0,iI 2)]) X rfl (buildSl_one Tye36 Tys3 Tyz3 rfl (by decide) (by decide) rfl) (fun j Y=>(bld (cells:=#[.slice (some ⟨(zz b),0,none⟩) 1 1,iI 2]) (vs:=[(0,.slice (some ⟨(zz b),0,none⟩) 1 1),(1,iI 2)]) rfl (fun w=>by kernel_rfl) (aC #[nS,iI 0] Y Tyz99 (fun aW Z=>(sI 0 (.agg #[.slice (some ⟨(zz b),0,none⟩) 1 1,iI 2]) #[.slice (some ⟨(zz b),0,none⟩) 1 1,iI 2] Z Tys99 rfl rfl (fun c ab=>?_))))))))))))))))))))))))))));have ac:=ab;refine wt (sr (mkm ac (fun aX t=>(lN 1 ([.slice (some ⟨(zz b),0,none⟩) 1 1,iI 2]) t Tya99 Tys99 ?_))));obtain ⟨o,ad,ae,s⟩:=frzI (i:=2) (bytes:=8) (xs:=[2]) (R:=fun K=>(RInt .i64)) t rfl (Nat.le_refl _) ⟨[iI 2],_,rfl,rfl,rfl,(reps0 (R:=(RInt .i64)) (size:=1))⟩ rfl (Nat.le_of_ble_eq_true rfl) (fun hs=>(fun _ _ h=>h));refine mup_ (kv:=kI) (q:=qI) (R:=(VAgg (RDoperator o))) (xs:=([]:List (Int × Doperator))) (k:=5) (u:=(Doperator.mk [2] 2)) (uv:=.agg #[.slice (some ⟨(zz b),0,none⟩) [2].length 1,iI 2]) (i:=0) (.inl rfl) ad rfl Tym100 (und_i64 Tyk3) keI (MapR.mono (VAgg.mono (fun _ _ h=>RDoperator.mono ae h)) (mapr0 (kv:=kI) (R:=(VAgg (RDoperator K))))) rfl rfl rfl ⟨[.slice (some ⟨(zz b),0,none⟩) [2].length 1,iI 2],rfl,(RDoperator.intro s)⟩ (fun aY aZ a0 v af=>(lN 1 ([.slice (some ⟨(zz b),0,none⟩) [2].length 1,iI 2]) v Tya99 Tys99 (mup_ (kv:=kI) (q:=qI) (R:=(VAgg (RDoperator o))) (k:=7) (u:=(Doperator.mk [2] 2)) (uv:=.agg #[.slice (some ⟨(zz b),0,none⟩) [2].length 1,iI 2]) (i:=0) (.inl rfl) v rfl Tym100 (und_i64 Tyk3) keI af rfl rfl rfl ⟨[.slice (some ⟨(zz b),0,none⟩) [2].length 1,iI 2],rfl,(RDoperator.intro s)⟩ (fun a1 a2 a3 x ag=>(lN 1 ([.slice (some ⟨(zz b),0,none⟩) [2].length 1,iI 2]) x Tya99 Tys99 (mup_ (kv:=kI) (q:=qI) (R:=(VAgg (RDoperator o))) (k:=8) (u:=(Doperator.mk [2] 2)) (uv:=.agg #[.slice (some ⟨(zz b),0,none⟩) [2].length 1,iI 2]) (i:=0) (.inl rfl) x rfl Tym100 (und_i64 Tyk3) keI ag rfl rfl rfl ⟨[.slice (some ⟨(zz b),0,none⟩) [2].length 1,iI 2],rfl,(RDoperator.intro s)⟩ (fun ah ai aj ak al=>?_)))))));have y:=ak;refine lN 4 ([.slice (some ⟨(zz wi),0,none⟩) 2 2,iI 2]) y Tya99 Tys99 ?_;obtain ⟨l,am,an,p⟩:=frzI (i:=5) (bytes:=8) (xs:=[1,3]) (R:=fun K=>(RInt .i64)) y rfl (Nat.le_refl _) ⟨[iI 1],_,rfl,rfl,rfl,⟨[iI 3],_,rfl,rfl,rfl,(reps0 (R:=(RInt .i64)) (size:=1))⟩⟩ rfl (Nat.le_of_ble_eq_true rfl) (fun hs=>(fun _ _ h=>h));refine mup_ (kv:=kI) (q:=qI) (R:=(VAgg (RDoperator l))) (k:=11) (u:=(Doperator.mk [1,3] 2)) (uv:=.agg #[.slice (some ⟨(zz wi),0,none⟩) [1,3].length 2,iI 2]) (i:=0) (.inl rfl) am rfl Tym100 (und_i64 Tyk3) keI (MapR.mono (VAgg.mono (fun _ _ h=>RDoperator.mono an h)) al) rfl rfl rfl ⟨[.slice (some ⟨(zz wi),0,none⟩) [1,3].length 2,iI 2],rfl,(RDoperator.intro p)⟩ (fun a4 a5 a6 z ao=>(lN 4 ([.slice (some ⟨(zz wi),0,none⟩) [1,3].length 2,iI 2]) z Tya99 Tys99 (mup_ (kv:=kI) (q:=qI) (R:=(VAgg (RDoperator l))) (k:=12) (u:=(Doperator.mk [1,3] 2)) (uv:=.agg #[.slice (some ⟨(zz wi),0,none⟩) [1,3].length 2,iI 2]) (i:=0) (.inl rfl) z rfl Tym100 (und_i64 Tyk3) keI ao rfl rfl rfl ⟨[.slice (some ⟨(zz wi),0,none⟩) [1,3].length 2,iI 2],rfl,(RDoperator.intro p)⟩ (fun a7 a8 a9 A ap=>(lN 4 ([.slice (some ⟨(zz wi),0,none⟩) [1,3].length 2,iI 2]) A Tya99 Tys99 (mup_ (kv:=kI) (q:=qI) (R:=(VAgg (RDoperator l))) (k:=13) (u:=(Doperator.mk [1,3] 2)) (uv:=.agg #[.slice (some ⟨(zz wi),0,none⟩) [1,3].length 2,iI 2]) (i:=0) (.inl rfl) A rfl Tym100 (und_i64 Tyk3) keI ap rfl rfl rfl ⟨[.slice (some ⟨(zz wi),0,none⟩) [1,3].length 2,iI 2],rfl,(RDoperator.intro p)⟩ (fun aq ar au av aw=>?_)))))));have B:=av;refine lN 4 ([.slice (some ⟨(zz wi),0,none⟩) [1,3].length 2,iI 2]) B Tya99 Tys99 (mup_ (kv:=kI) (q:=qI) (R:=(VAgg (RDoperator l))) (k:=14) (u:=(Doperator.mk [1,3] 2)) (uv:=.agg #[.slice (some ⟨(zz wi),0,none⟩) [1,3].length 2,iI 2]) (i:=0) (.inl rfl) B rfl Tym100 (und_i64 Tyk3) keI aw rfl rfl rfl ⟨[.slice (some ⟨(zz wi),0,none⟩) [1,3].length 2,iI 2],rfl,(RDoperator.intro p)⟩ (fun ba bb bd C ax=>(lN 2 ([.slice (some ⟨(zz a),0,none⟩) 1 1,iI 1]) C Tya99 Tys99 ?_)));obtain ⟨d,ay,az,m⟩:=frzI (i:=3) (bytes:=8) (xs:=[1]) (R:=fun K=>(RInt .i64)) C rfl (Nat.le_refl _) ⟨[iI 1],_,rfl,rfl,rfl,(reps0 (R:=(RInt .i64)) (size:=1))⟩ rfl (Nat.le_of_ble_eq_true rfl) (fun hs=>(fun _ _ h=>h));refine mup_ (kv:=kI) (q:=qI) (R:=(VAgg (RDoperator d))) (k:=6) (u:=(Doperator.mk [1] 1)) (uv:=.agg #[.slice (some ⟨(zz a),0,none⟩) [1].length 1,iI 1]) (i:=0) (.inl rfl) ay rfl Tym100 (und_i64 Tyk3) keI (MapR.mono (VAgg.mono (fun _ _ h=>RDoperator.mono az h)) ax) rfl rfl rfl ⟨[.slice (some ⟨(zz a),0,none⟩) [1].length 1,iI 1],rfl,(RDoperator.intro m)⟩ (fun be bf bg D aA=>(lN 2 ([.slice (some ⟨(zz a),0,none⟩) [1].length 1,iI 1]) D Tya99 Tys99 (mup_ (kv:=kI) (q:=qI) (R:=(VAgg (RDoperator d))) (k:=16) (u:=(Doperator.mk [1] 1)) (uv:=.agg #[.slice (some ⟨(zz a),0,none⟩) [1].length 1,iI 1]) (i:=0) (.inl rfl) D rfl Tym100 (und_i64 Tyk3) keI aA rfl rfl rfl ⟨[.slice (some ⟨(zz a),0,none⟩) [1].length 1,iI 1],rfl,(RDoperator.intro m)⟩ (fun aB aG aH aI aJ=>?_))));have G:=aI;refine lN 2 ([.slice (some ⟨(zz a),0,none⟩) [1].length 1,iI 1]) G Tya99 Tys99 (mup_ (kv:=kI) (q:=qI) (R:=(VAgg (RDoperator d))) (k:=17) (u:=(Doperator.mk [1] 1)) (uv:=.agg #[.slice (some ⟨(zz a),0,none⟩) [1].length 1,iI 1]) (i:=0) (.inl rfl) G rfl Tym100 (und_i64 Tyk3) keI aJ rfl rfl rfl ⟨[.slice (some ⟨(zz a),0,none⟩) [1].length 1,iI 1],rfl,(RDoperator.intro m)⟩ (fun bh bi bj I aK=>(lN 2 ([.slice (some ⟨(zz a),0,none⟩) [1].length 1,iI 1]) I Tya99 Tys99 (mup_ (kv:=kI) (q:=qI) (R:=(VAgg (RDoperator d))) (k:=18) (u:=(Doperator.mk [1] 1)) (uv:=.agg #[.slice (some ⟨(zz a),0,none⟩) [1].length 1,iI 1]) (i:=0) (.inl rfl) I rfl Tym100 (und_i64 Tyk3) keI aK rfl rfl rfl ⟨[.slice (some ⟨(zz a),0,none⟩) [1].length 1,iI 1],rfl,(RDoperator.intro m)⟩ (fun bk bm bn J aL=>(lN 2 ([.slice (some ⟨(zz a),0,none⟩) [1].length 1,iI 1]) J Tya99 Tys99 (mup_ (kv:=kI) (q:=qI) (R:=(VAgg (RDoperator d))) (k:=19) (u:=(Doperator.mk [1] 1)) (uv:=.agg #[.slice (some ⟨(zz a),0,none⟩) [1].length 1,iI 1]) (i:=0) (.inl rfl) J rfl Tym100 (und_i64 Tyk3) keI aL rfl rfl rfl ⟨[.slice (some ⟨(zz a),0,none⟩) [1].length 1,iI 1],rfl,(RDoperator.intro m)⟩ (fun N O aM aN aP=>?_))))))));have aQ:=aN;refine m1 (.map (some (zz c))) (m2 (.map (some (zz c))) (wt (wp_ret ?_)));cases (oi h).trans hr_;exact retA1 rfl (resT rfl) ⟨d,(zz c),N,O,rfl,(aQ.sel [0]),aP⟩
theorem f56_ok (k:Nat):f56_spec (f56 k):=f56_b_ok k
theorem f83_b_ok (k:Nat):f83_spec (f83_b k):=by
 unfold f83_spec;intro K wi d l m g C h hG q u;obtain ⟨r_,hr_,h⟩:=rz h;refine enter Tryz.func83 rfl (n:=19) rfl ?_;unfold f83_b at h;refine sr (m2 (iI 0) (wt (wp_seq (sr (m1 (sl l d m) (lS d.length Tye36 (m1 (iI 0) (wt (wp_block (wp_loopG (fun g_ a w=>∃ s e,∃ (c:Nat),g_=e.length∧a=fr 19 (updL s [(0,sl l d m),(1,iI g),(7,iI (d.length:Int)),(8,iI (c:Int))])∧SR K K wi w [] []∧d.drop c=e∧f83_l1 k g e c=some r_) d.length ?_ ?_))))))))))
 ·exact ⟨_,d,0,rfl,fR,u,List.drop_zero,h⟩
 ·rintro _ _ D ⟨s,e,c,rfl,rfl,j,f,h⟩;rcases e with _ | ⟨t,e⟩
  ·unfold f83_l1 at h;refine sr (bcm (r:=false) rfl rfl (congrArg some (drop_nil_lt f)) (wt (wp_seq (cndF rfl (wp_exit (thenX (thenX (blkX (thenN (sr (m2 (iI (-1)) (wt (wp_ret ?_)))))))))))));cases (oi h).trans hr_;exact retA1 rfl (resT rfl) ⟨K,rfl,j⟩
  ·unfold f83_l1 at h;refine sr (bcm (r:=true) rfl rfl (congrArg some (drop_cons_t f)) (wt (wp_seq (cndT rfl (wp_skip (thenN (wp_seq (wp_block (sr (m1 (iI (c:Int)) (m2 (iI (c:Int)) (wt (sr (m1 (iI g) (m1 (sl l d m) (m1 (iI (c:Int)) ?_))))))))))))))));obtain ⟨x,y,G,z,I,A,B⟩:=(q).row.at_ (drop_cons_at f);obtain rfl:=B;refine idxN (b:=x) (o:=y) (i:=c) Tye36 Tys3 rfl z rfl (drop_cons_lt f) (ld1 (v:=iI t) Tya3 rfl (j.cell (kr.cell (A 0 _ rfl))) (c0 (g == t) (wt (cd h (fun p h=>?_) (fun p h=>?_)))))
   ·refine cT p (sr (m1 (iI (c:Int)) (m2 (iI (c:Int)) (wt (wp_ret (blkR (thenR (thenR (blkR (thenR ?_))))))))));cases (oi h).trans hr_;exact retA1 rfl (resT rfl) ⟨K,rfl,j⟩
   ·exact cF p (wp_skip (blkN (thenN (wp_region_lit (bar (r:=((c + 1:Nat):Int)) rfl rfl (inc_ok (le_big ((q).len) (by decide) (drop_cons_lt f))) (m1 (iI ((c + 1:Nat):Int)) (wt (⟨_,Nat.lt_succ_self _,_,e,c + 1,rfl,fR,j,drop_cons_next f,h⟩))))))))
theorem f83_ok (k:Nat):f83_spec (f83 k):=f83_b_ok k
theorem f57_b_ok (k:Nat):f57_spec (f57_b k):=by
 unfold f57_spec;intro K wi b c d e a h hG g f;obtain ⟨r_,hr_,h⟩:=rz h;refine enter Tryz.func57 rfl (n:=9) rfl ?_;unfold f57_b at h;refine sr (m2 vN (wt (sr (m1 (sl c b d) (m1 (iI e) ?_)))));obtain ⟨a,i,h⟩:=ob h;refine cv ([sl c b d,iI e]) Tyb83 ((f83_ok k) i (hG.mono kr) g (pt f)) ?_;rintro _ o ⟨j,rfl,l⟩;have m:=ca l f;refine c0 (decide (a ≥ 0)) (m2 (.bool (decide (a ≥ 0))) (wt (wp_ret ?_)));cases (oi h).trans hr_;exact retA1 rfl (resT rfl) ⟨j,rfl,m⟩
theorem f57_ok (k:Nat):f57_spec (f57 k):=f57_b_ok k
theorem f33_b_ok (k:Nat) (F:Fam33) (IH33:f33_spec F.f33):f33_spec (f33_b k F):=by
 unfold f33_spec;intro K wi bw b4 U V W b5 h hG bx au bz;obtain ⟨r_,hr_,h⟩:=rz h;obtain ⟨c,ah,ai,J,t⟩:=bw;obtain ⟨z,A,rfl,b6,aY⟩:=RDExpr.open bx;refine enter Tryz.func33 rfl (n:=71) rfl ?_;unfold f33_b at h;refine sr (bxoC (cs:=(aE c ah ai J z t A)) bz rfl rfl (fun b7 g=>(m2 (iI 0) (wt (wp_seq (sr (fd 0 Tyf35_0 rfl (l1 0 (iI c) g Tya3 (wt (wp_block (sr (c0 (c == 1) (m2 (.bool (c == 1)) (wt (cd h (fun av h=>?_) (fun av h=>?_))))))))))))))))
 ·refine cT av (sr (m2 (iI 1) (wt (wp_ret (blkR (thenR ?_))))));cases (oi h).trans hr_;exact retA1 rfl (resT rfl) ⟨K,rfl,(g.sel [])⟩
 ·refine cF av (sr (c0 (c == 2) (m2 (.bool (c == 2)) (wt (cd h (fun aw h=>?_) (fun aw h=>?_))))))
  ·refine cT aw (sr (m2 (iI 2) (wt (wp_ret (blkR (thenR ?_))))));cases (oi h).trans hr_;exact retA1 rfl (resT rfl) ⟨K,rfl,(g.sel [])⟩
  ·refine cF aw (sr (c0 (c == 3) (m2 (.bool (c == 3)) (wt (cd h (fun ax h=>?_) (fun ax h=>?_))))))
   ·refine cT ax (sr (m2 (iI 3) (wt (wp_ret (blkR (thenR ?_))))));cases (oi h).trans hr_;exact retA1 rfl (resT rfl) ⟨K,rfl,(g.sel [])⟩
   ·refine cF ax (sr (c0 (c == 4) (m2 (.bool (c == 4)) (wt (cd h (fun ay h=>?_) (fun ay h=>?_))))))
    ·refine cT ay (sr (m1 (sl V U W) (fd 3 Tyf35_3 rfl (l1 0 (iI J) g Tya3 ?_))));obtain ⟨aZ,az,h⟩:=ob h;obtain ⟨bA,bB,b8,bC,b9,bD,bE⟩:=(au).row.at_ (idxO_at az).1;obtain rfl:=bE;refine idxG (b:=bA) (o:=bB) (i:=J) Tye36 Tys3 rfl bC rfl (idxO_at az).2.1 (idxO_at az).2.2 (ld1 (v:=iI aZ) Tya3 rfl (g.cell (kr.cell (bD 0 _ rfl))) (m2 (iI aZ) (wt (wp_ret (blkR (thenR ?_))))));cases (oi h).trans hr_;exact retA1 rfl (resT rfl) ⟨K,rfl,(g.sel [])⟩
    ·refine cF ay (wp_skip (blkN (thenN (sr (fd 4 Tyf35_4 rfl (l1 0 (sl z t A) g Tya33 ?_))))));obtain ⟨⟨a2,a3,a4,a5,a6⟩,aA,h⟩:=ob h;obtain ⟨bF,bG,cb,bH,cc,bI,a7⟩:=(aY).row.at_ (idxO_at aA).1;obtain ⟨a8,a9,rfl,ce,cf⟩:=RDExpr.open a7;refine idxG (b:=bF) (o:=bG) (i:=0) Tye33 Tys35 rfl bH rfl (idxO_at aA).2.1 (idxO_at aA).2.2 (lD (vE a2 a3 a4 a5 a8 a6 a9) Tya35 Tys35 rfl (fun j v hj=>g.cell (kr.cell (bI j v hj))) (m1 (sl V U W) ?_));obtain ⟨d,bJ,h⟩:=ob h;refine cv ([.agg (aE a2 a3 a4 a5 a8 a6 a9),sl V U W]) Tyb33 (IH33 bJ (hG.mono kr) a7 au (pt g)) ?_;rintro _ ch ⟨aB,rfl,B⟩;have C:=ca B g;refine m2 (iI d) (wt (wp_seq (wp_cut (fun a w=>∃ ba l aG,a=fr 71 (updL ba [(2,pp (zz wi) 0),(5,iI d),(45,.bool aG)])∧KH.sub aB l∧SR K l wi w [] [.box (zz wi) (zz wi) (aE c ah ai J z t A) 35]∧f33_j1 k F c d aG=some r_) ?_ ?_)))
     ·refine wp_region_lit (m1 (iI d) (c0 (d == (-1)) (m1 (.bool (d == (-1))) (cd h (fun f h=>?_) (fun f h=>?_)))))
      ·exact o1 30 f (o1 30 f (o1 30 f (o1 30 f (o1 30 f (ou 35 (ou 35 (ou 35 (ou 35 (ou 35 (ou 35 (ou 35 (ou 35 (o1 30 f (m3 true vT (cg f) (wt (⟨_,aB,true,fR,kr,C,h⟩))))))))))))))))
      ·refine n1 30 f (fd 4 Tyf35_4 rfl (n1 30 f (l1 0 (sl z t A) C Tya33 (n1 30 f (lS t.length Tye33 (n1 30 f (c0 ((t.length:Int) == 2) (n1 30 f (m1 (.bool ((t.length:Int) == 2)) (cd h (fun e h=>?_) (fun e h=>?_)))))))))))
       ·refine n1 35 e (fd 4 Tyf35_4 rfl (n1 35 e (l1 0 (sl z t A) C Tya33 (n1 35 e ?_))));obtain ⟨⟨bb,bd,be,bf,bg⟩,aH,h⟩:=ob h;obtain ⟨bK,bL,ci,bM,cj,bN,bh⟩:=((me aY B.sub)).row.at_ (idxO_at aH).1;obtain ⟨bi,bj,rfl,ck,cl⟩:=RDExpr.open bh;refine idxG (b:=bK) (o:=bL) (i:=1) Tye33 Tys35 rfl bM rfl (idxO_at aH).2.1 (idxO_at aH).2.2 (n1 35 e (lD (vE bb bd be bf bi bg bj) Tya35 Tys35 rfl (fun j v hj=>C.cell (kr.cell (bN j v hj))) (n1 35 e (m1 (sl V U W) (n1 35 e ?_)))));obtain ⟨aj,bO,h⟩:=ob h;refine cv ([.agg (aE bb bd be bf bi bg bj),sl V U W]) Tyb33 (IH33 bO (hG.mono B.sub) bh (au.mono B.sub (fun _ _ h=>h)) (pt C)) ?_;rintro _ cm ⟨bP,rfl,bk⟩;have bQ:=ca bk C;exact n1 35 e (m1 (iI d) (n1 35 e (c0 (aj != d) (n1 30 f (m3 true (.bool (aj != d)) (cg e) (m3 false (.bool (aj != d)) (cg f) (wt (⟨_,bP,(aj != d),fR,bk.sub,bQ,h⟩))))))))
       ·exact o1 35 e (o1 35 e (o1 35 e (o1 35 e (o1 35 e (o1 35 e (o1 35 e (o1 35 e (n1 30 f (m3 false vN (cg e) (m3 false vN (cg f) (wt (⟨_,aB,false,fR,kr,C,h⟩))))))))))))
     ·rintro _ cn ⟨ba,l,aG,rfl,aI,ak,h⟩;unfold f33_j1 at h;refine cd h (fun aJ h=>?_) (fun aJ h=>?_)
      ·refine cT aJ (sr (m2 (iI (-1)) (wt (wp_ret (thenR ?_)))));cases (oi h).trans hr_;exact retA1 rfl (resT rfl) ⟨l,rfl,(ak.sel [])⟩
      ·refine cF aJ (wp_skip (thenN (wp_seq (sr (fd 0 Tyf35_0 rfl (l1 0 (iI c) ak Tya3 (wt (wp_block (wp_cut (fun a w=>∃ bm aK,a=fr 71 (updL bm [(2,pp (zz wi) 0),(5,iI d),(47,iI c),(48,.bool aK)])∧SR K l wi w [] [.box (zz wi) (zz wi) (aE c ah ai J z t A) 35]∧f33_j2 k F c d aK=some r_) ?_ ?_)))))))))
       ·refine sr (c0 (c == 9) (m2 (.bool (c == 9)) (wt (cd h (fun aL h=>?_) (fun aL h=>?_)))))
        ·exact cT aL (wp_skip (thenN (⟨_,(c == 9),fR,ak,h⟩)))
        ·exact cF aL (wp_region_lit (c0 (c == 10) (m2 (.bool (c == 10)) (wt (⟨_,(c == 10),fR,ak,h⟩)))))
       ·rintro _ bn ⟨bm,aK,rfl,al,h⟩;unfold f33_j2 at h;refine cd h (fun aM h=>?_) (fun aM h=>?_)
        ·refine cT aM (sr (m2 (iI 2) (wt (wp_ret (blkR (thenR ?_))))));cases (oi h).trans hr_;exact retA1 rfl (resT rfl) ⟨l,rfl,(al.sel [])⟩
        ·refine cF aM (sr (c0 (c == 15) (m2 (.bool (c == 15)) (wt (cd h (fun aN h=>?_) (fun aN h=>?_))))))
         ·refine cT aN (wp_seq (wp_cut (fun a w=>∃ bo aP,a=fr 71 (updL bo [(5,iI d),(58,.bool aP)])∧SR K l wi w [] []∧f33_j3 k F d aP=some r_) ?_ ?_))
          ·refine wp_region_lit (m1 (iI d) (c0 (d != 1) (m1 (.bool (d != 1)) (cd h (fun D h=>?_) (fun D h=>?_)))))
           ·exact n1 55 D (m1 (iI d) (n1 55 D (c0 (d != 3) (m3 true (.bool (d != 3)) (cg D) (wt (⟨_,(d != 3),fR,(al.sel []),h⟩))))))
           ·exact o1 55 D (o1 55 D (m3 false vN (cg D) (wt (⟨_,false,fR,(al.sel []),h⟩))))
          ·rintro _ co ⟨bo,aP,rfl,bp,h⟩;unfold f33_j3 at h;refine cd h (fun aQ h=>?_) (fun aQ h=>?_)
           ·refine cT aQ (sr (m2 (iI (-1)) (wt (wp_ret (thenR (blkR (thenR ?_)))))));cases (oi h).trans hr_;exact retA1 rfl (resT rfl) ⟨l,rfl,bp⟩
           ·refine cF aQ (wp_skip (thenN (sr (m1 (iI d) (m2 (iI d) (wt (wp_ret (blkR (thenR ?_)))))))));cases (oi h).trans hr_;exact retA1 rfl (resT rfl) ⟨l,rfl,bp⟩
         ·refine cF aN (wp_skip (blkN (thenN (wp_cut (fun a w=>∃ bq am aT N X Y Z,a=fr 71 (updL bq [(5,iI d),(6,pp aT 0)])∧KH.sub l am∧SR K am wi w [] [.box (zz wi) aT #[sl X N Y,iI Z] 99]∧RSl Int (RInt .i64) 1 8 am X Y N∧f33_j4 k F d N Z=some r_) ?_ ?_))))
          ·have O:=al.drew;refine regAny (E:=[3,5]) (F:=FW l [.box (zz wi) (zz wi) (aE c ah ai J z t A) 35]) (L:=(lb 6 0)) ymx rfl rfl (kF 1 0 rfl Tyf35_0 rfl (fq [0] O) (tL 2 (iI c) [[3,2],[5,2]] 0 rfl Tya3 (fq [0] O) (anyAll (rs:=[0,4]) (by kernel_rfl) (by decide) (allC ?_ (allC ?_ allN)))))
           ·refine opL (i:=0) rfl ?_;obtain ⟨u,bR,h⟩:=ob h;refine cv ([]) Tyb56 ((f56_ok k) bR (hG.mono O.sub) (pt O)) ?_;rintro _ an ⟨y,cq,cr,ct,rfl,G,ao⟩;have bS:=ca G O;have S:=bS.lowerm_ (i:=0) rfl O.size;refine wb (fwOf (is:=[1]) S G.sub rfl) (fun _=>anyAll (rs:=[3,4]) (by kernel_rfl) (by decide) (allC ?_ (allC ?_ allN)))
            ·refine opL (i:=3) rfl ?_;rcases I:mget qI c u with _ | ⟨m,p⟩
             ·have h:=of_mcase_n I h;exact lk1N (kv:=kI) (q:=qI) (R:=(VAgg (RDoperator y))) (xs:=u) (k:=c) (S.entAt (i:=0) rfl).1 Tym100 (und_i64 Tyk3) keI Tyz99 ao rfl rfl I (wt ⟨hE 3,aO 4 rfl (aC #[nS,iI 0] S Tyz99 (fun cu bT=>(wt ⟨hE 3,aO 5 rfl (sI 0 (.agg #[nS,iI 0]) #[nS,iI 0] bT Tys99 rfl rfl (fun br ab=>(wt ⟨hE 5,aD (thenN (⟨_,y,(zz an),[],none,0,0,fR,G.sub,(ab.sel [0]),(RSl.nil _ _ _ _ _ _),h⟩))⟩)))⟩)))⟩)
             ·have h:=of_mcase_s I h;refine lk1S (kv:=kI) (q:=qI) (R:=(VAgg (RDoperator y))) (xs:=u) (k:=c) (S.entAt (i:=0) rfl).1 Tym100 (und_i64 Tyk3) keI ao rfl rfl I (fun cw bU=>?_);obtain ⟨bs,rfl,ac⟩:=bU;obtain ⟨r,s,rfl,ad⟩:=RDoperator.open ac;exact wt ⟨hE 3,aO 4 rfl (aC #[nS,iI 0] S Tyz99 (fun bu ae=>(wt ⟨hE 3,aO 5 rfl (sI 0 (.agg #[sl r m s,iI p]) #[sl r m s,iI p] ae Tys99 rfl rfl (fun cx bV=>(wt ⟨hE 5,aD (thenN (⟨_,y,(zz an),m,r,s,p,fR,G.sub,(bV.sel [0]),ad,h⟩))⟩)))⟩)))⟩
            ·refine opL (i:=4) rfl (aC #[nS,iI 0] S Tyz99 (fun cy af=>(wb (fwOf (is:=[2]) af G.sub rfl) (fun _=>aO 3 rfl ?_))));rcases x:mget qI c u with _ | ⟨m,p⟩
             ·have h:=of_mcase_n x h;exact lk1N (kv:=kI) (q:=qI) (R:=(VAgg (RDoperator y))) (xs:=u) (k:=c) (af.entAt (i:=1) rfl).1 Tym100 (und_i64 Tyk3) keI Tyz99 ao rfl rfl x (wt ⟨hE 3,aO 5 rfl (sI 0 (.agg #[nS,iI 0]) #[nS,iI 0] af Tys99 rfl rfl (fun br ab=>(wt ⟨hE 5,aD (thenN (⟨_,y,(zz an),[],none,0,0,fR,G.sub,(ab.sel [0]),(RSl.nil _ _ _ _ _ _),h⟩))⟩)))⟩)
             ·have h:=of_mcase_s x h;refine lk1S (kv:=kI) (q:=qI) (R:=(VAgg (RDoperator y))) (xs:=u) (k:=c) (af.entAt (i:=1) rfl).1 Tym100 (und_i64 Tyk3) keI ao rfl rfl x (fun bW aU=>?_);obtain ⟨bs,rfl,ac⟩:=aU;obtain ⟨r,s,rfl,ad⟩:=RDoperator.open ac;exact wt ⟨hE 3,aO 5 rfl (sI 0 (.agg #[sl r m s,iI p]) #[sl r m s,iI p] af Tys99 rfl rfl (fun bu ae=>(wt ⟨hE 5,aD (thenN (⟨_,y,(zz an),m,r,s,p,fR,G.sub,(ae.sel [0]),ad,h⟩))⟩)))⟩
           ·refine opL (i:=4) rfl (aC #[nS,iI 0] O Tyz99 (fun cz ap=>(wb (fq [1] ap) (fun _=>aO 0 rfl ?_))));obtain ⟨u,bX,h⟩:=ob h;refine cv ([]) Tyb56 ((f56_ok k) bX (hG.mono ap.sub) (pt ap)) ?_;rintro _ cA ⟨aq,cB,cC,cD,rfl,ar,I⟩;have bY:=ca ar ap;have ag:=bY.lowerm_ (i:=0) rfl ap.size;refine wb (fwOf (is:=[2]) ag ar.sub rfl) (fun _=>aO 3 rfl ?_);rcases x:mget qI c u with _ | ⟨m,p⟩
            ·have h:=of_mcase_n x h;exact lk1N (kv:=kI) (q:=qI) (R:=(VAgg (RDoperator aq))) (xs:=u) (k:=c) (ag.entAt (i:=0) rfl).1 Tym100 (und_i64 Tyk3) keI Tyz99 I rfl rfl x (wt ⟨hE 3,aO 5 rfl (sI 1 (.agg #[nS,iI 0]) #[nS,iI 0] ag Tys99 rfl rfl (fun br ab=>(wt ⟨hE 5,aD (thenN (⟨_,aq,(zz bn.drew),[],none,0,0,fR,ar.sub,(ab.sel [1]),(RSl.nil _ _ _ _ _ _),h⟩))⟩)))⟩)
            ·have h:=of_mcase_s x h;refine lk1S (kv:=kI) (q:=qI) (R:=(VAgg (RDoperator aq))) (xs:=u) (k:=c) (ag.entAt (i:=0) rfl).1 Tym100 (und_i64 Tyk3) keI I rfl rfl x (fun bW aU=>?_);obtain ⟨bs,rfl,ac⟩:=aU;obtain ⟨r,s,rfl,ad⟩:=RDoperator.open ac;exact wt ⟨hE 3,aO 5 rfl (sI 1 (.agg #[sl r m s,iI p]) #[sl r m s,iI p] ag Tys99 rfl rfl (fun bu ae=>(wt ⟨hE 5,aD (thenN (⟨_,aq,(zz bn.drew),m,r,s,p,fR,ar.sub,(ae.sel [1]),ad,h⟩))⟩)))⟩
          ·rintro _ cG ⟨bq,am,aT,N,X,Y,Z,rfl,bZ,aV,b0,h⟩;unfold f33_j4 at h;refine wp_seq (sr (fd 0 Tyf99_0 rfl (l1 0 (sl X N Y) aV Tya36 (m1 (iI d) ?_))));obtain ⟨b1,b2,h⟩:=ob h;refine cv ([sl X N Y,iI d]) Tyb57 ((f57_ok k) b2 (hG.mono aV.sub) b0 (pt aV)) ?_;rintro _ cH ⟨bv,rfl,b3⟩;have aW:=ca b3 aV;refine uN b1 (wt (cd h (fun aX h=>?_) (fun aX h=>?_)))
           ·refine cT aX (sr (m2 (iI (-1)) (wt (wp_ret (thenR ?_)))));cases (oi h).trans hr_;exact retA1 rfl (resT rfl) ⟨bv,rfl,(aW.sel [])⟩
           ·refine cF aX (wp_skip (thenN (sr (fd 1 Tyf99_1 rfl (l1 0 (iI Z) aW Tya3 (m2 (iI Z) (wt (wp_ret ?_))))))));cases (oi h).trans hr_;exact retA1 rfl (resT rfl) ⟨bv,rfl,(aW.sel [])⟩
theorem fam33_ok (k0:Nat) : ∀ k,f33_spec (fam33 k0 k).f33:=by
 intro k;induction k with
 | zero=>exact (by unfold f33_spec; intro _ _ _ _ _ _ _ _ h_; cases h_)
 | succ k ih=>exact f33_b_ok k0 (fam33 k0 k) ih
theorem f33_ok (k:Nat):f33_spec (f33 k):=(fam33_ok k k)
theorem f13_b_ok (k:Nat):f13_spec (f13_b k):=by
 unfold f13_spec;intro K wi Z ak c o p al am h hG ab N ac;obtain ⟨r_,hr_,h⟩:=rz h;obtain ⟨d,e,f,g,i⟩:=Z;obtain ⟨j,l,rfl,y,z⟩:=RDExpr.open ab;refine enter Tryz.func13 rfl (n:=29) rfl ?_;unfold f13_b at h;refine sr (bxoC (cs:=(aE d e f g j i l)) ac rfl rfl (fun an O=>(m2 (iI 0) (m2 (iI 0) (wt (sr (m1 (sl o c p) ?_)))))));obtain ⟨t,ad,h⟩:=ob h;refine cv ([sl o c p,.func (.func 30) #[] #[]]) Tyb29 ((f1002918_ok k) ad (hG.mono kr) N (pt O)) ?_;rintro _ ao ⟨ae,rfl,m⟩;have A:=ca m O;refine m2 (.bool t) (wt (wp_seq (wp_cut (fun a w=>∃ S u B,a=fr 29 (updL S [(1,sl o c p),(2,pp (zz wi) 0),(22,.bool B)])∧KH.sub ae u∧SR K u wi w [] [.box (zz wi) (zz wi) (aE d e f g j i l) 35]∧f13_j1 k d e f g i c B=some r_) ?_ ?_)))
 ·refine wp_region_lit (lN 0 (vE d e f g j i l) A Tya35 Tys35 ?_);obtain ⟨U,af,h⟩:=ob h;refine cv ([.agg (aE d e f g j i l),vT]) Tyb31 ((f31_ok k) af (hG.mono m.sub) (RDExpr.intro y (me z m.sub)) (pt A)) ?_;rintro _ ap ⟨ag,rfl,q⟩;have v:=ca q A;refine uN U (m1 (.bool (!U)) (cd h (fun b h=>?_) (fun b h=>?_)))
  ·exact o1 13 b (o1 13 b (o1 13 b (o1 13 b (o1 13 b (m3 true vT (cg b) (m1 vT (o0 20 (m3 true vT rfl (wt (⟨_,ag,true,fR,q.sub,v,h⟩))))))))))
  ·refine n1 13 b (lN 0 (vE d e f g j i l) v Tya35 Tys35 (n1 13 b (m1 (sl o c p) (n1 13 b (lS c.length Tye36 (n1 13 b ?_))))));obtain ⟨C,ah,h⟩:=ob h;refine cv ([.agg (aE d e f g j i l),iI (c.length:Int)]) Tyb32 ((f32_ok k) ah (hG.mono (m.sub.trans q.sub)) (RDExpr.intro y (me z (m.sub.trans q.sub))) (pt v)) ?_;rintro _ aq ⟨V,rfl,D⟩;have W:=ca D v;refine n1 13 b (uN C (m3 false (.bool (!C)) (cg b) (m1 (.bool (!C)) (cd h (fun r h=>?_) (fun r h=>?_)))))
   ·exact o1 20 r (m3 true vT (cg r) (wt (⟨_,V,true,fR,(q.sub.trans D.sub),W,h⟩)))
   ·exact n1 20 r (m1 (.bool t) (m3 false (.bool t) (cg r) (wt (⟨_,V,t,fR,(q.sub.trans D.sub),W,h⟩))))
 ·rintro _ ar ⟨S,u,B,rfl,G,x,h⟩;unfold f13_j1 at h;refine cd h (fun I h=>?_) (fun I h=>?_)
  ·refine cT I (sr (m2 (iI 0) (m2 (iI 2) (wt (wp_ret (thenR ?_))))));cases (oi h).trans hr_;exact retA2 rfl (resT rfl) (resT rfl) ⟨u,rfl,(x.sel [])⟩
  ·refine cF I (wp_skip (thenN (sr (lN 0 (vE d e f g j i l) x Tya35 Tys35 (m1 (sl o c p) ?_)))));obtain ⟨s,ai,h⟩:=ob h;refine cv ([.agg (aE d e f g j i l),sl o c p]) Tyb33 ((f33_ok k) ai (hG.mono (m.sub.trans G)) (RDExpr.intro y (me z (m.sub.trans G))) (N.mono (m.sub.trans G) (fun _ _ h=>h)) (pt x)) ?_;rintro _ au ⟨X,rfl,aj⟩;have Y:=ca aj x;refine m2 (iI s) (wt (wp_seq (sr (m1 (iI s) (c0 (s == (-1)) (wt (cd h (fun J h=>?_) (fun J h=>?_))))))))
   ·refine cT J (sr (m2 (iI 0) (m2 (iI 23) (wt (wp_ret (thenR ?_))))));cases (oi h).trans hr_;exact retA2 rfl (resT rfl) (resT rfl) ⟨X,rfl,(Y.sel [])⟩
   ·refine cF J (wp_skip (thenN (sr (m1 (iI s) (m2 (iI s) (m2 (iI 0) (wt (wp_ret ?_))))))));cases (oi h).trans hr_;exact retA2 rfl (resT rfl) (resT rfl) ⟨X,rfl,(Y.sel [])⟩
theorem f13_ok (k:Nat):f13_spec (f13 k):=f13_b_ok k
theorem f114_b_ok (k:Nat):f114_spec (f114_b k):=by
 unfold f114_spec;intro K wi g bs c e i d t u v h hG j;obtain ⟨r_,hr_,h⟩:=rz h;refine enter Tryz.func114 rfl (n:=32) rfl ?_;unfold f114_b at h;refine sr (m1 (pp g 0) (nilc rfl (fd 0 Tyf104_0 rfl (l1 0 (iI c) j Tya3 (bar (r:=(w64 (c + 1))) rfl rfl rfl (nilc rfl (fd 0 Tyf104_0 rfl (sI 0 (iI (w64 (c + 1))) #[iI (w64 (c + 1)),iI e,.bool i] j Tys3 rfl rfl (fun x j=>(wt (sr (m1 (pp g 0) (m1 (pp g 0) (nilc rfl (fd 1 Tyf104_1 rfl (l1 0 (iI e) j Tya3 (m1 (iI d) (mxb (a:=e) (b:=d) rfl rfl (nilc rfl (fd 1 Tyf104_1 rfl (sI 0 (iI (imax e d)) #[iI (w64 (c + 1)),iI (imax e d),.bool i] j Tys3 rfl rfl (fun y l=>(wt (wp_cut (fun a w=>∃ p m,a=fr 32 (updL p [(0,pp g 0),(28,.bool m)])∧SR K K wi w [.box bs g #[iI c,iI e,.bool i] 104] [.box bs g #[iI (w64 (c + 1)),iI (imax e d),.bool i] 104]∧f114_j1 k c e i d m=some r_) ?_ ?_))))))))))))))))))))))))
 ·refine wp_region_lit (m1 (pp g 0) (nilc rfl (fd 0 Tyf104_0 rfl (l1 0 (iI (w64 (c + 1))) l Tya3 (c0 (decide ((w64 (c + 1)) > 600)) (m1 (.bool (decide ((w64 (c + 1)) > 600))) (cd h (fun f h=>?_) (fun f h=>?_))))))))
  ·exact o1 25 f (o1 25 f (m3 true vT (cg f) (wt (⟨_,true,fR,l,h⟩))))
  ·exact n1 25 f (m1 (iI d) (n1 25 f (c0 (decide (d > 16)) (m3 false (.bool (decide (d > 16))) (cg f) (wt (⟨_,(decide (d > 16)),fR,l,h⟩))))))
 ·rintro _ z ⟨p,m,rfl,q,h⟩;unfold f114_j1 at h;refine cd h (fun o h=>?_) (fun o h=>?_)
  ·refine cT o (wp_region_lit (m1 (pp g 0) (nilc rfl (fd 2 Tyf104_2 rfl (sI 0 vT #[iI (w64 (c + 1)),iI (imax e d),vT] q Tys4 rfl rfl (fun A s=>(wpList_nil ?_)))))));cases (oi h).trans hr_;exact end0 rfl ⟨K,rfl,s⟩
  ·refine cF o (wp_skip ?_);cases (oi h).trans hr_;exact end0 rfl ⟨K,rfl,q⟩
theorem f114_ok (k:Nat):f114_spec (f114 k):=f114_b_ok k
theorem f115_b_ok (k:Nat):f115_spec (f115_b k):=by
 unfold f115_spec;intro K wi g bs d e i b j l m h hG c;obtain ⟨r_,hr_,h⟩:=rz h;refine enter Tryz.func115 rfl (n:=9) rfl ?_;unfold f115_b at h;refine sr (m1 (.bool b) (uN b (wt (cd h (fun a h=>?_) (fun a h=>?_)))))
 ·refine cT a (wp_region_lit (m1 (pp g 0) (nilc rfl (fd 2 Tyf104_2 rfl (sI 0 vT #[iI d,iI e,vT] c Tys4 rfl rfl (fun o f=>(wpList_nil ?_)))))));cases (oi h).trans hr_;exact end0 rfl ⟨K,rfl,f⟩
 ·refine cF a (wp_skip ?_);cases (oi h).trans hr_;exact end0 rfl ⟨K,rfl,c⟩
theorem f115_ok (k:Nat):f115_spec (f115 k):=f115_b_ok k
theorem f116_b_ok (k:Nat):f116_spec (f116_b k):=by
 unfold f116_spec;intro K wi b t h hG q s;obtain ⟨r_,hr_,h⟩:=rz h;refine enter Tryz.func116 rfl (n:=23) rfl ?_;unfold f116_b at h;refine sr (m2 vN (wt (wp_seq (sr (m2 (iI 0) (wt (wp_block (wp_loopG (fun g_ a w=>∃ m e,∃ (c:Nat),g_=e.length∧a=fr 23 (updL m [(0,.string b),(3,iI (c:Int))])∧SR K K wi w [] []∧b.data.toList.drop c=e∧f116_l1 k b e c=some r_) b.data.toList.length ?_ ?_))))))))
 ·exact ⟨_,b.data.toList,0,rfl,fR,s,List.drop_zero,h⟩
 ·rintro _ _ u ⟨m,e,c,rfl,rfl,i,f,h⟩;rcases e with _ | ⟨g,e⟩
  ·unfold f116_l1 at h;refine wp_seq (sr (m1 (iI (c:Int)) (m1 (.string b) (lnT (a:=b) Tyt9 rfl (bcm (r:=false) rfl rfl (congrArg some (drop_nil_ls f)) (wt (cndF rfl (wp_exit (thenX (thenX (blkX (thenN (sr (m1 (.string b) (lnT (a:=b) Tyt9 rfl (c0 (decide ((b.size:Int) ≤ 60)) (m2 (.bool (decide ((b.size:Int) ≤ 60))) (wt (wp_ret ?_)))))))))))))))))));cases (oi h).trans hr_;exact retA1 rfl (resT rfl) ⟨K,rfl,i⟩
  ·unfold f116_l1 at h;refine wp_seq (sr (m1 (iI (c:Int)) (m1 (.string b) (lnT (a:=b) Tyt9 rfl (bcm (r:=true) rfl rfl (congrArg some (drop_cons_ts f)) (wt (cndT rfl (wp_skip (thenN (wp_seq (wp_block (wp_cut (fun a w=>∃ o j,a=fr 23 (updL o [(0,.string b),(3,iI (c:Int)),(19,.bool j)])∧SR K K wi w [] []∧f116_j1 k c j (f116_l1 k b e)=some r_) ?_ ?_))))))))))))
   ·refine wp_region_lit (m1 (.string b) (m1 (iI (c:Int)) (ixN Tyt9 rfl rfl f (c0 (decide ((g.toNat:Int) < 32)) (m1 (.bool (decide ((g.toNat:Int) < 32))) (cd h (fun d h=>?_) (fun d h=>?_)))))))
    ·exact o1 14 d (o1 14 d (o1 14 d (o1 14 d (m3 true vT (cg d) (wt (⟨_,true,fR,i,h⟩))))))
    ·exact n1 14 d (m1 (.string b) (n1 14 d (m1 (iI (c:Int)) (n1 14 d (ixN Tyt9 rfl rfl f (n1 14 d (c0 (decide ((g.toNat:Int) > 126)) (m3 false (.bool (decide ((g.toNat:Int) > 126))) (cg d) (wt (⟨_,(decide ((g.toNat:Int) > 126)),fR,i,h⟩))))))))))
   ·rintro _ v ⟨o,j,rfl,p,h⟩;unfold f116_j1 at h;refine cd h (fun l h=>?_) (fun l h=>?_)
    ·refine cT l (sr (m2 vN (wt (wp_ret (blkR (thenR (thenR (blkR (thenR ?_)))))))));cases (oi h).trans hr_;exact retA1 rfl (resT rfl) ⟨K,rfl,p⟩
    ·exact cF l (wp_skip (blkN (thenN (wp_region_lit (m1 (iI (c:Int)) (bar (r:=((c + 1:Nat):Int)) rfl rfl (inc_ok (le_bigs q f)) (m2 (iI ((c + 1:Nat):Int)) (wt (⟨_,Nat.lt_succ_self _,_,e,c + 1,rfl,fR,p,drop_cons_next f,h⟩)))))))))
theorem f116_ok (k:Nat):f116_spec (f116 k):=f116_b_ok k
theorem f139_b_ok (k:Nat):f139_spec (f139_b k):=by
 unfold f139_spec;intro K wi b i h hG e;obtain ⟨r_,hr_,h⟩:=rz h;refine enter Tryz.func139 rfl (n:=9) rfl ?_;unfold f139_b at h;refine sr (m2 vN (wt (wp_cut (fun a w=>∃ f d,a=fr 9 (updL f [(2,.bool d)])∧SR K K wi w [] []∧f139_j1 k d=some r_) ?_ ?_)))
 ·refine wp_region_lit (m1 (.int .u8 b) (c0 (decide (b ≥ 97)) (m1 (.bool (decide (b ≥ 97))) (cd h (fun c h=>?_) (fun c h=>?_)))))
  ·exact n1 5 c (m1 (.int .u8 b) (n1 5 c (c0 (decide (b ≤ 122)) (m3 true (.bool (decide (b ≤ 122))) (cg c) (m2 (.bool (decide (b ≤ 122))) (wt (⟨_,(decide (b ≤ 122)),fR,e,h⟩)))))))
  ·exact o1 5 c (o1 5 c (m3 false vN (cg c) (m2 vN (wt (⟨_,false,fR,e,h⟩)))))
 ·rintro _ j ⟨f,d,rfl,g,h⟩;unfold f139_j1 at h;refine wp_ret ?_;cases (oi h).trans hr_;exact retA1 rfl (resT rfl) ⟨K,rfl,g⟩
theorem f139_ok (k:Nat):f139_spec (f139 k):=f139_b_ok k
theorem f140_b_ok (k:Nat):f140_spec (f140_b k):=by
 unfold f140_spec;intro K wi b i h hG e;obtain ⟨r_,hr_,h⟩:=rz h;refine enter Tryz.func140 rfl (n:=9) rfl ?_;unfold f140_b at h;refine sr (m2 vN (wt (wp_cut (fun a w=>∃ f d,a=fr 9 (updL f [(2,.bool d)])∧SR K K wi w [] []∧f140_j1 k d=some r_) ?_ ?_)))
 ·refine wp_region_lit (m1 (.int .u8 b) (c0 (decide (b ≥ 48)) (m1 (.bool (decide (b ≥ 48))) (cd h (fun c h=>?_) (fun c h=>?_)))))
  ·exact n1 5 c (m1 (.int .u8 b) (n1 5 c (c0 (decide (b ≤ 57)) (m3 true (.bool (decide (b ≤ 57))) (cg c) (m2 (.bool (decide (b ≤ 57))) (wt (⟨_,(decide (b ≤ 57)),fR,e,h⟩)))))))
  ·exact o1 5 c (o1 5 c (m3 false vN (cg c) (m2 vN (wt (⟨_,false,fR,e,h⟩)))))
 ·rintro _ j ⟨f,d,rfl,g,h⟩;unfold f140_j1 at h;refine wp_ret ?_;cases (oi h).trans hr_;exact retA1 rfl (resT rfl) ⟨K,rfl,g⟩
theorem f140_ok (k:Nat):f140_spec (f140 k):=f140_b_ok k
theorem f167_b_ok (k:Nat):f167_spec (f167_b k):=by
 unfold f167_spec;intro K wi f h hG a;obtain ⟨r_,hr_,h⟩:=rz h;refine enter Tryz.func167 rfl (n:=2) rfl ?_;unfold f167_b at h;refine sr (m2 nS (wt (sr (bsl (e:=9) (cells:=#[.string ⟨#[97,102,116,101,114]⟩,.string ⟨#[97,119,97,105,116]⟩,.string ⟨#[98,111,111,108]⟩,.string ⟨#[98,114,101,97,107]⟩,.string ⟨#[98,117,102,102,101,114]⟩,.string ⟨#[99,97,110,99,101,108]⟩,.string ⟨#[99,97,116,99,104]⟩,.string ⟨#[99,104,97,110]⟩,.string ⟨#[99,108,111,115,101]⟩,.string ⟨#[99,111,110,116,105,110,117,101]⟩,.string ⟨#[100,114,111,112]⟩,.string ⟨#[101,97,99,104]⟩,.string ⟨#[101,108,115,101]⟩,.string ⟨#[101,109,105,116]⟩,.string ⟨#[102,97,108,115,101]⟩,.string ⟨#[102,105,110,97,108,108,121]⟩,.string ⟨#[102,108,111,119]⟩,.string ⟨#[102,110]⟩,.string ⟨#[102,114,111,109]⟩,.string ⟨#[104,111,108,100]⟩,.string ⟨#[105,102]⟩,.string ⟨#[105,110,116]⟩,.string ⟨#[108,101,116]⟩,.string ⟨#[108,111,99,107]⟩,.string ⟨#[110,101,119]⟩,.string ⟨#[110,111,119]⟩,.string ⟨#[111,108,100]⟩,.string ⟨#[112,114,111,100,117,99,101]⟩,.string ⟨#[114,101,99,101,105,118,101]⟩,.string ⟨#[114,101,116,117,114,110]⟩,.string ⟨#[115,99,111,112,101]⟩,.string ⟨#[115,101,108,101,99,116]⟩,.string ⟨#[115,101,110,100]⟩,.string ⟨#[115,104,105,101,108,100]⟩,.string ⟨#[115,108,101,101,112]⟩,.string ⟨#[115,112,97,119,110]⟩,.string ⟨#[115,117,112,101,114,118,105,115,101,100]⟩,.string ⟨#[116,97,115,107]⟩,.string ⟨#[116,101,120,116]⟩,.string ⟨#[116,104,114,111,119]⟩,.string ⟨#[116,114,117,101]⟩,.string ⟨#[116,114,121]⟩,.string ⟨#[117,115,101]⟩,.string ⟨#[119,104,105,108,101]⟩,.string ⟨#[119,105,116,104,105,110]⟩,.string ⟨#[121,105,101,108,100]⟩]) (vs:=[(0,.string ⟨#[97,102,116,101,114]⟩),(1,.string ⟨#[97,119,97,105,116]⟩),(2,.string ⟨#[98,111,111,108]⟩),(3,.string ⟨#[98,114,101,97,107]⟩),(4,.string ⟨#[98,117,102,102,101,114]⟩),(5,.string ⟨#[99,97,110,99,101,108]⟩),(6,.string ⟨#[99,97,116,99,104]⟩),(7,.string ⟨#[99,104,97,110]⟩),(8,.string ⟨#[99,108,111,115,101]⟩),(9,.string ⟨#[99,111,110,116,105,110,117,101]⟩),(10,.string ⟨#[100,114,111,112]⟩),(11,.string ⟨#[101,97,99,104]⟩),(12,.string ⟨#[101,108,115,101]⟩),(13,.string ⟨#[101,109,105,116]⟩),(14,.string ⟨#[102,97,108,115,101]⟩),(15,.string ⟨#[102,105,110,97,108,108,121]⟩),(16,.string ⟨#[102,108,111,119]⟩),(17,.string ⟨#[102,110]⟩),(18,.string ⟨#[102,114,111,109]⟩),(19,.string ⟨#[104,111,108,100]⟩),(20,.string ⟨#[105,102]⟩),(21,.string ⟨#[105,110,116]⟩),(22,.string ⟨#[108,101,116]⟩),(23,.string ⟨#[108,111,99,107]⟩),(24,.string ⟨#[110,101,119]⟩),(25,.string ⟨#[110,111,119]⟩),(26,.string ⟨#[111,108,100]⟩),(27,.string ⟨#[112,114,111,100,117,99,101]⟩),(28,.string ⟨#[114,101,99,101,105,118,101]⟩),(29,.string ⟨#[114,101,116,117,114,110]⟩),(30,.string ⟨#[115,99,111,112,101]⟩),(31,.string ⟨#[115,101,108,101,99,116]⟩),(32,.string ⟨#[115,101,110,100]⟩),(33,.string ⟨#[115,104,105,101,108,100]⟩),(34,.string ⟨#[115,108,101,101,112]⟩),(35,.string ⟨#[115,112,97,119,110]⟩),(36,.string ⟨#[115,117,112,101,114,118,105,115,101,100]⟩),(37,.string ⟨#[116,97,115,107]⟩),(38,.string ⟨#[116,101,120,116]⟩),(39,.string ⟨#[116,104,114,111,119]⟩),(40,.string ⟨#[116,114,117,101]⟩),(41,.string ⟨#[116,114,121]⟩),(42,.string ⟨#[117,115,101]⟩),(43,.string ⟨#[119,104,105,108,101]⟩),(44,.string ⟨#[119,105,116,104,105,110]⟩),(45,.string ⟨#[121,105,101,108,100]⟩)]) a rfl (fun w=>by kernel_rfl) (fun g a=>(m2 (.slice (some ⟨(zz wi),0,none⟩) 46 46) (wt (wp_ret ?_))))))));obtain ⟨b,c,j,d⟩:=frzI (i:=0) (bytes:=16) (xs:=[⟨#[97,102,116,101,114]⟩,⟨#[97,119,97,105,116]⟩,⟨#[98,111,111,108]⟩,⟨#[98,114,101,97,107]⟩,⟨#[98,117,102,102,101,114]⟩,⟨#[99,97,110,99,101,108]⟩,⟨#[99,97,116,99,104]⟩,⟨#[99,104,97,110]⟩,⟨#[99,108,111,115,101]⟩,⟨#[99,111,110,116,105,110,117,101]⟩,⟨#[100,114,111,112]⟩,⟨#[101,97,99,104]⟩,⟨#[101,108,115,101]⟩,⟨#[101,109,105,116]⟩,⟨#[102,97,108,115,101]⟩,⟨#[102,105,110,97,108,108,121]⟩,⟨#[102,108,111,119]⟩,⟨#[102,110]⟩,⟨#[102,114,111,109]⟩,⟨#[104,111,108,100]⟩,⟨#[105,102]⟩,⟨#[105,110,116]⟩,⟨#[108,101,116]⟩,⟨#[108,111,99,107]⟩,⟨#[110,101,119]⟩,⟨#[110,111,119]⟩,⟨#[111,108,100]⟩,⟨#[112,114,111,100,117,99,101]⟩,⟨#[114,101,99,101,105,118,101]⟩,⟨#[114,101,116,117,114,110]⟩,⟨#[115,99,111,112,101]⟩,⟨#[115,101,108,101,99,116]⟩,⟨#[115,101,110,100]⟩,⟨#[115,104,105,101,108,100]⟩,⟨#[115,108,101,101,112]⟩,⟨#[115,112,97,119,110]⟩,⟨#[115,117,112,101,114,118,105,115,101,100]⟩,⟨#[116,97,115,107]⟩,⟨#[116,101,120,116]⟩,⟨#[116,104,114,111,119]⟩,⟨#[116,114,117,101]⟩,⟨#[116,114,121]⟩,⟨#[117,115,101]⟩,⟨#[119,104,105,108,101]⟩,⟨#[119,105,116,104,105,110]⟩,⟨#[121,105,101,108,100]⟩]) (R:=fun K=>RStr) a rfl (Nat.le_refl _) ⟨[.string ⟨#[97,102,116,101,114]⟩],_,rfl,rfl,⟨rfl,(by decide)⟩,⟨[.string ⟨#[97,119,97,105,116]⟩],_,rfl,rfl,⟨rfl,(by decide)⟩,⟨[.string ⟨#[98,111,111,108]⟩],_,rfl,rfl,⟨rfl,(by decide)⟩,⟨[.string ⟨#[98,114,101,97,107]⟩],_,rfl,rfl,⟨rfl,(by decide)⟩,⟨[.string ⟨#[98,117,102,102,101,114]⟩],_,rfl,rfl,⟨rfl,(by decide)⟩,⟨[.string ⟨#[99,97,110,99,101,108]⟩],_,rfl,rfl,⟨rfl,(by decide)⟩,⟨[.string ⟨#[99,97,116,99,104]⟩],_,rfl,rfl,⟨rfl,(by decide)⟩,⟨[.string ⟨#[99,104,97,110]⟩],_,rfl,rfl,⟨rfl,(by decide)⟩,⟨[.string ⟨#[99,108,111,115,101]⟩],_,rfl,rfl,⟨rfl,(by decide)⟩,⟨[.string ⟨#[99,111,110,116,105,110,117,101]⟩],_,rfl,rfl,⟨rfl,(by decide)⟩,⟨[.string ⟨#[100,114,111,112]⟩],_,rfl,rfl,⟨rfl,(by decide)⟩,⟨[.string ⟨#[101,97,99,104]⟩],_,rfl,rfl,⟨rfl,(by decide)⟩,⟨[.string ⟨#[101,108,115,101]⟩],_,rfl,rfl,⟨rfl,(by decide)⟩,⟨[.string ⟨#[101,109,105,116]⟩],_,rfl,rfl,⟨rfl,(by decide)⟩,⟨[.string ⟨#[102,97,108,115,101]⟩],_,rfl,rfl,⟨rfl,(by decide)⟩,⟨[.string ⟨#[102,105,110,97,108,108,121]⟩],_,rfl,rfl,⟨rfl,(by decide)⟩,⟨[.string ⟨#[102,108,111,119]⟩],_,rfl,rfl,⟨rfl,(by decide)⟩,⟨[.string ⟨#[102,110]⟩],_,rfl,rfl,⟨rfl,(by decide)⟩,⟨[.string ⟨#[102,114,111,109]⟩],_,rfl,rfl,⟨rfl,(by decide)⟩,⟨[.string ⟨#[104,111,108,100]⟩],_,rfl,rfl,⟨rfl,(by decide)⟩,⟨[.string ⟨#[105,102]⟩],_,rfl,rfl,⟨rfl,(by decide)⟩,⟨[.string ⟨#[105,110,116]⟩],_,rfl,rfl,⟨rfl,(by decide)⟩,⟨[.string ⟨#[108,101,116]⟩],_,rfl,rfl,⟨rfl,(by decide)⟩,⟨[.string ⟨#[108,111,99,107]⟩],_,rfl,rfl,⟨rfl,(by decide)⟩,⟨[.string ⟨#[110,101,119]⟩],_,rfl,rfl,⟨rfl,(by decide)⟩,⟨[.string ⟨#[110,111,119]⟩],_,rfl,rfl,⟨rfl,(by decide)⟩,⟨[.string ⟨#[111,108,100]⟩],_,rfl,rfl,⟨rfl,(by decide)⟩,⟨[.string ⟨#[112,114,111,100,117,99,101]⟩],_,rfl,rfl,⟨rfl,(by decide)⟩,⟨[.string ⟨#[114,101,99,101,105,118,101]⟩],_,rfl,rfl,⟨rfl,(by decide)⟩,⟨[.string ⟨#[114,101,116,117,114,110]⟩],_,rfl,rfl,⟨rfl,(by decide)⟩,⟨[.string ⟨#[115,99,111,112,101]⟩],_,rfl,rfl,⟨rfl,(by decide)⟩,⟨[.string ⟨#[115,101,108,101,99,116]⟩],_,rfl,rfl,⟨rfl,(by decide)⟩,⟨[.string ⟨#[115,101,110,100]⟩],_,rfl,rfl,⟨rfl,(by decide)⟩,⟨[.string ⟨#[115,104,105,101,108,100]⟩],_,rfl,rfl,⟨rfl,(by decide)⟩,⟨[.string ⟨#[115,108,101,101,112]⟩],_,rfl,rfl,⟨rfl,(by decide)⟩,⟨[.string ⟨#[115,112,97,119,110]⟩],_,rfl,rfl,⟨rfl,(by decide)⟩,⟨[.string ⟨#[115,117,112,101,114,118,105,115,101,100]⟩],_,rfl,rfl,⟨rfl,(by decide)⟩,⟨[.string ⟨#[116,97,115,107]⟩],_,rfl,rfl,⟨rfl,(by decide)⟩,⟨[.string ⟨#[116,101,120,116]⟩],_,rfl,rfl,⟨rfl,(by decide)⟩,⟨[.string ⟨#[116,104,114,111,119]⟩],_,rfl,rfl,⟨rfl,(by decide)⟩,⟨[.string ⟨#[116,114,117,101]⟩],_,rfl,rfl,⟨rfl,(by decide)⟩,⟨[.string ⟨#[116,114,121]⟩],_,rfl,rfl,⟨rfl,(by decide)⟩,⟨[.string ⟨#[117,115,101]⟩],_,rfl,rfl,⟨rfl,(by decide)⟩,⟨[.string ⟨#[119,104,105,108,101]⟩],_,rfl,rfl,⟨rfl,(by decide)⟩,⟨[.string ⟨#[119,105,116,104,105,110]⟩],_,rfl,rfl,⟨rfl,(by decide)⟩,⟨[.string ⟨#[121,105,101,108,100]⟩],_,rfl,rfl,⟨rfl,(by decide)⟩,(reps0 (R:=RStr) (size:=1))⟩⟩⟩⟩⟩⟩⟩⟩⟩⟩⟩⟩⟩⟩⟩⟩⟩⟩⟩⟩⟩⟩⟩⟩⟩⟩⟩⟩⟩⟩⟩⟩⟩⟩⟩⟩⟩⟩⟩⟩⟩⟩⟩⟩⟩⟩ rfl (Nat.le_of_ble_eq_true rfl) (fun hs=>(fun _ _ h=>h));cases (oi h).trans hr_;exact retA1 rfl (resT rfl) ⟨b,(some ⟨(zz wi),0,none⟩),46,rfl,c,d⟩
theorem f167_ok (k:Nat):f167_spec (f167 k):=f167_b_ok k
theorem f141_b_ok (k:Nat):f141_spec (f141_b k):=by
 unfold f141_spec;intro K wi l d h hG J s;obtain ⟨r_,hr_,h⟩:=rz h;refine enter Tryz.func141 rfl (n:=18) rfl ?_;unfold f141_b at h;refine sr (m2 vN (wt (sr ?_)));obtain ⟨d,y,h⟩:=ob h;refine cv ([]) Tyb167 ((f167_ok k) y (hG.mono kr) (pt s)) ?_;rintro _ N ⟨p,g,j,rfl,z,t⟩;have A:=ca z s;refine m2 (sl g d j) (wt (wp_seq (sr (m2 (iI 0) (wt (wp_block (wp_loopG (fun g_ a w=>∃ u e,∃ (c:Nat),g_=e.length∧a=fr 18 (updL u [(0,.string l),(3,sl g d j),(4,iI (c:Int))])∧SR K p wi w [] []∧d.drop c=e∧f141_l1 k l e c=some r_) d.length ?_ ?_)))))))
 ·exact ⟨_,d,0,rfl,fR,A,List.drop_zero,h⟩
 ·rintro _ _ O ⟨u,e,c,rfl,rfl,m,f,h⟩;rcases e with _ | ⟨x,e⟩
  ·unfold f141_l1 at h;refine wp_seq (sr (m1 (iI (c:Int)) (m1 (sl g d j) (lS d.length Tye107 (bcm (r:=false) rfl rfl (congrArg some (drop_nil_lt f)) (wt (cndF rfl (wp_exit (thenX (thenX (blkX (thenN (sr (m2 vN (wt (wp_ret ?_))))))))))))))));cases (oi h).trans hr_;exact retA1 rfl (resT rfl) ⟨p,rfl,m⟩
  ·unfold f141_l1 at h;refine wp_seq (sr (m1 (iI (c:Int)) (m1 (sl g d j) (lS d.length Tye107 (bcm (r:=true) rfl rfl (congrArg some (drop_cons_t f)) (wt (cndT rfl (wp_skip (thenN (wp_seq (wp_block (sr (m1 (sl g d j) (m1 (iI (c:Int)) ?_))))))))))))));obtain ⟨B,C,S,D,U,G,I⟩:=(t).row.at_ (drop_cons_at f);obtain ⟨rfl,V⟩:=I;refine idxN (b:=B) (o:=C) (i:=c) Tye107 Tys9 rfl D rfl (drop_cons_lt f) (ld1 (v:=.string x) Tya9 rfl (m.cell (kr.cell (G 0 _ rfl))) (m1 (.string l) (bsc (r:=(seq x l)) rfl rfl rfl (wt (cd h (fun q h=>?_) (fun q h=>?_))))))
   ·refine cT q (sr (m2 vT (wt (wp_ret (blkR (thenR (thenR (blkR (thenR ?_)))))))));cases (oi h).trans hr_;exact retA1 rfl (resT rfl) ⟨p,rfl,m⟩
   ·exact cF q (wp_skip (blkN (thenN (wp_region_lit (m1 (iI (c:Int)) (bar (r:=((c + 1:Nat):Int)) rfl rfl (inc_ok (le_big ((t).len) (by decide) (drop_cons_lt f))) (m2 (iI ((c + 1:Nat):Int)) (wt (⟨_,Nat.lt_succ_self _,_,e,c + 1,rfl,fR,m,drop_cons_next f,h⟩)))))))))
theorem f141_ok (k:Nat):f141_spec (f141 k):=f141_b_ok k
theorem f117_b_ok (k:Nat):f117_spec (f117_b k):=by
 unfold f117_spec;intro K wi b af h hG A U;obtain ⟨r_,hr_,h⟩:=rz h;refine enter Tryz.func117 rfl (n:=39) rfl ?_;unfold f117_b at h;refine sr (m2 vN (wt (wp_seq (sr (m2 (iI 0) (wt (wp_block (wp_loopG (fun g_ a w=>∃ B j i,∃ (c:Nat),g_=i.length∧a=fr 39 (updL B [(0,.string b),(3,iI (c:Int))])∧KH.sub K j∧SR K j wi w [] []∧b.data.toList.drop c=i∧f117_l1 k b i c=some r_) b.data.toList.length ?_ ?_))))))))
 ·exact ⟨_,K,b.data.toList,0,rfl,fR,kr,U,List.drop_zero,h⟩
 ·rintro _ _ ag ⟨B,j,i,c,rfl,rfl,q,l,m,h⟩;rcases i with _ | ⟨C,i⟩
  ·unfold f117_l1 at h;refine wp_seq (sr (m1 (iI (c:Int)) (m1 (.string b) (lnT (a:=b) Tyt9 rfl (bcm (r:=false) rfl rfl (congrArg some (drop_nil_ls m)) (wt (cndF rfl (wp_exit (thenX (thenX (blkX (thenN (wp_cut (fun a w=>∃ D s x,a=fr 39 (updL D [(2,.bool x)])∧KH.sub j s∧SR K s wi w [] []∧f117_j1 k x=some r_) ?_ ?_)))))))))))))
   ·refine wp_region_lit (m1 (.string b) (lnT (a:=b) Tyt9 rfl (c0 (decide ((b.size:Int) ≥ 1)) (m1 (.bool (decide ((b.size:Int) ≥ 1))) (cd h (fun f h=>?_) (fun f h=>?_))))))
    ·refine n1 29 f (m1 (.string b) (n1 29 f (lnT (a:=b) Tyt9 rfl (n1 29 f (c0 (decide ((b.size:Int) ≤ 12)) (m3 true (.bool (decide ((b.size:Int) ≤ 12))) (cg f) (m1 (.bool (decide ((b.size:Int) ≤ 12))) (cd h (fun g h=>?_) (fun g h=>?_)))))))))
     ·refine n1 34 g (m1 (.string b) (n1 34 g ?_));obtain ⟨t,V,h⟩:=ob h;refine cv ([.string b]) Tyb141 ((f141_ok k) V (hG.mono q) A (pt l)) ?_;rintro _ ah ⟨W,rfl,G⟩;have X:=ca G l;exact n1 34 g (uN t (m3 true (.bool (!t)) (cg g) (m2 (.bool (!t)) (wt (⟨_,W,(!t),fR,G.sub,X,h⟩)))))
     ·exact o1 34 g (o1 34 g (o1 34 g (m3 false vN (cg g) (m2 vN (wt (⟨_,j,false,fR,kr,l,h⟩))))))
    ·exact o1 29 f (o1 29 f (o1 29 f (m3 false vN (cg f) (m1 vN (o0 34 (o0 34 (o0 34 (m3 false vN rfl (m2 vN (wt (⟨_,j,false,fR,kr,l,h⟩)))))))))))
   ·rintro _ ai ⟨D,s,x,rfl,aj,Y,h⟩;unfold f117_j1 at h;refine wp_ret ?_;cases (oi h).trans hr_;exact retA1 rfl (resT rfl) ⟨s,rfl,Y⟩
  ·unfold f117_l1 at h;refine wp_seq (sr (m1 (iI (c:Int)) (m1 (.string b) (lnT (a:=b) Tyt9 rfl (bcm (r:=true) rfl rfl (congrArg some (drop_cons_ts m)) (wt (cndT rfl (wp_skip (thenN (wp_seq (wp_block (wp_cut (fun a w=>∃ I o y,a=fr 39 (updL I [(0,.string b),(3,iI (c:Int)),(25,.bool y)])∧KH.sub j o∧SR K o wi w [] []∧f117_j2 k c y (f117_l1 k b i)=some r_) ?_ ?_))))))))))))
   ·refine wp_region_lit (m1 (.string b) (m1 (iI (c:Int)) (ixN Tyt9 rfl rfl m ?_)));obtain ⟨J,Z,h⟩:=ob h;refine cv ([.int .u8 (C.toNat:Int)]) Tyb139 ((f139_ok k) Z (hG.mono q) (pt l)) ?_;rintro _ ak ⟨N,rfl,p⟩;have u:=ca p l;refine uN J (m1 (.bool (!J)) (cd h (fun d h=>?_) (fun d h=>?_)))
    ·refine n1 15 d (m1 (iI (c:Int)) (n1 15 d (c0 ((c:Int) == 0) (n1 15 d (m1 (.bool ((c:Int) == 0)) (cd h (fun e h=>?_) (fun e h=>?_)))))))
     ·exact o1 18 e (o1 18 e (o1 18 e (o1 18 e (o1 18 e (n1 15 d (m3 true vT (cg e) (m3 true vT (cg d) (wt (⟨_,N,true,fR,p.sub,u,h⟩)))))))))
     ·refine n1 18 e (m1 (.string b) (n1 18 e (m1 (iI (c:Int)) (n1 18 e (ixN Tyt9 rfl rfl m (n1 18 e ?_))))));obtain ⟨v,ab,h⟩:=ob h;refine cv ([.int .u8 (C.toNat:Int)]) Tyb140 ((f140_ok k) ab (hG.mono u.sub) (pt u)) ?_;rintro _ al ⟨ac,rfl,O⟩;have ad:=ca O u;exact n1 18 e (uN v (n1 15 d (m3 false (.bool (!v)) (cg e) (m3 true (.bool (!v)) (cg d) (wt (⟨_,ac,(!v),fR,(p.sub.trans O.sub),ad,h⟩))))))
    ·exact o1 15 d (o1 15 d (o1 15 d (ou 18 (ou 18 (ou 18 (ou 18 (ou 18 (o1 15 d (m3 false vN (cg d) (wt (⟨_,N,false,fR,p.sub,u,h⟩)))))))))))
   ·rintro _ am ⟨I,o,y,rfl,ae,S,h⟩;unfold f117_j2 at h;refine cd h (fun z h=>?_) (fun z h=>?_)
    ·refine cT z (sr (m2 vN (wt (wp_ret (blkR (thenR (thenR (blkR (thenR ?_)))))))));cases (oi h).trans hr_;exact retA1 rfl (resT rfl) ⟨o,rfl,S⟩
    ·exact cF z (wp_skip (blkN (thenN (wp_region_lit (m1 (iI (c:Int)) (bar (r:=((c + 1:Nat):Int)) rfl rfl (inc_ok (le_bigs A m)) (m2 (iI ((c + 1:Nat):Int)) (wt (⟨_,Nat.lt_succ_self _,_,o,i,c + 1,rfl,fR,(q.trans ae),S,drop_cons_next m,h⟩)))))))))
theorem f117_ok (k:Nat):f117_spec (f117 k):=f117_b_ok k
theorem f84_b_ok (k:Nat) (F:Fam84) (IH84:f84_spec F.f84):f84_spec (f84_b k F):=by
 unfold f84_spec;intro K wi g bs Z ab X bA dU s t dV dW dX h hG bB bC;obtain ⟨r_,hr_,h⟩:=rz h;obtain ⟨d,e,f,x,p⟩:=bA;obtain ⟨y,z,rfl,aM,aN⟩:=RDExpr.open bB;refine enter Tryz.func84 rfl (n:=161) rfl ?_;unfold f84_b at h;refine sr (bxoC (cs:=(aE d e f x y p z)) bC rfl rfl (fun bD ao=>(wt (wp_seq (sr (m1 (pp g 0) (nilc rfl (fd 2 Tyf104_2 rfl (l1 1 (.bool X) ao Tya4 (wt (cd h (fun ap h=>?_) (fun ap h=>?_))))))))))))
 ·refine cT ap (wp_ret (thenR ?_));cases (oi h).trans hr_;exact ret0 rfl ⟨K,rfl,(ao.sel [1])⟩
 ·refine cF ap (wp_skip (thenN (sr (m1 (pp g 0) (m1 (iI s) ?_)))));have aP:=p10 ao;obtain ⟨⟨dY,dZ,d0⟩,bE,h⟩:=ob h;refine cv ([pp g 0,iI s]) Tyb114 ((f114_ok k) bE (hG.mono kr) (pt aP)) ?_;rintro _ d1 ⟨bF,rfl,l⟩;have af:=ca l aP;refine wt (wp_cut (fun a w=>∃ aQ ag ah ai aj,a=fr 161 (updL aQ [(0,pp g 0),(2,iI s),(3,.bool t),(5,pp (zz wi) 0)])∧KH.sub bF ag∧SR K ag wi w [.box bs g #[iI Z,iI ab,.bool X] 104] [.box bs g #[iI ah,iI ai,.bool aj] 104,.box (zz wi) (zz wi) (aE d e f x y p z) 35]∧f84_j1 k F d e f p s t ah ai aj=some r_) ?_ ?_)
  ·refine wp_region_lit (m1 (pp g 0) (m1 (.bool t) (m1 (.bool t) (cd h (fun A h=>?_) (fun A h=>?_)))))
   ·refine o1 19 A (o1 19 A (o1 19 A (m3 true vT (cg A) ?_)));obtain ⟨⟨bG,bH,bI⟩,bJ,h⟩:=ob h;refine cv ([pp g 0,vT]) Tyb115 ((f115_ok k) bJ (hG.mono l.sub) (pt af)) ?_;rintro _ d2 ⟨bK,rfl,aT⟩;have bL:=ca aT af;exact wt (⟨_,bK,bG,bH,bI,fR,aT.sub,bL,h⟩)
   ·refine n1 19 A (fd 3 Tyf35_3 rfl (n1 19 A (l1 1 (iI x) af Tya3 (n1 19 A (c0 (x == 0) (m3 false (.bool (x == 0)) (cg A) ?_))))));obtain ⟨⟨bM,bN,bO⟩,bP,h⟩:=ob h;refine cv ([pp g 0,.bool (x == 0)]) Tyb115 ((f115_ok k) bP (hG.mono l.sub) (pt af)) ?_;rintro _ d3 ⟨bQ,rfl,aU⟩;have bR:=ca aU af;exact wt (⟨_,bQ,bM,bN,bO,fR,aU.sub,bR,h⟩)
  ·rintro _ d4 ⟨aQ,ag,ah,ai,aj,rfl,m,c,h⟩;unfold f84_j1 at h;refine sr (m2 (iI 0) (wt (wp_cut (fun a w=>∃ aV aq ar au av ac,a=fr 161 (updL aV [(0,pp g 0),(2,iI s),(3,.bool t),(5,pp (zz wi) 0),(8,iI ac)])∧KH.sub ag aq∧SR K aq wi w [.box bs g #[iI Z,iI ab,.bool X] 104] [.box bs g #[iI ar,iI au,.bool av] 104,.box (zz wi) (zz wi) (aE d e f x y p z) 35]∧f84_j2 k F p s t ar au av ac=some r_) ?_ ?_)))
   ·refine wp_block (sr (fd 0 Tyf35_0 rfl (l1 1 (iI d) c Tya3 (c0 (d == 1) (m2 (.bool (d == 1)) (wt (cd h (fun aw h=>?_) (fun aw h=>?_))))))))
    ·refine cT aw (wp_region_lit (m1 (pp g 0) (fd 1 Tyf35_1 rfl (l1 1 (iI e) c Tya3 (c0 (decide (e ≥ 0)) (m1 (.bool (decide (e ≥ 0))) (cd h (fun B h=>?_) (fun B h=>?_))))))))
     ·refine n1 53 B (fd 1 Tyf35_1 rfl (n1 53 B (l1 1 (iI e) c Tya3 (n1 53 B (c0 (decide (e ≤ 1000000000000)) (m3 true (.bool (decide (e ≤ 1000000000000))) (cg B) (m1 (.bool (decide (e ≤ 1000000000000))) (cd h (fun C h=>?_) (fun C h=>?_)))))))))
      ·refine n1 58 C (fd 2 Tyf35_2 rfl (n1 58 C (l1 1 (.string f) c Tya9 (n1 58 C (bsc (r:=(seq f ⟨#[]⟩)) rfl rfl rfl (m3 true (.bool (seq f ⟨#[]⟩)) (cg C) ?_))))));obtain ⟨⟨bS,bT,bU⟩,bV,h⟩:=ob h;refine cv ([pp g 0,.bool (seq f ⟨#[]⟩)]) Tyb115 ((f115_ok k) bV (hG.mono c.sub) (pt c)) ?_;rintro _ d5 ⟨bW,rfl,aW⟩;have bX:=ca aW c;exact wpList_nil (blkN (thenN (⟨_,bW,bS,bT,bU,0,fR,aW.sub,bX,h⟩)))
      ·refine o1 58 C (o1 58 C (o1 58 C (m3 false vN (cg C) ?_)));obtain ⟨⟨bY,bZ,b0⟩,b1,h⟩:=ob h;refine cv ([pp g 0,vN]) Tyb115 ((f115_ok k) b1 (hG.mono c.sub) (pt c)) ?_;rintro _ d6 ⟨b2,rfl,aX⟩;have b3:=ca aX c;exact wpList_nil (blkN (thenN (⟨_,b2,bY,bZ,b0,0,fR,aX.sub,b3,h⟩)))
     ·refine o1 53 B (o1 53 B (o1 53 B (m3 false vN (cg B) (m1 vN (o0 58 (o0 58 (o0 58 (m3 false vN rfl ?_))))))));obtain ⟨⟨b4,b5,b6⟩,b7,h⟩:=ob h;refine cv ([pp g 0,vN]) Tyb115 ((f115_ok k) b7 (hG.mono c.sub) (pt c)) ?_;rintro _ d7 ⟨b8,rfl,aY⟩;have b9:=ca aY c;exact wpList_nil (blkN (thenN (⟨_,b8,b4,b5,b6,0,fR,aY.sub,b9,h⟩)))
    ·refine cF aw (sr (fd 0 Tyf35_0 rfl (l1 1 (iI d) c Tya3 (c0 (d == 2) (m2 (.bool (d == 2)) (wt (cd h (fun ax h=>?_) (fun ax h=>?_))))))))
     ·refine cT ax (wp_region_lit (m1 (pp g 0) (fd 1 Tyf35_1 rfl (l1 1 (iI e) c Tya3 (c0 (e == 0) (m1 (.bool (e == 0)) (cd h (fun D h=>?_) (fun D h=>?_))))))))
      ·refine o1 72 D (o1 72 D (o1 72 D (m3 true vT (cg D) (m1 vT (n0 77 (fd 2 Tyf35_2 rfl (n0 77 (l1 1 (.string f) c Tya9 (n0 77 (bsc (r:=(seq f ⟨#[]⟩)) rfl rfl rfl (m3 true (.bool (seq f ⟨#[]⟩)) rfl ?_)))))))))));obtain ⟨⟨cb,cc,ce⟩,cf,h⟩:=ob h;refine cv ([pp g 0,.bool (seq f ⟨#[]⟩)]) Tyb115 ((f115_ok k) cf (hG.mono c.sub) (pt c)) ?_;rintro _ d8 ⟨ch,rfl,aZ⟩;have ci:=ca aZ c;exact wpList_nil (blkN (thenN (⟨_,ch,cb,cc,ce,0,fR,aZ.sub,ci,h⟩)))
      ·refine n1 72 D (fd 1 Tyf35_1 rfl (n1 72 D (l1 1 (iI e) c Tya3 (n1 72 D (c0 (e == 1) (m3 false (.bool (e == 1)) (cg D) (m1 (.bool (e == 1)) (cd h (fun G h=>?_) (fun G h=>?_)))))))))
       ·refine n1 77 G (fd 2 Tyf35_2 rfl (n1 77 G (l1 1 (.string f) c Tya9 (n1 77 G (bsc (r:=(seq f ⟨#[]⟩)) rfl rfl rfl (m3 true (.bool (seq f ⟨#[]⟩)) (cg G) ?_))))));obtain ⟨⟨cj,ck,cl⟩,cm,h⟩:=ob h;refine cv ([pp g 0,.bool (seq f ⟨#[]⟩)]) Tyb115 ((f115_ok k) cm (hG.mono c.sub) (pt c)) ?_;rintro _ d9 ⟨cn,rfl,a0⟩;have co:=ca a0 c;exact wpList_nil (blkN (thenN (⟨_,cn,cj,ck,cl,0,fR,a0.sub,co,h⟩)))
       ·refine o1 77 G (o1 77 G (o1 77 G (m3 false vN (cg G) ?_)));obtain ⟨⟨cq,cr,ct⟩,cu,h⟩:=ob h;refine cv ([pp g 0,vN]) Tyb115 ((f115_ok k) cu (hG.mono c.sub) (pt c)) ?_;rintro _ ea ⟨cw,rfl,a4⟩;have cx:=ca a4 c;exact wpList_nil (blkN (thenN (⟨_,cw,cq,cr,ct,0,fR,a4.sub,cx,h⟩)))
     ·refine cF ax (sr (fd 0 Tyf35_0 rfl (l1 1 (iI d) c Tya3 (c0 (d == 3) (m2 (.bool (d == 3)) (wt (cd h (fun ay h=>?_) (fun ay h=>?_))))))))
      ·refine cT ay (wp_region_lit (m1 (pp g 0) (fd 1 Tyf35_1 rfl (l1 1 (iI e) c Tya3 (c0 (e == 0) (m1 (.bool (e == 0)) (cd h (fun I h=>?_) (fun I h=>?_))))))))
       ·refine n1 91 I (fd 2 Tyf35_2 rfl (n1 91 I (l1 1 (.string f) c Tya9 (n1 91 I ?_))));obtain ⟨a5,cy,h⟩:=ob h;refine cv ([.string f]) Tyb116 ((f116_ok k) cy (hG.mono c.sub) aM (pt c)) ?_;rintro _ ec ⟨ed,rfl,az⟩;have a6:=ca az c;refine m3 true (.bool a5) (cg I) ?_;obtain ⟨⟨cz,cA,cB⟩,cC,h⟩:=ob h;refine cv ([pp g 0,.bool a5]) Tyb115 ((f115_ok k) cC (hG.mono a6.sub) (pt a6)) ?_;rintro _ ee ⟨cD,rfl,a7⟩;have cG:=ca a7 a6;exact wpList_nil (blkN (thenN (⟨_,cD,cz,cA,cB,0,fR,(az.sub.trans a7.sub),cG,h⟩)))
       ·refine o1 91 I (o1 91 I (o1 91 I (m3 false vN (cg I) ?_)));obtain ⟨⟨cH,cI,cJ⟩,cK,h⟩:=ob h;refine cv ([pp g 0,vN]) Tyb115 ((f115_ok k) cK (hG.mono c.sub) (pt c)) ?_;rintro _ ef ⟨cL,rfl,a8⟩;have cM:=ca a8 c;exact wpList_nil (blkN (thenN (⟨_,cL,cH,cI,cJ,0,fR,a8.sub,cM,h⟩)))
      ·refine cF ay (sr (fd 0 Tyf35_0 rfl (l1 1 (iI d) c Tya3 (c0 (d == 4) (m2 (.bool (d == 4)) (wt (cd h (fun aA h=>?_) (fun aA h=>?_))))))))
       ·refine cT aA (wp_region_lit (m1 (pp g 0) (fd 1 Tyf35_1 rfl (l1 1 (iI e) c Tya3 (c0 (e == 0) (m1 (.bool (e == 0)) (cd h (fun J h=>?_) (fun J h=>?_))))))))
        ·refine n1 105 J (fd 2 Tyf35_2 rfl (n1 105 J (l1 1 (.string f) c Tya9 (n1 105 J ?_))));obtain ⟨a9,cN,h⟩:=ob h;refine cv ([.string f]) Tyb117 ((f117_ok k) cN (hG.mono c.sub) aM (pt c)) ?_;rintro _ eg ⟨eh,rfl,aB⟩;have ba:=ca aB c;refine m3 true (.bool a9) (cg J) ?_;obtain ⟨⟨cO,cP,cQ⟩,cR,h⟩:=ob h;refine cv ([pp g 0,.bool a9]) Tyb115 ((f115_ok k) cR (hG.mono ba.sub) (pt ba)) ?_;rintro _ ei ⟨cS,rfl,bb⟩;have cU:=ca bb ba;exact wpList_nil (blkN (thenN (⟨_,cS,cO,cP,cQ,0,fR,(aB.sub.trans bb.sub),cU,h⟩)))
        ·refine o1 105 J (o1 105 J (o1 105 J (m3 false vN (cg J) ?_)));obtain ⟨⟨cV,cW,cX⟩,cY,h⟩:=ob h;refine cv ([pp g 0,vN]) Tyb115 ((f115_ok k) cY (hG.mono c.sub) (pt c)) ?_;rintro _ ej ⟨cZ,rfl,bd⟩;have c3:=ca bd c;exact wpList_nil (blkN (thenN (⟨_,cZ,cV,cW,cX,0,fR,bd.sub,c3,h⟩)))
       ·refine cF aA (wp_cut (fun a w=>∃ be aG,a=fr 161 (updL be [(0,pp g 0),(2,iI s),(3,.bool t),(5,pp (zz wi) 0),(111,.bool aG)])∧SR K ag wi w [.box bs g #[iI Z,iI ab,.bool X] 104] [.box bs g #[iI ah,iI ai,.bool aj] 104,.box (zz wi) (zz wi) (aE d e f x y p z) 35]∧f84_j3 k F d e f p s t ah ai aj aG=some r_) ?_ ?_)
        ·refine wp_region_lit (fd 0 Tyf35_0 rfl (l1 1 (iI d) c Tya3 (c0 (d == 5) (m1 (.bool (d == 5)) (cd h (fun N h=>?_) (fun N h=>?_))))))
         ·exact o1 115 N (o1 115 N (o1 115 N (m3 true vT (cg N) (m2 vT (wt (⟨_,true,fR,c,h⟩))))))
         ·exact n1 115 N (fd 0 Tyf35_0 rfl (n1 115 N (l1 1 (iI d) c Tya3 (n1 115 N (c0 (d == 6) (m3 false (.bool (d == 6)) (cg N) (m2 (.bool (d == 6)) (wt (⟨_,(d == 6),fR,c,h⟩)))))))))
        ·rintro _ ek ⟨be,aG,rfl,q,h⟩;unfold f84_j3 at h;refine cd h (fun aH h=>?_) (fun aH h=>?_)
         ·refine cT aH (sr (m2 (iI 1) (wt (wp_region_lit (m1 (pp g 0) (fd 1 Tyf35_1 rfl (l1 1 (iI e) q Tya3 (c0 (e == 0) (m1 (.bool (e == 0)) (cd h (fun O h=>?_) (fun O h=>?_)))))))))))
          ·refine n1 124 O (fd 2 Tyf35_2 rfl (n1 124 O (l1 1 (.string f) q Tya9 (n1 124 O (bsc (r:=(seq f ⟨#[]⟩)) rfl rfl rfl (m3 true (.bool (seq f ⟨#[]⟩)) (cg O) ?_))))));obtain ⟨⟨c4,c5,c6⟩,c7,h⟩:=ob h;refine cv ([pp g 0,.bool (seq f ⟨#[]⟩)]) Tyb115 ((f115_ok k) c7 (hG.mono q.sub) (pt q)) ?_;rintro _ el ⟨c8,rfl,bf⟩;have c9:=ca bf q;exact wpList_nil (blkN (thenN (⟨_,c8,c4,c5,c6,1,fR,bf.sub,c9,h⟩)))
          ·refine o1 124 O (o1 124 O (o1 124 O (m3 false vN (cg O) ?_)));obtain ⟨⟨da,db,dc⟩,dd,h⟩:=ob h;refine cv ([pp g 0,vN]) Tyb115 ((f115_ok k) dd (hG.mono q.sub) (pt q)) ?_;rintro _ em ⟨de,rfl,bg⟩;have df:=ca bg q;exact wpList_nil (blkN (thenN (⟨_,de,da,db,dc,1,fR,bg.sub,df,h⟩)))
         ·refine cF aH (sr (m2 (iI 2) (wt (wp_region_lit (m1 (pp g 0) (fd 0 Tyf35_0 rfl (l1 1 (iI d) q Tya3 (c0 (decide (d ≥ 7)) (m1 (.bool (decide (d ≥ 7))) (cd h (fun S h=>?_) (fun S h=>?_)))))))))))
          ·refine n1 29 S (fd 0 Tyf35_0 rfl (n1 29 S (l1 1 (iI d) q Tya3 (n1 29 S (c0 (decide (d ≤ 19)) (m3 true (.bool (decide (d ≤ 19))) (cg S) (m1 (.bool (decide (d ≤ 19))) (cd h (fun U h=>?_) (fun U h=>?_)))))))))
           ·refine n1 34 U (fd 1 Tyf35_1 rfl (n1 34 U (l1 1 (iI e) q Tya3 (n1 34 U (c0 (e == 0) (m3 true (.bool (e == 0)) (cg U) (m1 (.bool (e == 0)) (cd h (fun V h=>?_) (fun V h=>?_)))))))))
            ·refine n1 39 V (fd 2 Tyf35_2 rfl (n1 39 V (l1 1 (.string f) q Tya9 (n1 39 V (bsc (r:=(seq f ⟨#[]⟩)) rfl rfl rfl (m3 true (.bool (seq f ⟨#[]⟩)) (cg V) ?_))))));obtain ⟨⟨dg,dh,di⟩,dj,h⟩:=ob h;refine cv ([pp g 0,.bool (seq f ⟨#[]⟩)]) Tyb115 ((f115_ok k) dj (hG.mono q.sub) (pt q)) ?_;rintro _ en ⟨dk,rfl,bh⟩;have dl:=ca bh q;exact wpList_nil (blkN (thenN (⟨_,dk,dg,dh,di,2,fR,bh.sub,dl,h⟩)))
            ·refine o1 39 V (o1 39 V (o1 39 V (m3 false vN (cg V) ?_)));obtain ⟨⟨dm,dn,dp⟩,dq,h⟩:=ob h;refine cv ([pp g 0,vN]) Tyb115 ((f115_ok k) dq (hG.mono q.sub) (pt q)) ?_;rintro _ eo ⟨dr,rfl,bi⟩;have ds:=ca bi q;exact wpList_nil (blkN (thenN (⟨_,dr,dm,dn,dp,2,fR,bi.sub,ds,h⟩)))
           ·refine o1 34 U (o1 34 U (o1 34 U (m3 false vN (cg U) (m1 vN (o0 39 (o0 39 (o0 39 (m3 false vN rfl ?_))))))));obtain ⟨⟨dt,du,dv⟩,dw,h⟩:=ob h;refine cv ([pp g 0,vN]) Tyb115 ((f115_ok k) dw (hG.mono q.sub) (pt q)) ?_;rintro _ ep ⟨dx,rfl,bj⟩;have dy:=ca bj q;exact wpList_nil (blkN (thenN (⟨_,dx,dt,du,dv,2,fR,bj.sub,dy,h⟩)))
          ·refine o1 29 S (o1 29 S (o1 29 S (m3 false vN (cg S) (m1 vN (o0 34 (o0 34 (o0 34 (m3 false vN rfl (m1 vN (o0 39 (o0 39 (o0 39 (m3 false vN rfl ?_)))))))))))));obtain ⟨⟨dz,dA,dB⟩,dC,h⟩:=ob h;refine cv ([pp g 0,vN]) Tyb115 ((f115_ok k) dC (hG.mono q.sub) (pt q)) ?_;rintro _ eq ⟨dD,rfl,bk⟩;have dE:=ca bk q;exact wpList_nil (blkN (thenN (⟨_,dD,dz,dA,dB,2,fR,bk.sub,dE,h⟩)))
   ·rintro _ es ⟨aV,aq,ar,au,av,ac,rfl,al,aI,h⟩;unfold f84_j2 at h;refine sr (m1 (pp g 0) (fd 4 Tyf35_4 rfl (l1 1 (sl y p z) aI Tya33 (lS p.length Tye33 (m1 (iI ac) (c0 ((p.length:Int) == ac) ?_))))));obtain ⟨⟨dF,dG,dH⟩,dI,h⟩:=ob h;refine cv ([pp g 0,.bool ((p.length:Int) == ac)]) Tyb115 ((f115_ok k) dI (hG.mono aI.sub) (pt aI)) ?_;rintro _ et ⟨bm,rfl,am⟩;have dJ:=ca am aI;refine wt (sr (m2 (iI 0) (wt (wp_block (wp_loopG (fun g_ a w=>∃ bn ak Y,∃ (u:Nat),∃ aJ aK ad,g_=Y.length∧a=fr 161 (updL bn [(0,pp g 0),(2,iI s),(3,.bool t),(5,pp (zz wi) 0),(9,iI (u:Int))])∧KH.sub bm ak∧SR K ak wi w [.box bs g #[iI Z,iI ab,.bool X] 104] [.box bs g #[iI aJ,iI aK,.bool ad] 104,.box (zz wi) (zz wi) (aE d e f x y p z) 35]∧p.drop u=Y∧f84_l1 k F s t Y u aJ aK ad=some r_) p.length ?_ ?_)))))
    ·exact ⟨_,bm,p,0,dF,dG,dH,rfl,fR,kr,dJ,List.drop_zero,h⟩
    ·rintro _ _ eu ⟨bn,ak,Y,u,aJ,aK,ad,rfl,rfl,an,W,ae,h⟩;rcases Y with _ | ⟨⟨bo,bp,bq,br,bu⟩,Y⟩
     ·unfold f84_l1 at h;refine wp_seq (sr (m1 (iI (u:Int)) (fd 4 Tyf35_4 rfl (l1 1 (sl y p z) W Tya33 (lS p.length Tye33 (bcm (r:=false) rfl rfl (congrArg some (drop_nil_lt ae)) (m1 vN (o0 142 (o0 142 (o0 142 (o0 142 (o0 142 (m3 false vN rfl (wt (cndF rfl (wp_exit (thenX (thenX (blkX ?_)))))))))))))))))));cases (oi h).trans hr_;exact end0 rfl ⟨ak,rfl,(W.sel [0])⟩
     ·unfold f84_l1 at h;refine wp_seq (sr (m1 (iI (u:Int)) (fd 4 Tyf35_4 rfl (l1 1 (sl y p z) W Tya33 (lS p.length Tye33 (bcm (r:=true) rfl rfl (congrArg some (drop_cons_t ae)) (m1 vT (n0 142 (m1 (pp g 0) (n0 142 (nilc rfl (n0 142 (fd 2 Tyf104_2 rfl (n0 142 (l1 0 (.bool ad) W Tya4 (n0 142 (uN ad (m3 true (.bool (!ad)) rfl (wt (cd h (fun aL h=>?_) (fun aL h=>?_)))))))))))))))))))))
      ·refine cT aL (wp_skip (thenN (wp_seq (wp_block (wp_region_lit (m1 (pp g 0) (fd 4 Tyf35_4 rfl (l1 1 (sl y p z) W Tya33 (m1 (iI (u:Int)) ?_)))))))));obtain ⟨dK,dL,ew,dM,ex,dN,bv⟩:=((me aN ((((l.sub.trans m).trans al).trans am.sub).trans an))).row.at_ (drop_cons_at ae);obtain ⟨bw,bx,rfl,ey,ez⟩:=RDExpr.open bv;refine idxN (b:=dK) (o:=dL) (i:=u) Tye33 Tys35 rfl dM rfl (drop_cons_lt ae) (lD (vE bo bp bq br bw bu bx) Tya35 Tys35 rfl (fun j v hj=>W.cell (kr.cell (dN j v hj))) (m1 (iI s) (bar (r:=(w64 (s + 1))) rfl rfl rfl (m1 (.bool t) ?_))));obtain ⟨⟨dO,dP,dQ⟩,dR,h⟩:=ob h;refine cv ([pp g 0,.agg (aE bo bp bq br bw bu bx),iI (w64 (s + 1)),.bool t]) Tyb84 (IH84 dR (hG.mono W.sub) bv (pt W)) ?_;rintro _ eA ⟨dS,rfl,bz⟩;have dT:=ca bz W;exact wpList_nil (blkN (thenN (wp_region_lit (m1 (iI (u:Int)) (bar (r:=((u + 1:Nat):Int)) rfl rfl (inc_ok (le_big (((me aN ((((l.sub.trans m).trans al).trans am.sub).trans an))).len) (by decide) (drop_cons_lt ae))) (m2 (iI ((u + 1:Nat):Int)) (wt (⟨_,Nat.lt_succ_self _,_,dS,Y,u + 1,dO,dP,dQ,rfl,fR,(an.trans bz.sub),dT,drop_cons_next ae,h⟩))))))))
      ·refine cF aL (wp_exit (thenX (thenX (blkX ?_))));cases (oi h).trans hr_;exact end0 rfl ⟨ak,rfl,(W.sel [0])⟩
theorem fam84_ok (k0:Nat) : ∀ k,f84_spec (fam84 k0 k).f84:=by
 intro k;induction k with
 | zero=>exact (by unfold f84_spec; intro _ _ _ _ _ _ _ _ _ _ _ _ _ _ h_; cases h_)
 | succ k ih=>exact f84_b_ok k0 (fam84 k0 k) ih
theorem f84_ok (k:Nat):f84_spec (f84 k):=(fam84_ok k k)
theorem f58_b_ok (k:Nat):f58_spec (f58_b k):=by
 unfold f58_spec;intro K wi x N d s t O h hG y z;obtain ⟨r_,hr_,h⟩:=rz h;obtain ⟨f,g,j,m,o⟩:=x;obtain ⟨p,q,rfl,A,B⟩:=RDExpr.open y;refine enter Tryz.func58 rfl (n:=21) rfl ?_;unfold f58_b at h;refine sr (bxoC (cs:=(aE f g j m p o q)) z rfl rfl (fun S C=>(aC #[iI 0,iI 0,vN] C Tyz104 (fun e D=>(wt (sr (m1 (iI d) (bld (cells:=#[iI d,iI 0,vN]) (vs:=[(0,iI d)]) rfl (fun w=>by kernel_rfl) (bxoC (cs:=#[iI d,iI 0,vN]) D rfl rfl (fun U r=>(m2 (pp (zz e) 0) (wt (sr (m1 (pp (zz e) 0) (lN 2 (vE f g j m p o q) r Tya35 Tys35 (m1 (iI s) (m1 (.bool t) ?_)))))))))))))))));obtain ⟨⟨a,b,c⟩,G,h⟩:=ob h;refine cv ([pp (zz e) 0,.agg (aE f g j m p o q),iI s,.bool t]) Tyb84 ((f84_ok k) G (hG.mono kr) (RDExpr.intro A B) (pt r)) ?_;rintro _ V ⟨I,rfl,J⟩;have u:=ca J r;refine wt (sr (m1 (pp (zz e) 0) (nilc rfl (lN 0 ([iI a,iI b,.bool c]) u Tya104 Tys104 (sI 1 (.agg #[iI a,iI b,.bool c]) #[iI a,iI b,.bool c] u Tys104 rfl rfl (fun W v=>(wt (wp_ret ?_))))))));cases (oi h).trans hr_;exact retA1 rfl (resN (i:=1) (l:=[iI a,iI b,.bool c]) v rfl Tya104 Tys104 rfl rfl rfl) ⟨I,[iI a,iI b,.bool c],rfl,(v.sel []),.mk⟩
theorem f58_ok (k:Nat):f58_spec (f58 k):=f58_b_ok k
theorem f34_b_ok (k:Nat):f34_spec (f34_b k):=by
 unfold f34_spec;intro K wi l B C h hG m o;obtain ⟨r_,hr_,h⟩:=rz h;obtain ⟨b,c,d,e,f⟩:=l;obtain ⟨g,i,rfl,p,q⟩:=RDExpr.open m;refine enter Tryz.func34 rfl (n:=7) rfl ?_;unfold f34_b at h;refine sr (bxoC (cs:=(aE b c d e g f i)) o rfl rfl (fun D j=>(m2 vN (wt (sr (lN 0 (vE b c d e g f i) j Tya35 Tys35 ?_))))));obtain ⟨⟨r,s,a⟩,t,h⟩:=ob h;refine cv ([.agg (aE b c d e g f i),iI 0,iI 1,vT]) Tyb58 ((f58_ok k) t (hG.mono kr) (RDExpr.intro p q) (pt j)) ?_;rintro _ G ⟨x,I,rfl,y,z⟩;have A:=ca y j;obtain rfl:=RDSize.open z;refine fva (v:=.agg #[iI r,iI s,.bool a]) (u:=.bool a) rfl (fun w=>by kernel_rfl) (uN a (m2 (.bool (!a)) (wt (wp_ret ?_))));cases (oi h).trans hr_;exact retA1 rfl (resT rfl) ⟨x,rfl,(A.sel [])⟩
theorem f34_ok (k:Nat):f34_spec (f34 k):=f34_b_ok k
theorem f35_b_ok (k:Nat) (F:Fam35) (IH35:f35_spec F.f35):f35_spec (f35_b k F):=by
 unfold f35_spec;intro K wi ad an g ao h hG ae af;obtain ⟨r_,hr_,h⟩:=rz h;obtain ⟨u,C,D,e,f⟩:=ad;obtain ⟨s,t,rfl,ap,G⟩:=RDExpr.open ae;refine enter Tryz.func35 rfl (n:=33) rfl ?_;unfold f35_b at h;refine sr (bxoC (cs:=(aE u C D e s f t)) af rfl rfl (fun aq p=>(m2 vN (wt (wp_seq (sr (fd 0 Tyf35_0 rfl (l1 0 (iI u) p Tya3 (c0 (u == 4) (wt (cd h (fun z h=>?_) (fun z h=>?_))))))))))))
 ·refine cT z (wp_cut (fun a w=>∃ I A,a=fr 33 (updL I [(4,.bool A)])∧SR K K wi w [] []∧f35_j1 k F A=some r_) ?_ ?_)
  ·refine wp_region_lit (fd 3 Tyf35_3 rfl (l1 0 (iI e) p Tya3 (c0 (decide (e ≥ 0)) (m1 (.bool (decide (e ≥ 0))) (cd h (fun d h=>?_) (fun d h=>?_))))))
   ·exact n1 12 d (fd 3 Tyf35_3 rfl (n1 12 d (l1 0 (iI e) p Tya3 (n1 12 d (m1 (iI g) (n1 12 d (c0 (decide (e < g)) (m3 true (.bool (decide (e < g))) (cg d) (m2 (.bool (decide (e < g))) (wt (⟨_,(decide (e < g)),fR,(p.sel []),h⟩)))))))))))
   ·exact o1 12 d (o1 12 d (o1 12 d (o1 12 d (m3 false vN (cg d) (m2 vN (wt (⟨_,false,fR,(p.sel []),h⟩)))))))
  ·rintro _ ar ⟨I,A,rfl,ag,h⟩;unfold f35_j1 at h;refine wp_ret (thenR ?_);cases (oi h).trans hr_;exact retA1 rfl (resT rfl) ⟨K,rfl,ag⟩
 ·refine cF z (wp_skip (thenN (wp_seq (sr (m2 (iI 0) (wt (wp_block (wp_loopG (fun g_ a w=>∃ J x l,∃ (c:Nat),g_=l.length∧a=fr 33 (updL J [(1,iI g),(2,pp (zz wi) 0),(5,iI (c:Int))])∧KH.sub K x∧SR K x wi w [] [.box (zz wi) (zz wi) (aE u C D e s f t) 35]∧f.drop c=l∧f35_l1 k F g l c=some r_) f.length ?_ ?_))))))))
  ·exact ⟨_,K,f,0,rfl,fR,kr,p,List.drop_zero,h⟩
  ·rintro _ _ au ⟨J,x,l,c,rfl,rfl,y,m,q,h⟩;rcases l with _ | ⟨⟨N,O,S,U,V⟩,l⟩
   ·unfold f35_l1 at h;refine wp_seq (sr (m1 (iI (c:Int)) (fd 4 Tyf35_4 rfl (l1 0 (sl s f t) m Tya33 (lS f.length Tye33 (bcm (r:=false) rfl rfl (congrArg some (drop_nil_lt q)) (wt (cndF rfl (wp_exit (thenX (thenX (blkX (thenN (sr (m2 vT (wt (wp_ret ?_)))))))))))))))));cases (oi h).trans hr_;exact retA1 rfl (resT rfl) ⟨x,rfl,(m.sel [])⟩
   ·unfold f35_l1 at h;refine wp_seq (sr (m1 (iI (c:Int)) (fd 4 Tyf35_4 rfl (l1 0 (sl s f t) m Tya33 (lS f.length Tye33 (bcm (r:=true) rfl rfl (congrArg some (drop_cons_t q)) (wt (cndT rfl (wp_skip (thenN (wp_seq (wp_block (sr (fd 4 Tyf35_4 rfl (l1 0 (sl s f t) m Tya33 (m1 (iI (c:Int)) ?_))))))))))))))));obtain ⟨ah,ai,av,aj,aw,ak,W⟩:=((me G y)).row.at_ (drop_cons_at q);obtain ⟨X,Y,rfl,ax,ay⟩:=RDExpr.open W;refine idxN (b:=ah) (o:=ai) (i:=c) Tye33 Tys35 rfl aj rfl (drop_cons_lt q) (lD (vE N O S U X V Y) Tya35 Tys35 rfl (fun j v hj=>m.cell (kr.cell (ak j v hj))) (m1 (iI g) ?_));obtain ⟨al,am,h⟩:=ob h;refine cv ([.agg (aE N O S U X V Y),iI g]) Tyb35 (IH35 am (hG.mono y) W (pt m)) ?_;rintro _ az ⟨Z,rfl,ab⟩;have ac:=ca ab m;refine uN al (wt (cd h (fun B h=>?_) (fun B h=>?_)))
    ·refine cT B (sr (m2 vN (wt (wp_ret (blkR (thenR (thenR (blkR (thenR ?_)))))))));cases (oi h).trans hr_;exact retA1 rfl (resT rfl) ⟨Z,rfl,(ac.sel [])⟩
    ·exact cF B (wp_skip (blkN (thenN (wp_region_lit (m1 (iI (c:Int)) (bar (r:=((c + 1:Nat):Int)) rfl rfl (inc_ok (le_big (((me G y)).len) (by decide) (drop_cons_lt q))) (m2 (iI ((c + 1:Nat):Int)) (wt (⟨_,Nat.lt_succ_self _,_,Z,l,c + 1,rfl,fR,(y.trans ab.sub),ac,drop_cons_next q,h⟩)))))))))
theorem fam35_ok (k0:Nat) : ∀ k,f35_spec (fam35 k0 k).f35:=by
 intro k;induction k with
 | zero=>exact (by unfold f35_spec; intro _ _ _ _ _ _ h_; cases h_)
 | succ k ih=>exact f35_b_ok k0 (fam35 k0 k) ih
theorem f35_ok (k:Nat):f35_spec (f35 k):=(fam35_ok k k)
theorem f14_b_ok (k:Nat):f14_spec (f14_b k):=by
 unfold f14_spec;intro K wi G Y y I h hG J N;obtain ⟨r_,hr_⟩ : ∃ r_:Bool,r_=I:=⟨_,rfl⟩;rw [← hr_] at h;obtain ⟨e,f,g,j,m⟩:=G;obtain ⟨o,p,rfl,z,A⟩:=RDExpr.open J;refine enter Tryz.func14 rfl (n:=12) rfl ?_;unfold f14_b at h;refine wp_seq ?_;refine wp_region_lit ?_;refine bxoC (cs:=(aE e f g j o m p)) N rfl rfl ?_;intro Z t;refine asg (v:=vN) rfl ?_;refine wpList_nil ?_;refine thenN ?_;refine wp_cut (fun a w=>∃ (B:Nat→Value) (r:KH) (u:Bool),a=fr 12 (updL B [(4,.bool u)])∧KH.sub K r∧SR K r wi w [] []∧f14_j1 k u=some r_) ?_ ?_
 ·refine wp_region_lit ?_;refine lbN (i:=0) (l:=(vE e f g j o m p)) t rfl Tya35 Tys35 rfl rfl rfl ?_;obtain ⟨C,O,h⟩:=ob h;refine clV (caps:=#[]) (vs:=[.agg (aE e f g j o m p)]) rfl Tyb34 rfl ((f34_ok k) O (hG.mono kr) (RDExpr.intro z A) (pt t)) ?_;rintro _ ab ⟨S,rfl,q⟩;have s:=ca q t;refine mv (v:=.bool C) rfl ?_;rcases bc C with c | c
  ·have h:=of_cond_t c h;refine st_on (d:=7) rfl (cg c) ?_;refine lbN (i:=0) (l:=(vE e f g j o m p)) s rfl Tya35 Tys35 rfl rfl rfl ?_;refine st_on (d:=7) rfl (cg c) ?_;refine mv (v:=iI y) rfl ?_;refine st_on (d:=7) rfl (cg c) ?_;obtain ⟨x,U,h⟩:=ob h;refine clV (caps:=#[]) (vs:=[.agg (aE e f g j o m p),iI y]) rfl Tyb35 rfl ((f35_ok k) U (hG.mono q.sub) (RDExpr.intro z (me A q.sub)) (pt s)) ?_;rintro _ ac ⟨V,rfl,D⟩;have W:=ca D s;refine pick (b:=true) (v:=.bool x) (cg c) rfl ?_;refine asg (v:=.bool x) rfl ?_;refine wpList_nil ?_;refine thenN ?_;exact ⟨_,V,x,fR,(q.sub.trans D.sub),(W.sel []),h⟩
  ·have h:=of_cond_f c h;refine st_off (d:=7) rfl (cg c) ?_;refine st_off (d:=7) rfl (cg c) ?_;refine st_off (d:=7) rfl (cg c) ?_;refine pick (b:=false) (v:=vN) (cg c) rfl ?_;refine asg (v:=vN) rfl ?_;refine wpList_nil ?_;refine thenN ?_;exact ⟨_,S,false,fR,q.sub,(s.sel []),h⟩
 ·rintro _ ad ⟨B,r,u,rfl,ae,X,h⟩;unfold f14_j1 at h;refine wp_ret ?_;have e_:=(Option.some.inj h).trans hr_;subst e_;exact retA1 rfl (resT rfl) ⟨r,rfl,X⟩
theorem f14_ok (k:Nat):f14_spec (f14 k):=f14_b_ok k
theorem f36_b_ok (k:Nat):f36_spec (f36_b k):=by
 unfold f36_spec;intro K wi b c q ae h hG O;obtain ⟨r_,hr_,h⟩:=rz h;refine enter Tryz.func36 rfl (n:=60) rfl ?_;unfold f36_b at h;refine sr (m2 (iI 0) (wt (wp_seq (wp_cut (fun a w=>∃ S r,a=fr 60 (updL S [(0,iI b),(1,iI c),(13,.bool r)])∧SR K K wi w [] []∧f36_j1 k b c r=some r_) ?_ ?_))))
 ·refine wp_region_lit (m1 (iI c) (m1 (iI q) (c0 (c != q) (m1 (.bool (c != q)) (cd h (fun d h=>?_) (fun d h=>?_))))))
  ·exact o1 10 d (o1 10 d (m3 true vT (cg d) (wt (⟨_,true,fR,O,h⟩))))
  ·exact n1 10 d (m1 (iI c) (n1 10 d (c0 (c == (-1)) (m3 false (.bool (c == (-1))) (cg d) (wt (⟨_,(c == (-1)),fR,O,h⟩))))))
 ·rintro _ af ⟨S,r,rfl,o,h⟩;unfold f36_j1 at h;refine cd h (fun s h=>?_) (fun s h=>?_)
  ·refine cT s (sr (m2 (iI (-1)) (wt (wp_ret (thenR ?_)))));cases (oi h).trans hr_;exact retA1 rfl (resT rfl) ⟨K,rfl,o⟩
  ·refine cF s (wp_skip (thenN (wp_cut (fun a w=>∃ U,a=fr 60 (updL U [])∧SR K K wi w [] []∧f36_j2 k=some r_) ?_ ?_)))
   ·refine wp_block (wp_cut (fun a w=>∃ V t,a=fr 60 (updL V [(0,iI b),(1,iI c),(14,.bool t)])∧SR K K wi w [] []∧f36_j3 k b c t=some r_) ?_ ?_)
    ·refine wp_region_lit (m1 (iI b) (c0 (b == 5) (m1 (.bool (b == 5)) (cd h (fun e h=>?_) (fun e h=>?_)))))
     ·exact o1 17 e (o1 17 e (m3 true vT (cg e) (m1 vT (o0 21 (o0 21 (m3 true vT rfl (m2 vT (wt (⟨_,true,fR,o,h⟩)))))))))
     ·refine n1 17 e (m1 (iI b) (n1 17 e (c0 (b == 7) (m3 false (.bool (b == 7)) (cg e) (m1 (.bool (b == 7)) (cd h (fun f h=>?_) (fun f h=>?_)))))))
      ·exact o1 21 f (o1 21 f (m3 true vT (cg f) (m2 vT (wt (⟨_,true,fR,o,h⟩)))))
      ·exact n1 21 f (m1 (iI b) (n1 21 f (c0 (b == 8) (m3 false (.bool (b == 8)) (cg f) (m2 (.bool (b == 8)) (wt (⟨_,(b == 8),fR,o,h⟩)))))))
    ·rintro _ ag ⟨V,t,rfl,p,h⟩;unfold f36_j3 at h;refine cd h (fun u h=>?_) (fun u h=>?_)
     ·refine cT u (sr (m1 (iI c) (c0 (c == 2) (wt (cd h (fun v h=>?_) (fun v h=>?_))))))
      ·refine cT v (sr (m2 (iI 2) (wt (wp_ret (blkR (thenR ?_))))));cases (oi h).trans hr_;exact retA1 rfl (resT rfl) ⟨K,rfl,p⟩
      ·exact cF v (wp_skip (blkN (thenN (⟨_,fR,p,h⟩))))
     ·refine cF u (wp_cut (fun a w=>∃ W x,a=fr 60 (updL W [(0,iI b),(1,iI c),(27,.bool x)])∧SR K K wi w [] []∧f36_j4 k b c x=some r_) ?_ ?_)
      ·refine wp_region_lit (m1 (iI b) (c0 (b == 9) (m1 (.bool (b == 9)) (cd h (fun g h=>?_) (fun g h=>?_)))))
       ·exact o1 30 g (o1 30 g (m3 true vT (cg g) (m2 vT (wt (⟨_,true,fR,p,h⟩)))))
       ·exact n1 30 g (m1 (iI b) (n1 30 g (c0 (b == 10) (m3 false (.bool (b == 10)) (cg g) (m2 (.bool (b == 10)) (wt (⟨_,(b == 10),fR,p,h⟩)))))))
      ·rintro _ ah ⟨W,x,rfl,y,h⟩;unfold f36_j4 at h;refine cd h (fun z h=>?_) (fun z h=>?_)
       ·refine cT z (sr (m2 (iI 2) (wt (wp_ret (blkR (thenR ?_))))));cases (oi h).trans hr_;exact retA1 rfl (resT rfl) ⟨K,rfl,y⟩
       ·refine cF z (wp_cut (fun a w=>∃ X A,a=fr 60 (updL X [(0,iI b),(1,iI c),(34,.bool A)])∧SR K K wi w [] []∧f36_j5 k b c A=some r_) ?_ ?_)
        ·refine wp_region_lit (m1 (iI b) (c0 (decide (b ≥ 11)) (m1 (.bool (decide (b ≥ 11))) (cd h (fun i h=>?_) (fun i h=>?_)))))
         ·exact n1 37 i (m1 (iI b) (n1 37 i (c0 (decide (b ≤ 14)) (m3 true (.bool (decide (b ≤ 14))) (cg i) (m2 (.bool (decide (b ≤ 14))) (wt (⟨_,(decide (b ≤ 14)),fR,y,h⟩)))))))
         ·exact o1 37 i (o1 37 i (m3 false vN (cg i) (m2 vN (wt (⟨_,false,fR,y,h⟩)))))
        ·rintro _ ai ⟨X,A,rfl,m,h⟩;unfold f36_j5 at h;refine cd h (fun B h=>?_) (fun B h=>?_)
         ·refine cT B (wp_cut (fun a w=>∃ Y C,a=fr 60 (updL Y [(46,.bool C)])∧SR K K wi w [] []∧f36_j6 k C=some r_) ?_ ?_)
          ·refine wp_region_lit (m1 (iI c) (c0 (c == 1) (m1 (.bool (c == 1)) (cd h (fun j h=>?_) (fun j h=>?_)))))
           ·exact o1 43 j (o1 43 j (m3 true vT (cg j) (wt (⟨_,true,fR,m,h⟩))))
           ·exact n1 43 j (m1 (iI c) (n1 43 j (c0 (c == 3) (m3 false (.bool (c == 3)) (cg j) (wt (⟨_,(c == 3),fR,m,h⟩))))))
          ·rintro _ aj ⟨Y,C,rfl,Z,h⟩;unfold f36_j6 at h;refine cd h (fun D h=>?_) (fun D h=>?_)
           ·refine cT D (sr (m2 (iI 2) (wt (wp_ret (blkR (thenR ?_))))));cases (oi h).trans hr_;exact retA1 rfl (resT rfl) ⟨K,rfl,Z⟩
           ·exact cF D (wp_skip (blkN (thenN (⟨_,fR,Z,h⟩))))
         ·refine cF B (sr (m1 (iI b) (c0 (b == 15) (m2 (.bool (b == 15)) (wt (cd h (fun G h=>?_) (fun G h=>?_)))))))
          ·refine cT G (wp_cut (fun a w=>∃ ab I,a=fr 60 (updL ab [(1,iI c),(55,.bool I)])∧SR K K wi w [] []∧f36_j7 k c I=some r_) ?_ ?_)
           ·refine wp_region_lit (m1 (iI c) (c0 (c == 1) (m1 (.bool (c == 1)) (cd h (fun l h=>?_) (fun l h=>?_)))))
            ·exact o1 52 l (o1 52 l (m3 true vT (cg l) (wt (⟨_,true,fR,m,h⟩))))
            ·exact n1 52 l (m1 (iI c) (n1 52 l (c0 (c == 3) (m3 false (.bool (c == 3)) (cg l) (wt (⟨_,(c == 3),fR,m,h⟩))))))
           ·rintro _ ak ⟨ab,I,rfl,ac,h⟩;unfold f36_j7 at h;refine cd h (fun J h=>?_) (fun J h=>?_)
            ·refine cT J (sr (m1 (iI c) (m2 (iI c) (wt (wp_ret (blkR (thenR ?_)))))));cases (oi h).trans hr_;exact retA1 rfl (resT rfl) ⟨K,rfl,ac⟩
            ·exact cF J (wp_skip (blkN (thenN (⟨_,fR,ac,h⟩))))
          ·refine cF G (sr (m1 (iI c) (c0 (c == 1) (m2 (.bool (c == 1)) (wt (cd h (fun N h=>?_) (fun N h=>?_)))))))
           ·refine cT N (sr (m2 (iI 1) (wt (wp_ret (blkR (thenR ?_))))));cases (oi h).trans hr_;exact retA1 rfl (resT rfl) ⟨K,rfl,m⟩
           ·exact cF N (wp_skip (blkN (thenN (⟨_,fR,m,h⟩))))
   ·rintro _ al ⟨U,rfl,ad,h⟩;unfold f36_j2 at h;refine sr (m2 (iI (-1)) (wt (wp_ret ?_)));cases (oi h).trans hr_;exact retA1 rfl (resT rfl) ⟨K,rfl,ad⟩
theorem f36_ok (k:Nat):f36_spec (f36 k):=f36_b_ok k
theorem f15_b_ok (k:Nat) (F:Fam15) (IH15:f15_spec F.f15):f15_spec (f15_b k F):=by
 unfold f15_spec;intro K wi ar a2 l m p a3 h hG au x av;obtain ⟨r_,hr_,h⟩:=rz h;obtain ⟨c,O,S,u,f⟩:=ar;obtain ⟨q,r,rfl,a4,U⟩:=RDExpr.open au;refine enter Tryz.func15 rfl (n:=44) rfl ?_;unfold f15_b at h;refine sr (bxoC (cs:=(aE c O S u q f r)) av rfl rfl (fun a5 d=>(m2 (iI 0) (wt (wp_seq (sr (fd 0 Tyf35_0 rfl (l1 0 (iI c) d Tya3 (wt (wp_block (sr (c0 (c == 1) (m2 (.bool (c == 1)) (wt (cd h (fun y h=>?_) (fun y h=>?_))))))))))))))))
 ·refine cT y (sr (m2 (iI 1) (wt (wp_ret (blkR (thenR ?_))))));cases (oi h).trans hr_;exact retA1 rfl (resT rfl) ⟨K,rfl,(d.sel [])⟩
 ·refine cF y (sr (c0 (c == 2) (m2 (.bool (c == 2)) (wt (cd h (fun z h=>?_) (fun z h=>?_))))))
  ·refine cT z (sr (m2 (iI 2) (wt (wp_ret (blkR (thenR ?_))))));cases (oi h).trans hr_;exact retA1 rfl (resT rfl) ⟨K,rfl,(d.sel [])⟩
  ·refine cF z (sr (c0 (c == 3) (m2 (.bool (c == 3)) (wt (cd h (fun A h=>?_) (fun A h=>?_))))))
   ·refine cT A (sr (m2 (iI 3) (wt (wp_ret (blkR (thenR ?_))))));cases (oi h).trans hr_;exact retA1 rfl (resT rfl) ⟨K,rfl,(d.sel [])⟩
   ·refine cF A (sr (c0 (c == 4) (m2 (.bool (c == 4)) (wt (cd h (fun B h=>?_) (fun B h=>?_))))))
    ·refine cT B (sr (m1 (sl m l p) (fd 3 Tyf35_3 rfl (l1 0 (iI u) d Tya3 ?_))));obtain ⟨V,C,h⟩:=ob h;obtain ⟨aw,ax,a6,ay,a7,az,aA⟩:=(x).row.at_ (idxO_at C).1;obtain rfl:=aA;refine idxG (b:=aw) (o:=ax) (i:=u) Tye36 Tys3 rfl ay rfl (idxO_at C).2.1 (idxO_at C).2.2 (ld1 (v:=iI V) Tya3 rfl (d.cell (kr.cell (az 0 _ rfl))) (m2 (iI V) (wt (wp_ret (blkR (thenR ?_))))));cases (oi h).trans hr_;exact retA1 rfl (resT rfl) ⟨K,rfl,(d.sel [])⟩
    ·refine cF B (wp_skip (blkN (thenN (sr (fd 4 Tyf35_4 rfl (l1 0 (sl q f r) d Tya33 ?_))))));obtain ⟨⟨W,X,Y,Z,ab⟩,D,h⟩:=ob h;obtain ⟨aB,aG,a8,aH,a9,aI,ac⟩:=(U).row.at_ (idxO_at D).1;obtain ⟨ad,ae,rfl,ba,bb⟩:=RDExpr.open ac;refine idxG (b:=aB) (o:=aG) (i:=0) Tye33 Tys35 rfl aH rfl (idxO_at D).2.1 (idxO_at D).2.2 (lD (vE W X Y Z ad ab ae) Tya35 Tys35 rfl (fun j v hj=>d.cell (kr.cell (aI j v hj))) (m1 (sl m l p) ?_));obtain ⟨e,aJ,h⟩:=ob h;refine cv ([.agg (aE W X Y Z ad ab ae),sl m l p]) Tyb15 (IH15 aJ (hG.mono kr) ac x (pt d)) ?_;rintro _ bd ⟨af,rfl,s⟩;have g:=ca s d;refine m2 (iI e) (wt (sr (m1 (iI e) (m2 (iI e) (wt (wp_cut (fun a w=>∃ ag G t,a=fr 44 (updL ag [(2,pp (zz wi) 0),(5,iI e),(6,iI t)])∧KH.sub af G∧SR K G wi w [] [.box (zz wi) (zz wi) (aE c O S u q f r) 35]∧f15_j1 k F c e t=some r_) ?_ ?_))))))
     ·refine sr (fd 4 Tyf35_4 rfl (l1 0 (sl q f r) g Tya33 (lS f.length Tye33 (c0 ((f.length:Int) == 2) (wt (cd h (fun I h=>?_) (fun I h=>?_)))))))
      ·refine cT I (wp_region_lit (fd 4 Tyf35_4 rfl (l1 0 (sl q f r) g Tya33 ?_)));obtain ⟨⟨ah,ai,aj,ak,al⟩,J,h⟩:=ob h;obtain ⟨aK,aL,be,aM,bf,aN,am⟩:=((me U s.sub)).row.at_ (idxO_at J).1;obtain ⟨an,ao,rfl,bg,bh⟩:=RDExpr.open am;refine idxG (b:=aK) (o:=aL) (i:=1) Tye33 Tys35 rfl aM rfl (idxO_at J).2.1 (idxO_at J).2.2 (lD (vE ah ai aj ak an al ao) Tya35 Tys35 rfl (fun j v hj=>g.cell (kr.cell (aN j v hj))) (m1 (sl m l p) ?_));obtain ⟨ap,aP,h⟩:=ob h;refine cv ([.agg (aE ah ai aj ak an al ao),sl m l p]) Tyb15 (IH15 aP (hG.mono s.sub) am (x.mono s.sub (fun _ _ h=>h)) (pt g)) ?_;rintro _ bi ⟨aQ,rfl,aq⟩;have aT:=ca aq g;exact m2 (iI ap) (wt (⟨_,aQ,ap,fR,aq.sub,aT,h⟩))
      ·exact cF I (wp_skip (thenN (⟨_,af,e,fR,kr,g,h⟩)))
     ·rintro _ bj ⟨ag,G,t,rfl,aU,N,h⟩;unfold f15_j1 at h;refine sr (fd 0 Tyf35_0 rfl (l1 0 (iI c) N Tya3 (m1 (iI e) (m1 (iI t) ?_))));obtain ⟨aV,aW,h⟩:=ob h;refine cv ([iI c,iI e,iI t]) Tyb36 ((f36_ok k) aW (hG.mono N.sub) (pt N)) ?_;rintro _ bk ⟨aX,rfl,aY⟩;have aZ:=ca aY N;refine m2 (iI aV) (wt (wp_ret ?_));cases (oi h).trans hr_;exact retA1 rfl (resT rfl) ⟨aX,rfl,(aZ.sel [])⟩
theorem fam15_ok (k0:Nat) : ∀ k,f15_spec (fam15 k0 k).f15:=by
 intro k;induction k with
 | zero=>exact (by unfold f15_spec; intro _ _ _ _ _ _ _ _ h_; cases h_)
 | succ k ih=>exact f15_b_ok k0 (fam15 k0 k) ih
theorem f15_ok (k:Nat):f15_spec (f15 k):=(fam15_ok k k)
theorem f124_b_ok (k:Nat):f124_spec (f124_b k):=by
 unfold f124_spec;intro K wi an a4 a5 h hG ao ap;obtain ⟨r_,hr_,h⟩:=rz h;obtain ⟨aq,ar,au,av,aw,ax,ay,f,g,l,q⟩:=an;obtain ⟨az,aA,A,B,C,D,G,I,Y,Z,rfl,a6,a7,a8,aB,aG,aH,af⟩:=RDStmt.open ao;refine enter Tryz.func124 rfl (n:=27) rfl ?_;unfold f124_b at h;refine sr (bxoC (cs:=(aS aq ar au av aw ax az ay aA A f B C g D G l I Y q Z)) ap rfl rfl (fun ag N=>(m2 nS (wt (sr (fd 7 Tyf62_7 rfl (l1 0 (sl A f B) N Tya50 (fd 8 Tyf62_8 rfl (l1 0 (sl C g D) N Tya50 (fd 9 Tyf62_9 rfl (l1 0 (sl G l I) N Tya50 (bsl (e:=50) (cells:=#[sl A f B,sl C g D,sl G l I]) (vs:=[(0,sl A f B),(1,sl C g D),(2,sl G l I)]) N rfl (fun w=>by kernel_rfl) (fun a9 aI=>(have ah:=aI.boxrowN (i:=0) (size:=1) (m:=3) rfl rfl (by decide);(m2 (.slice (some ⟨(zz ag),0,none⟩) [f,g,l].length 3) (wt (wp_seq (sr (fd 10 Tyf62_10 rfl (l1 1 (sl Y q Z) ah Tya60 (lS q.length Tye60 (m1 (iI 0) (wt (wp_block (wp_loopG (fun g_ a w=>∃ ai t,∃ (s:Nat),∃ c u x ab,g_=t.length∧a=fr 27 (updL ai [(3,sl u c x),(14,sl Y q Z),(15,iI (q.length:Int)),(16,iI (s:Int))])∧SR K K wi w [] [eW (zz wi) u c x 50 1 ab]∧q.drop s=t∧Reps (RSlE DStmt (fun K=>(RDStmt K)) 11 184 K) 1 c ab∧c.length * 24 ≤ mB∧f124_l1 k t s c=some r_) q.length ?_ ?_)))))))))))))))))))))))))
 ·exact ⟨_,q,0,[f,g,l],(some ⟨(zz ag),0,none⟩),3,[sl A f B,sl C g D,sl G l I],rfl,fR,(ah.sel [0]),List.drop_zero,⟨[sl A f B],_,rfl,rfl,⟨_,_,rfl,aB⟩,⟨[sl C g D],_,rfl,rfl,⟨_,_,rfl,aG⟩,⟨[sl G l I],_,rfl,rfl,⟨_,_,rfl,aH⟩,(reps0 (R:=(RSlE DStmt (fun K=>(RDStmt K)) 11 184 K)) (size:=1))⟩⟩⟩,(Nat.le_of_ble_eq_true rfl),h⟩
 ·rintro _ _ aJ ⟨ai,t,s,c,u,x,ab,rfl,rfl,ac,J,aj,aK,h⟩;rcases t with _ | ⟨⟨O,S,U,V,d⟩,t⟩
  ·unfold f124_l1 at h;refine sr (bcm (r:=false) rfl rfl (congrArg some (drop_nil_lt J)) (wt (wp_seq (cndF rfl (wp_exit (thenX (thenX (blkX (thenN (sr (m1 (sl u c x) (m2 (sl u c x) (wt (wp_ret ?_))))))))))))));obtain ⟨aL,aM,ba,aN⟩:=shutI (i:=0) (bytes:=24) (R:=fun K=>(RSlE DStmt (fun K=>(RDStmt K)) 11 184 K)) ac rfl (Nat.le_refl _) aj aK (fun hs=>(fun _ _ h=>RSlE.mono (R:=fun K=>(RDStmt K)) (fun hs _ _ h=>RDStmt.mono hs h) hs h));cases (oi h).trans hr_;exact retA1 rfl (resT rfl) ⟨aL,u,x,rfl,aM,aN⟩
  ·unfold f124_l1 at h;refine sr (bcm (r:=true) rfl rfl (congrArg some (drop_cons_t J)) (wt (wp_seq (cndT rfl (wp_skip (thenN (wp_seq (wp_block (sr ?_)))))))));obtain ⟨aP,aQ,bb,aT,bd,aU,aV⟩:=(af).row.at_ (drop_cons_at J);obtain ⟨W,X,y,z,rfl,be,bf,aW⟩:=RDCase.open aV;refine idxN (b:=aP) (o:=aQ) (i:=s) Tye60 Tys84 rfl aT rfl (drop_cons_lt J) (lD (vC O S U W V X y d z) Tya84 Tys84 rfl (fun j v hj=>ac.cell (kr.cell (aU j v hj))) (aC zC.toArray ac Tyz84 (fun bg aX=>(sI 0 (.agg (aC' O S U W V X y d z)) ((aC' O S U W V X y d z)) aX Tys84 rfl rfl (fun bh ak=>(wt (wp_region_lit (m1 (sl u c x) (fd 4 Tyf84_4 rfl (l1 0 (sl y d z) ak Tya50 (bsl (e:=50) (cells:=#[sl y d z]) (vs:=[(0,sl y d z)]) ak rfl (buildSl_one Tye165 Tys50 Tyz50 rfl (by decide) (by decide) rfl) (fun bi aY=>?_))))))))))));obtain ⟨al,h⟩:=of_guard h;refine apR (R:=(RSlE DStmt (fun K=>(RDStmt K)) 11 184 K)) (p:=d) (i:=2) (j:=0) aY rfl rfl Tye165 Tyi50 rfl (by decide) rfl rfl aj ⟨_,_,rfl,aW⟩ rfl rfl (Nat.le_refl _) al (by decide) (fun ad ae am aZ a1 a2=>?_);have a3:=p12 a1;exact m2 (.slice ad (c ++ [d]).length ae) (wpList_nil (blkN (thenN (wp_region_lit (bar (r:=((s + 1:Nat):Int)) rfl rfl (inc_ok (le_big ((af).len) (by decide) (drop_cons_lt J))) (m1 (iI ((s + 1:Nat):Int)) (wt (⟨_,Nat.lt_succ_self _,_,t,s + 1,(c ++ [d]),ad,ae,am,rfl,fR,(a3.sel [1]),drop_cons_next J,a2,(app_bound al),h⟩))))))))
theorem f124_ok (k:Nat):f124_spec (f124 k):=f124_b_ok k
theorem f92_b_ok (k:Nat) (F:Fam92) (IH92:f92_spec F.f92) (IH122:f122_spec F.f122) (IH1006489:f1006489_spec F.f1006489) (IH1009189:f1009189_spec F.f1009189) (IH1012326:f1012326_spec F.f1012326) (IH1014826:f1014826_spec F.f1014826):f92_spec (f92_b k F):=by
 unfold f92_spec;intro K wi a b c d h hG f e;obtain ⟨r_,hr_,h⟩:=rz h;refine enter Tryz.func92 rfl (n:=5) rfl ?_;unfold f92_b at h;refine sr (m2 vN (wt (sr (m1 (sl b a c) ?_))));obtain ⟨d,g,h⟩:=ob h;refine cv ([sl b a c,.func (.func 122) #[] #[]]) Tyb64 (IH1006489 g (hG.mono kr) f (pt e)) ?_;rintro _ m ⟨i,rfl,j⟩;have l:=ca j e;refine m2 (.bool d) (wt (wp_ret ?_));cases (oi h).trans hr_;exact retA1 rfl (resT rfl) ⟨i,rfl,l⟩
theorem f122_b_ok (k:Nat) (F:Fam92) (IH92:f92_spec F.f92) (IH122:f122_spec F.f122) (IH1006489:f1006489_spec F.f1006489) (IH1009189:f1009189_spec F.f1009189) (IH1012326:f1012326_spec F.f1012326) (IH1014826:f1014826_spec F.f1014826):f122_spec (f122_b k F):=by
 unfold f122_spec;intro K wi am aM aN h hG an ao;obtain ⟨r_,hr_,h⟩:=rz h;obtain ⟨b,j,l,m,o,d,p,q,r,s,t⟩:=am;obtain ⟨u,v,x,y,z,A,B,C,D,G,rfl,Y,Z,ab,ac,ad,ae,af⟩:=RDStmt.open an;refine enter Tryz.func122 rfl (n:=29) rfl ?_;unfold f122_b at h;refine sr (bxoC (cs:=(aS b j l m o d u p v x q y z r A B s C D t G)) ao rfl rfl (fun aP I=>(m2 vN (wt (wp_seq (wp_cut (fun a w=>∃ ag N,a=fr 29 (updL ag [(1,pp (zz wi) 0),(10,.bool N)])∧SR K K wi w [] [.box (zz wi) (zz wi) (aS b j l m o d u p v x q y z r A B s C D t G) 62]∧f122_j1 k F b j l m o d p q r s t N=some r_) ?_ ?_))))))
 ·refine wp_region_lit (fd 0 Tyf62_0 rfl (l1 0 (iI b) I Tya3 (c0 (b == 21) (m1 (.bool (b == 21)) (cd h (fun f h=>?_) (fun f h=>?_))))))
  ·exact o1 6 f (o1 6 f (o1 6 f (m3 true vT (cg f) (wt (⟨_,true,fR,I,h⟩)))))
  ·exact n1 6 f (fd 0 Tyf62_0 rfl (n1 6 f (l1 0 (iI b) I Tya3 (n1 6 f (c0 (b == 28) (m3 false (.bool (b == 28)) (cg f) (wt (⟨_,(b == 28),fR,I,h⟩))))))))
 ·rintro _ aQ ⟨ag,N,rfl,e,h⟩;unfold f122_j1 at h;refine cd h (fun O h=>?_) (fun O h=>?_)
  ·refine cT O (sr (m2 vN (wt (wp_ret (thenR ?_)))));cases (oi h).trans hr_;exact retA1 rfl (resT rfl) ⟨K,rfl,(e.sel [])⟩
  ·refine cF O (wp_skip (thenN (wp_cut (fun a w=>∃ ah J S,a=fr 29 (updL ah [(2,.bool S)])∧KH.sub K J∧SR K J wi w [] []∧f122_j2 k F S=some r_) ?_ ?_)))
   ·refine wp_region_lit (fd 0 Tyf62_0 rfl (l1 0 (iI b) e Tya3 (c0 (b == 18) (m1 (.bool (b == 18)) (cd h (fun c h=>?_) (fun c h=>?_))))))
    ·exact o1 14 c (o1 14 c (o1 14 c (o1 14 c (ou 18 (ou 18 (ou 18 (o1 14 c (m3 true vT (cg c) (m1 vT (o0 24 (o0 24 (o0 24 (m3 true vT rfl (m2 vT (wt (⟨_,K,true,fR,kr,(e.sel []),h⟩))))))))))))))))
    ·refine n1 14 c (fd 0 Tyf62_0 rfl (n1 14 c (l1 0 (iI b) e Tya3 (n1 14 c (c0 (b == 6) (n1 14 c (m1 (.bool (b == 6)) (cd h (fun g h=>?_) (fun g h=>?_)))))))))
     ·refine n1 18 g (fd 5 Tyf62_5 rfl (n1 18 g (l1 0 (iI d) e Tya3 (n1 18 g (c0 (d == 1) (n1 14 c (m3 true (.bool (d == 1)) (cg g) (m3 false (.bool (d == 1)) (cg c) (m1 (.bool (d == 1)) (cd h (fun i h=>?_) (fun i h=>?_)))))))))))
      ·exact o1 24 i (o1 24 i (o1 24 i (m3 true vT (cg i) (m2 vT (wt (⟨_,K,true,fR,kr,(e.sel []),h⟩))))))
      ·refine n1 24 i (lN 0 (vS b j l m o d u p v x q y z r A B s C D t G) e Tya62 Tys62 (n1 24 i ?_));obtain ⟨ap,aq,h⟩:=ob h;refine cv ([.agg (aS b j l m o d u p v x q y z r A B s C D t G)]) Tyb124 ((f124_ok k) aq (hG.mono kr) (RDStmt.intro Y Z ab ac ad ae af) (pt e)) ?_;rintro _ aT ⟨aU,ar,au,rfl,U,av⟩;have ai:=ca U e;refine n1 24 i ?_;obtain ⟨V,aw,h⟩:=ob h;refine cv ([sl ar ap au,.func (.func 92) #[] #[]]) Tyb123 (IH1012326 aw (hG.mono U.sub) av (pt ai)) ?_;rintro _ aV ⟨ax,rfl,aj⟩;have ay:=ca aj ai;exact m3 false (.bool V) (cg i) (m2 (.bool V) (wt (⟨_,ax,V,fR,(U.sub.trans aj.sub),(ay.sel []),h⟩)))
     ·refine o1 18 g (o1 18 g (o1 18 g (n1 14 c (m3 false vN (cg g) (m3 false vN (cg c) (m1 vN (n0 24 (lN 0 (vS b j l m o d u p v x q y z r A B s C D t G) e Tya62 Tys62 (n0 24 ?_)))))))));obtain ⟨az,aA,h⟩:=ob h;refine cv ([.agg (aS b j l m o d u p v x q y z r A B s C D t G)]) Tyb124 ((f124_ok k) aA (hG.mono kr) (RDStmt.intro Y Z ab ac ad ae af) (pt e)) ?_;rintro _ aW ⟨aX,aB,aG,rfl,W,aH⟩;have ak:=ca W e;refine n0 24 ?_;obtain ⟨X,aI,h⟩:=ob h;refine cv ([sl aB az aG,.func (.func 92) #[] #[]]) Tyb123 (IH1012326 aI (hG.mono W.sub) aH (pt ak)) ?_;rintro _ aY ⟨aJ,rfl,al⟩;have aK:=ca al ak;exact m3 false (.bool X) rfl (m2 (.bool X) (wt (⟨_,aJ,X,fR,(W.sub.trans al.sub),(aK.sel []),h⟩)))
   ·rintro _ aZ ⟨ah,J,S,rfl,a1,aL,h⟩;unfold f122_j2 at h;refine wp_ret ?_;cases (oi h).trans hr_;exact retA1 rfl (resT rfl) ⟨J,rfl,aL⟩
theorem f1006489_b_ok (k:Nat) (F:Fam92) (IH92:f92_spec F.f92) (IH122:f122_spec F.f122) (IH1006489:f1006489_spec F.f1006489) (IH1009189:f1009189_spec F.f1009189) (IH1012326:f1012326_spec F.f1012326) (IH1014826:f1014826_spec F.f1014826):f1006489_spec (f1006489_b k F):=by
 unfold f1006489_spec;intro K wi b c d a h hG f e;obtain ⟨r_,hr_,h⟩:=rz h;refine enter Tryz.func64 rfl (n:=9) rfl ?_;unfold f1006489_b at h;refine sr (m2 vN (wt (sr (m1 (sl c b d) (m1 (.func (.func 122) #[] #[]) ?_)))));obtain ⟨a,g,h⟩:=ob h;refine cv ([sl c b d,.func (.func 122) #[] #[]]) Tyb91 (IH1009189 g (hG.mono kr) f (pt e)) ?_;rintro _ m ⟨i,rfl,j⟩;have l:=ca j e;refine c0 (decide (a ≥ 0)) (m2 (.bool (decide (a ≥ 0))) (wt (wp_ret ?_)));cases (oi h).trans hr_;exact retA1 rfl (resT rfl) ⟨i,rfl,l⟩
theorem f1009189_b_ok (k:Nat) (F:Fam92) (IH92:f92_spec F.f92) (IH122:f122_spec F.f122) (IH1006489:f1006489_spec F.f1006489) (IH1009189:f1009189_spec F.f1009189) (IH1012326:f1012326_spec F.f1012326) (IH1014826:f1014826_spec F.f1014826):f1009189_spec (f1009189_b k F):=by
 unfold f1009189_spec;intro K wi d p q an h hG t ah;obtain ⟨r_,hr_,h⟩:=rz h;refine enter Tryz.func91 rfl (n:=19) rfl ?_;unfold f1009189_b at h;refine sr (m2 (iI 0) (wt (wp_seq (sr (m1 (sl p d q) (lS d.length Tye50 (m1 (iI 0) (wt (wp_block (wp_loopG (fun g_ a w=>∃ u g e,∃ (c:Nat),g_=e.length∧a=fr 19 (updL u [(0,sl p d q),(1,.func (.func 122) #[] #[]),(7,iI (d.length:Int)),(8,iI (c:Int))])∧KH.sub K g∧SR K g wi w [] []∧d.drop c=e∧f1009189_l1 k F e c=some r_) d.length ?_ ?_))))))))))
 ·exact ⟨_,K,d,0,rfl,fR,kr,ah,List.drop_zero,h⟩
 ·rintro _ _ ao ⟨u,g,e,c,rfl,rfl,l,m,f,h⟩;rcases e with _ | ⟨⟨x,y,z,A,B,C,D,G,I,J,N⟩,e⟩
  ·unfold f1009189_l1 at h;refine sr (bcm (r:=false) rfl rfl (congrArg some (drop_nil_lt f)) (wt (wp_seq (cndF rfl (wp_exit (thenX (thenX (blkX (thenN (sr (m2 (iI (-1)) (wt (wp_ret ?_)))))))))))));cases (oi h).trans hr_;exact retA1 rfl (resT rfl) ⟨g,rfl,m⟩
  ·unfold f1009189_l1 at h;refine sr (bcm (r:=true) rfl rfl (congrArg some (drop_cons_t f)) (wt (wp_seq (cndT rfl (wp_skip (thenN (wp_seq (wp_block (sr (m1 (iI (c:Int)) (m2 (iI (c:Int)) (wt (sr (m1 (.func (.func 122) #[] #[]) (m1 (sl p d q) (m1 (iI (c:Int)) ?_))))))))))))))));obtain ⟨ai,aj,ap,ak,aq,al,O⟩:=((ms t l)).row.at_ (drop_cons_at f);obtain ⟨S,U,V,W,X,Y,Z,ab,ac,ad,rfl,ar,au,av,aw,ax,ay,az⟩:=RDStmt.open O;refine idxN (b:=ai) (o:=aj) (i:=c) Tye50 Tys62 rfl ak rfl (drop_cons_lt f) (lD (vS x y z A B C S D U V G W X I Y Z J ab ac N ad) Tya62 Tys62 rfl (fun j v hj=>m.cell (kr.cell (al j v hj))) ?_);obtain ⟨aA,am,h⟩:=ob h;refine cv ([.agg (aS x y z A B C S D U V G W X I Y Z J ab ac N ad)]) Tyb122 (IH122 am (hG.mono l) O (pt m)) ?_;rintro _ aB ⟨ae,rfl,af⟩;have ag:=ca af m;refine wt (cd h (fun s h=>?_) (fun s h=>?_))
   ·refine cT s (sr (m1 (iI (c:Int)) (m2 (iI (c:Int)) (wt (wp_ret (blkR (thenR (thenR (blkR (thenR ?_))))))))));cases (oi h).trans hr_;exact retA1 rfl (resT rfl) ⟨ae,rfl,ag⟩
   ·exact cF s (wp_skip (blkN (thenN (wp_region_lit (bar (r:=((c + 1:Nat):Int)) rfl rfl (inc_ok (le_big (((ms t l)).len) (by decide) (drop_cons_lt f))) (m1 (iI ((c + 1:Nat):Int)) (wt (⟨_,Nat.lt_succ_self _,_,ae,e,c + 1,rfl,fR,(l.trans af.sub),ag,drop_cons_next f,h⟩))))))))
theorem f1012326_b_ok (k:Nat) (F:Fam92) (IH92:f92_spec F.f92) (IH122:f122_spec F.f122) (IH1006489:f1006489_spec F.f1006489) (IH1009189:f1009189_spec F.f1009189) (IH1012326:f1012326_spec F.f1012326) (IH1014826:f1014826_spec F.f1014826):f1012326_spec (f1012326_b k F):=by
 unfold f1012326_spec;intro K wi b c d a h hG f e;obtain ⟨r_,hr_,h⟩:=rz h;refine enter Tryz.func123 rfl (n:=9) rfl ?_;unfold f1012326_b at h;refine sr (m2 vN (wt (sr (m1 (sl c b d) (m1 (.func (.func 92) #[] #[]) ?_)))));obtain ⟨a,g,h⟩:=ob h;refine cv ([sl c b d,.func (.func 92) #[] #[]]) Tyb148 (IH1014826 g (hG.mono kr) f (pt e)) ?_;rintro _ m ⟨i,rfl,j⟩;have l:=ca j e;refine c0 (decide (a ≥ 0)) (m2 (.bool (decide (a ≥ 0))) (wt (wp_ret ?_)));cases (oi h).trans hr_;exact retA1 rfl (resT rfl) ⟨i,rfl,l⟩
end Go.Proofs.YtphdlngnegjgcaaGreatDoor
