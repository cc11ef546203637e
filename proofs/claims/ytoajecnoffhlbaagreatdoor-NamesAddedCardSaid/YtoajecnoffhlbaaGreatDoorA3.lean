/- Words of the same proof, part 3: what the last text needs; nothing is claimed here. -/
import Derived.Test.YtoajecnoffhlbaaGreatDoorA2
set_option linter.unusedVariables false
set_option linter.unusedSimpArgs false
namespace Go.Proofs.YtoajecnoffhlbaaGreatDoor
open Go
structure Fam100 where
 f100:LE→Int→Option Int
def f100_j1 (k:Nat) (F:Fam100) (a:Int):Option Int:=(some a)
def f100_l1 (k:Nat) (F:Fam100) (b:Int):LE→Nat→Int→Option Int
 | [],c,a=>(f100_j1 k F a)
 | (.mk g h i j d) :: e,c,a=>(cond (decide (a ≤ 2000)) ((F.f100 d (w64 (b + 1))).bind fun f=>((f100_l1 k F b e) (c + 1) (w64 ((w64 (a + 1)) + f)))) (f100_j1 k F a))
def f100_b (k:Nat) (F:Fam100):LE→Int→Option Int:=fun b a=>(cond (decide (a > 60)) (some 4000) (f100_l1 k F a b 0 0))
def fam100 (k0:Nat):Nat→Fam100
 | 0=>{ f100:=fun _ _=>none }
 | k + 1=>{ f100:=f100_b k0 (fam100 k0 k) }
def f100 (k:Nat):LE→Int→Option Int:=(fam100 k k).f100
structure Fam76 where
 f76:LS→Int→Option Int
def f76_j1 (k:Nat) (F:Fam76) (a:Int):Option Int:=(some a)
def f76_j2 (k:Nat) (F:Fam76) (a:Nat) (b:Int) (nx1:Nat→Int→Option Int):Option Int:=(nx1 (a + 1) b)
def f76_l2 (k:Nat) (F:Fam76) (b:Int) (c:Nat) (nx1:Nat→Int→Option Int):LC→Nat→Int→Option Int
 | [],d,a=>(f76_j2 k F c a nx1)
 | (.mk j l m e f) :: g,d,a=>(cond (decide (a ≤ 2000)) ((f100 k e (w64 (b + 1))).bind fun h=>((F.f76 f (w64 (b + 1))).bind fun i=>((f76_l2 k F b c nx1 g) (d + 1) (w64 ((w64 ((w64 (a + 1)) + h)) + i))))) (f76_j2 k F c a nx1))
def f76_l1 (k:Nat) (F:Fam76) (a:Int):LS→Nat→Int→Option Int
 | [],c,b=>(f76_j1 k F b)
 | (.mk o p q r s t d e f g h) :: i,c,b=>(cond (decide (b ≤ 2000)) ((f100 k d (w64 (a + 1))).bind fun j=>((F.f76 e (w64 (a + 1))).bind fun l=>((F.f76 f (w64 (a + 1))).bind fun m=>((F.f76 g (w64 (a + 1))).bind fun n=>(f76_l2 k F a c (f76_l1 k F a i) h 0 (w64 ((w64 ((w64 ((w64 ((w64 (b + 1)) + j)) + l)) + m)) + n))))))) (f76_j1 k F b))
def f76_b (k:Nat) (F:Fam76):LS→Int→Option Int:=fun b a=>(cond (decide (a > 40)) (some 4000) (f76_l1 k F a b 0 0))
def fam76 (k0:Nat):Nat→Fam76
 | 0=>{ f76:=fun _ _=>none }
 | k + 1=>{ f76:=f76_b k0 (fam76 k0 k) }
def f76 (k:Nat):LS→Int→Option Int:=(fam76 k k).f76
def f40_j1 (k:Nat) (a:Int):Option Bool:=(some (decide (a ≤ 2000)))
def f40_l1 (k:Nat)  : LF→Nat→Int→Option Bool
 | [],b,a=>(f40_j1 k a)
 | (.mk f g h i j c) :: d,b,a=>(cond (decide (a ≤ 2000)) ((f76 k c 0).bind fun e=>((f40_l1 k d) (b + 1) (w64 ((w64 (a + 1)) + e)))) (f40_j1 k a))
def f40_b (k:Nat):DProgram→Option Bool:=fun a =>
 match a with
 | .mk b=>(f40_l1 k b 0 0)
def f40 (k:Nat):DProgram→Option Bool:=f40_b k
def f13_b (k:Nat):DProgram→Option Bool:=fun a =>
 match a with
 | .mk b=>((f40 k (DProgram.mk b)).bind fun c=>(some c))
def f13 (k:Nat):DProgram→Option Bool:=f13_b k
def f1008100_b (k:Nat):DFunc→DFunc→Option Bool:=fun a b =>
 match a,b with
 | .mk c e f g h i,.mk d j l m n o=>(some (seq d c))
def f1008100 (k:Nat):DFunc→DFunc→Option Bool:=f1008100_b k
def f1005656_l1 (k:Nat) (b:BA) (c:LP) (d:Int) (e:Bool) (f:Int) (g:LS):LF→Nat→Option Int
 | [],a=>(some (-1))
 | (.mk h i j l m n) :: o,a=>((f1008100 k (DFunc.mk h i j l m n) (DFunc.mk b c d e f g)).bind fun p=>(cond p (some (a:Int)) ((f1005656_l1 k b c d e f g o) (a + 1))))
def f1005656_b (k:Nat):LF→DFunc→Option Int:=fun a b =>
 match a,b with
 | a,.mk c d e f g h=>(f1005656_l1 k c d e f g h a 0)
def f1005656 (k:Nat):LF→DFunc→Option Int:=f1005656_b k
def f1008056_b (k:Nat):LF→DFunc→Option Bool:=fun a b =>
 match a,b with
 | a,.mk c d e f g h=>((f1005656 k a (DFunc.mk c d e f g h)).bind fun i=>(some (decide (i ≥ 0))))
def f1008056 (k:Nat):LF→DFunc→Option Bool:=f1008056_b k
def f58_b (k:Nat):Bool→Int→Option (Except Int Unit):=fun a b=>(cond (!a) (some (.error b)) (some (.ok ())))
def f58 (k:Nat):Bool→Int→Option (Except Int Unit):=f58_b k
def f116_j1 (k:Nat) (a:Bool):Option Bool:=(some a)
def f116_b (k:Nat):Int→Int→Int→Option Bool:=fun a b c=>(cond (decide (a ≥ b)) (f116_j1 k (decide (a ≤ c))) (f116_j1 k false))
def f116 (k:Nat):Int→Int→Int→Option Bool:=f116_b k
def f117_j1 (k:Nat) (a:Int) (b:Int) (c:Bool) (d:Int) (e:Bool):Option (Dcounter × Bool):=(some ((Dcounter.mk (w64 (a + 1)) (imax b d) c),e))
def f117_b (k:Nat):Dcounter→Int→Option (Dcounter × Bool):=fun e a =>
 match e,a with
 | .mk b c d,a=>(cond (decide ((w64 (b + 1)) ≤ 600)) (f117_j1 k b c d a (decide (a ≤ 16))) (f117_j1 k b c d a false))
def f117 (k:Nat):Dcounter→Int→Option (Dcounter × Bool):=f117_b k
def f150_b (k:Nat):Option (List (Int × Dshape)):=(some (mput qI 29 (Dshape.mk 0 false 1 1 false) (mput qI 28 (Dshape.mk 1 true 0 601 true) (mput qI 27 (Dshape.mk 0 false 0 0 false) (mput qI 26 (Dshape.mk 0 false 1 1 true) (mput qI 25 (Dshape.mk 1 false 1 1 true) (mput qI 24 (Dshape.mk 2 false 0 0 true) (mput qI 23 (Dshape.mk 0 false 0 0 true) (mput qI 22 (Dshape.mk 0 false 0 1 true) (mput qI 21 (Dshape.mk 0 false 1 1 true) (mput qI 20 (Dshape.mk 0 false 1 1 true) (mput qI 19 (Dshape.mk 0 false 0 0 false) (mput qI 18 (Dshape.mk 0 false 0 0 false) (mput qI 17 (Dshape.mk 0 false 0 1 false) (mput qI 16 (Dshape.mk 0 false 1 1 false) (mput qI 15 (Dshape.mk 0 false 1 1 false) (mput qI 14 (Dshape.mk 0 false 1 1 false) (mput qI 13 (Dshape.mk 0 false 0 0 false) (mput qI 12 (Dshape.mk 0 false 1 1 false) (mput qI 11 (Dshape.mk 0 false 1 1 false) (mput qI 10 (Dshape.mk 0 false 2 2 false) (mput qI 9 (Dshape.mk 1 false 0 0 false) (mput qI 8 (Dshape.mk 1 false 1 1 false) (mput qI 7 (Dshape.mk 1 false 1 1 false) (mput qI 6 (Dshape.mk 2 false 1 1 false) (mput qI 5 (Dshape.mk 2 false 1 1 false) (mput qI 4 (Dshape.mk 2 true 0 601 false) (mput qI 3 (Dshape.mk 2 true 0 601 false) (mput qI 2 (Dshape.mk 1 false 1 1 false) (mput qI 1 (Dshape.mk 1 false 1 1 false) ([]:List (Int × Dshape))))))))))))))))))))))))))))))))
def f150 (k:Nat):Option (List (Int × Dshape)):=f150_b k
def f151_j2 (k:Nat) (a:Bool):Option Bool:=(some a)
def f151_j1 (k:Nat) (c:LS) (a:LS) (d:Bool) (b:Bool) (e:Bool):Option Bool:=(cond e (cond d (cond b (f151_j2 k true) (f151_j2 k ((a.length:Int) == 0))) (cond ((c.length:Int) == 0) (cond b (f151_j2 k true) (f151_j2 k ((a.length:Int) == 0))) (f151_j2 k false))) (f151_j2 k false))
def f151_j3 (k:Nat) (a:Int) (b:LS) (c:LS) (d:Bool):Option Bool:=(f151_j1 k b c ((IntKind.i64.wrap (BitVec.ofInt IntKind.i64.bits a &&& BitVec.ofInt IntKind.i64.bits 1).toNat) == 1) ((IntKind.i64.wrap (BitVec.ofInt IntKind.i64.bits a &&& BitVec.ofInt IntKind.i64.bits 2).toNat) == 2) d)
def f151_b (k:Nat):DStmt→Option Bool:=fun f =>
 match f with
 | .mk d e n o p a q r b c s=>(cond (d == 6) ((f116 k a 0 1).bind fun g=>(cond g (cond (a == 0) (f151_j1 k b c false false true) (f151_j1 k b c false false (!seq e ⟨#[]⟩))) (f151_j1 k b c false false false))) (cond (d == 7) ((f116 k a 0 2).bind fun h=>(f151_j1 k b c false false h)) (cond (d == 22) ((f116 k a 0 1).bind fun i=>(f151_j1 k b c false false i)) (cond (d == 20) ((f116 k a 0 1).bind fun j=>(f151_j1 k b c (a == 1) false j)) (cond (d == 24) ((f116 k a 1 3).bind fun l=>(cond l (f151_j3 k a b c ((!seq e ⟨#[]⟩) == ((IntKind.i64.wrap (BitVec.ofInt IntKind.i64.bits a &&& BitVec.ofInt IntKind.i64.bits 1).toNat) == 1))) (f151_j3 k a b c false))) (cond (d == 28) ((f116 k a 0 66).bind fun m=>(cond m (f151_j1 k b c false false (decide ((a.tmod 4) < 3))) (f151_j1 k b c false false false))) (f151_j1 k b c false false (a == 0))))))))
def f151 (k:Nat):DStmt→Option Bool:=f151_b k
def f162_j1 (k:Nat) (a:Nat) (b:Bool) (nx1:Nat→Option Bool):Option Bool:=(cond b (some false) (nx1 (a + 1)))
def f162_l1 (k:Nat) (a:BA):List UInt8→Nat→Option Bool
 | [],b=>(some (decide ((a.size:Int) ≤ 60)))
 | c :: d,b=>(cond (decide ((c.toNat:Int) < 32)) (f162_j1 k b true (f162_l1 k a d)) (f162_j1 k b (decide ((c.toNat:Int) > 126)) (f162_l1 k a d)))
def f162_b (k:Nat):BA→Option Bool:=fun a=>(f162_l1 k a a.data.toList 0)
def f162 (k:Nat):BA→Option Bool:=f162_b k
def f160 (k:Nat):BA→Option Bool:=fun a=>f162 k a
def f112_j1 (k:Nat) (a:Bool):Option Bool:=(some a)
def f112_b (k:Nat):Int→Option Bool:=fun a=>(cond (decide (a ≥ 97)) (f112_j1 k (decide (a ≤ 122))) (f112_j1 k false))
def f112 (k:Nat):Int→Option Bool:=f112_b k
def f113_j1 (k:Nat) (a:Bool):Option Bool:=(some a)
def f113_b (k:Nat):Int→Option Bool:=fun a=>(cond (decide (a ≥ 48)) (f113_j1 k (decide (a ≤ 57))) (f113_j1 k false))
def f113 (k:Nat):Int→Option Bool:=f113_b k
def f91_j1 (k:Nat) (a:Nat) (b:Bool) (nx1:Nat→Option Bool):Option Bool:=(cond b (some false) (nx1 (a + 1)))
def f91_l1 (k:Nat) (b:BA):List UInt8→Nat→Option Bool
 | [],a=>(some (!seq b ⟨#[]⟩))
 | d :: c,a=>((f112 k (d.toNat:Int)).bind fun e=>(cond (!e) (cond ((a:Int) == 0) (f91_j1 k a true (f91_l1 k b c)) ((f113 k (d.toNat:Int)).bind fun f=>(f91_j1 k a (!f) (f91_l1 k b c)))) (f91_j1 k a false (f91_l1 k b c))))
def f91_b (k:Nat):BA→Option Bool:=fun a=>(f91_l1 k a a.data.toList 0)
def f91 (k:Nat):BA→Option Bool:=f91_b k
def wordsL:LB:=[⟨#[97,102,116,101,114]⟩,⟨#[97,119,97,105,116]⟩,⟨#[98,111,111,108]⟩,⟨#[98,114,101,97,107]⟩,⟨#[98,117,102,102,101,114]⟩,⟨#[99,97,110,99,101,108]⟩,⟨#[99,97,116,99,104]⟩,⟨#[99,104,97,110]⟩,⟨#[99,108,111,115,101]⟩,⟨#[99,111,110,116,105,110,117,101]⟩,⟨#[100,114,111,112]⟩,⟨#[101,97,99,104]⟩,⟨#[101,108,115,101]⟩,⟨#[101,109,105,116]⟩,⟨#[102,97,108,115,101]⟩,⟨#[102,105,110,97,108,108,121]⟩,⟨#[102,108,111,119]⟩,⟨#[102,110]⟩,⟨#[102,114,111,109]⟩,⟨#[104,111,108,100]⟩,⟨#[105,102]⟩,⟨#[105,110,116]⟩,⟨#[108,101,116]⟩,⟨#[108,111,99,107]⟩,⟨#[110,101,119]⟩,⟨#[110,111,119]⟩,⟨#[111,108,100]⟩,⟨#[112,114,111,100,117,99,101]⟩,⟨#[114,101,99,101,105,118,101]⟩,⟨#[114,101,116,117,114,110]⟩,⟨#[115,99,111,112,101]⟩,⟨#[115,101,108,101,99,116]⟩,⟨#[115,101,110,100]⟩,⟨#[115,104,105,101,108,100]⟩,⟨#[115,108,101,101,112]⟩,⟨#[115,112,97,119,110]⟩,⟨#[115,117,112,101,114,118,105,115,101,100]⟩,⟨#[116,97,115,107]⟩,⟨#[116,101,120,116]⟩,⟨#[116,104,114,111,119]⟩,⟨#[116,114,117,101]⟩,⟨#[116,114,121]⟩,⟨#[117,115,101]⟩,⟨#[119,104,105,108,101]⟩,⟨#[119,105,116,104,105,110]⟩,⟨#[121,105,101,108,100]⟩]
def f114 (k:Nat):Option LB:=some wordsL
def f93_l1 (k:Nat) (b:BA):LB→Nat→Option Int
 | [],a=>(some (-1))
 | c :: d,a=>(cond (seq b c) (some (a:Int)) ((f93_l1 k b d) (a + 1)))
def f93_b (k:Nat):LB→BA→Option Int:=fun a b=>(f93_l1 k b a 0)
def f93 (k:Nat):LB→BA→Option Int:=f93_b k
def f64_b (k:Nat):LB→BA→Option Bool:=fun a b=>((f93 k a b).bind fun c=>(some (decide (c ≥ 0))))
def f64 (k:Nat):LB→BA→Option Bool:=f64_b k
def f92_b (k:Nat):BA→Option Bool:=fun a=>((f114 k ).bind fun b=>((f64 k b a).bind fun c=>(some c)))
def f92 (k:Nat):BA→Option Bool:=f92_b k
def f63_j1 (k:Nat) (a:Bool):Option Bool:=(some a)
def f63_b (k:Nat):BA→Option Bool:=fun a=>((f91 k a).bind fun b=>(cond b (cond (decide ((a.size:Int) ≤ 12)) ((f92 k a).bind fun c=>(f63_j1 k (!c))) (f63_j1 k false)) (f63_j1 k false)))
def f63 (k:Nat):BA→Option Bool:=f63_b k
structure Fam153 where
 f153:Dcounter→LE→Int→Option (Dcounter × Bool)
 f157:Dcounter→DExpr→Int→Option (Dcounter × Bool)
def f153_l1 (k:Nat) (F:Fam153) (d:Int):LE→Nat→Int→Int→Bool→Option (Dcounter × Bool)
 | [],e,a,b,c=>(some ((Dcounter.mk a b c),true))
 | (.mk i j l m n) :: o,e,a,b,c=>((F.f157 (Dcounter.mk a b c) (DExpr.mk i j l m n) d).bind fun q_=>match q_ with | (.mk f g h,p)=>(cond (!p) (some ((Dcounter.mk f g h),false)) ((f153_l1 k F d o) (e + 1) f g h)))
def f153_b (k:Nat) (F:Fam153):Dcounter→LE→Int→Option (Dcounter × Bool):=fun c a b =>
 match c,a,b with
 | .mk d e f,a,b=>(f153_l1 k F b a 0 d e f)
def f157_j3 (k:Nat) (F:Fam153) (a:Bool) (b:Int) (c:Int) (d:Bool):Option (Dcounter × Bool):=(some ((Dcounter.mk b c d),a))
def f157_j2 (k:Nat) (F:Fam153) (d:LE) (e:Int) (a:Int) (b:Int) (c:Bool) (f:Int) (g:Bool):Option (Dcounter × Bool):=(cond g (cond ((d.length:Int) == f) ((F.f153 (Dcounter.mk a b c) d (w64 (e + 1))).bind fun q_=>match q_ with | (.mk h i j,l)=>(f157_j3 k F l h i j)) (f157_j3 k F false a b c)) (f157_j3 k F false a b c))
def f157_j5 (k:Nat) (F:Fam153) (a:LE) (b:Int) (c:Int) (d:Int) (e:Bool) (f:Bool):Option (Dcounter × Bool):=(f157_j2 k F a b c d e 1 f)
def f157_j6 (k:Nat) (F:Fam153) (a:LE) (b:Int) (c:Int) (d:Int) (e:Bool) (f:Bool):Option (Dcounter × Bool):=(f157_j2 k F a b c d e 2 f)
def f157_j4 (k:Nat) (F:Fam153) (h:Int) (f:Int) (g:BA) (a:LE) (b:Int) (c:Int) (d:Int) (e:Bool) (i:Bool):Option (Dcounter × Bool):=(cond i (cond (f == 0) (f157_j5 k F a b c d e (seq g ⟨#[]⟩)) (f157_j5 k F a b c d e false)) ((f116 k h 7 19).bind fun j=>(cond j (cond (f == 0) (f157_j6 k F a b c d e (seq g ⟨#[]⟩)) (f157_j6 k F a b c d e false)) (f157_j6 k F a b c d e false))))
def f157_j1 (k:Nat) (F:Fam153) (f:Int) (g:Int) (h:BA) (d:LE) (e:Int) (a:Int) (b:Int) (c:Bool) (i:Bool):Option (Dcounter × Bool):=(cond i (some ((Dcounter.mk a b c),false)) (cond (f == 1) ((f116 k g 0 1000000000000).bind fun j=>(cond j (f157_j2 k F d e a b c 0 (seq h ⟨#[]⟩)) (f157_j2 k F d e a b c 0 false))) (cond (f == 2) ((f116 k g 0 1).bind fun l=>(cond l (f157_j2 k F d e a b c 0 (seq h ⟨#[]⟩)) (f157_j2 k F d e a b c 0 false))) (cond (f == 3) (cond (g == 0) ((f160 k h).bind fun m=>(f157_j2 k F d e a b c 0 m)) (f157_j2 k F d e a b c 0 false)) (cond (f == 4) (cond (g == 0) ((f63 k h).bind fun n=>(f157_j2 k F d e a b c 0 n)) (f157_j2 k F d e a b c 0 false)) (cond (f == 5) (f157_j4 k F f g h d e a b c (f == 5)) (f157_j4 k F f g h d e a b c (f == 6))))))))
def f157_b (k:Nat) (F:Fam153):Dcounter→DExpr→Int→Option (Dcounter × Bool):=fun i j a =>
 match i,j,a with
 | .mk l m n,.mk c d e o f,a=>((f117 k (Dcounter.mk l m n) a).bind fun q_=>match q_ with | (.mk g h b,p)=>(cond (!p) (f157_j1 k F c d e f a g h b true) (cond (o != 0) (f157_j1 k F c d e f a g h b (!b)) (f157_j1 k F c d e f a g h b false))))
def fam153 (k0:Nat):Nat→Fam153
 | 0=>{ f153:=fun _ _ _=>none,f157:=fun _ _ _=>none }
 | k + 1=>{ f153:=f153_b k0 (fam153 k0 k),f157:=f157_b k0 (fam153 k0 k) }
def f153 (k:Nat):Dcounter→LE→Int→Option (Dcounter × Bool):=(fam153 k k).f153
def f157 (k:Nat):Dcounter→DExpr→Int→Option (Dcounter × Bool):=(fam153 k k).f157
structure Fam118 where
 f118:Dcounter→LS→Int→Option (Dcounter × Bool)
 f138:Dcounter→DStmt→Int→Option (Dcounter × Bool)
 f152:Dcounter→DCase→Int→Option (Dcounter × Bool)
def f118_l1 (k:Nat) (F:Fam118) (d:Int):LS→Nat→Int→Int→Bool→Option (Dcounter × Bool)
 | [],e,a,b,c=>(some ((Dcounter.mk a b c),true))
 | (.mk i j l m n o p q r s t) :: u,e,a,b,c=>((F.f138 (Dcounter.mk a b c) (DStmt.mk i j l m n o p q r s t) d).bind fun q_=>match q_ with | (.mk f g h,v)=>(cond (!v) (some ((Dcounter.mk f g h),false)) ((f118_l1 k F d u) (e + 1) f g h)))
def f118_b (k:Nat) (F:Fam118):Dcounter→LS→Int→Option (Dcounter × Bool):=fun c a b =>
 match c,a,b with
 | .mk d e f,a,b=>(f118_l1 k F b a 0 d e f)
def f138_j5 (k:Nat) (F:Fam118) (a:Bool) (b:Int) (c:Int) (d:Bool):Option (Dcounter × Bool):=(some ((Dcounter.mk b c d),a))
def f138_j6 (k:Nat) (F:Fam118) (d:Nat) (a:Int) (b:Int) (c:Bool) (e:Bool) (nx1:Nat→Int→Int→Bool→Option (Dcounter × Bool)):Option (Dcounter × Bool):=(cond e (some ((Dcounter.mk a b c),false)) (nx1 (d + 1) a b c))
def f138_l1 (k:Nat) (F:Fam118) (f:LE) (g:LS) (h:LS) (i:LS) (j:LC) (a:Int):LC→Nat→Int→Int→Bool→Option (Dcounter × Bool)
 | [],b,c,d,e=>((f153 k (Dcounter.mk c d e) f (w64 (a + 1))).bind fun q_=>match q_ with | (.mk n o p,A)=>(cond A ((F.f118 (Dcounter.mk n o p) g (w64 (a + 1))).bind fun q_=>match q_ with | (.mk q r s,B)=>(cond B ((F.f118 (Dcounter.mk q r s) h (w64 (a + 1))).bind fun q_=>match q_ with | (.mk t u v,C)=>(cond C ((F.f118 (Dcounter.mk t u v) i (w64 (a + 1))).bind fun q_=>match q_ with | (.mk D G I,J)=>(f138_j5 k F J D G I)) (f138_j5 k F false t u v))) (f138_j5 k F false q r s))) (f138_j5 k F false n o p)))
 | (.mk l w x y z) :: m,b,c,d,e=>(cond (l == 4) (cond (decide ((b:Int) < (w64 ((j.length:Int) - 1)))) (f138_j6 k F b c d e true (f138_l1 k F f g h i j a m)) ((F.f152 (Dcounter.mk c d e) (DCase.mk l w x y z) (w64 (a + 1))).bind fun q_=>match q_ with | (.mk N O S,U)=>(f138_j6 k F b N O S (!U) (f138_l1 k F f g h i j a m)))) ((F.f152 (Dcounter.mk c d e) (DCase.mk l w x y z) (w64 (a + 1))).bind fun q_=>match q_ with | (.mk V W X,Y)=>(f138_j6 k F b V W X (!Y) (f138_l1 k F f g h i j a m))))
def f138_j4 (k:Nat) (F:Fam118) (e:LE) (f:LS) (g:LS) (h:LS) (a:LC) (i:Int) (b:Int) (c:Int) (d:Bool) (j:Bool):Option (Dcounter × Bool):=(cond j (some ((Dcounter.mk b c d),false)) (f138_l1 k F e f g h a i a 0 b c d))
def f138_j3 (k:Nat) (F:Fam118) (j:Int) (b:LE) (c:LS) (g:LS) (h:LS) (a:LC) (i:Int) (l:Int) (m:Int) (n:Bool) (d:Int) (e:Int) (f:Bool) (o:Bool):Option (Dcounter × Bool):=(cond o (some ((Dcounter.mk d e f),false)) ((f116 k (b.length:Int) l m).bind fun p=>(cond (!p) (f138_j4 k F b c g h a i d e f true) (cond (!n) (cond (decide ((c.length:Int) > 0)) (f138_j4 k F b c g h a i d e f true) (cond (j != 27) (cond (decide ((a.length:Int) > 0)) (f138_j4 k F b c g h a i d e f true) (cond (j == 27) ((f116 k (a.length:Int) 1 4).bind fun q=>(f138_j4 k F b c g h a i d e f (!q))) (f138_j4 k F b c g h a i d e f false))) (cond (j == 27) ((f116 k (a.length:Int) 1 4).bind fun r=>(f138_j4 k F b c g h a i d e f (!r))) (f138_j4 k F b c g h a i d e f false)))) (cond (j != 27) (cond (decide ((a.length:Int) > 0)) (f138_j4 k F b c g h a i d e f true) (cond (j == 27) ((f116 k (a.length:Int) 1 4).bind fun s=>(f138_j4 k F b c g h a i d e f (!s))) (f138_j4 k F b c g h a i d e f false))) (cond (j == 27) ((f116 k (a.length:Int) 1 4).bind fun t=>(f138_j4 k F b c g h a i d e f (!t))) (f138_j4 k F b c g h a i d e f false)))))))
def f138_j2 (k:Nat) (F:Fam118) (d:Int) (q:BA) (o:BA) (e:LE) (f:LS) (g:LS) (h:LS) (i:LC) (j:Int) (r:Int) (p:Bool) (l:Int) (m:Int) (n:Bool) (a:Int) (b:Int) (c:Bool) (s:Bool):Option (Dcounter × Bool):=(cond s (some ((Dcounter.mk a b c),false)) (cond (!seq q ⟨#[]⟩) (cond (r == 0) (f138_j3 k F d e f g h i j l m n a b c true) ((f63 k q).bind fun t=>(cond (!t) (f138_j3 k F d e f g h i j l m n a b c true) (cond (!(!seq q ⟨#[]⟩)) (cond (r == 1) (f138_j3 k F d e f g h i j l m n a b c true) (cond (!((!seq o ⟨#[]⟩) == p)) (f138_j3 k F d e f g h i j l m n a b c true) (cond p ((f63 k o).bind fun u=>(f138_j3 k F d e f g h i j l m n a b c (!u))) (f138_j3 k F d e f g h i j l m n a b c false)))) (cond (!((!seq o ⟨#[]⟩) == p)) (f138_j3 k F d e f g h i j l m n a b c true) (cond p ((f63 k o).bind fun v=>(f138_j3 k F d e f g h i j l m n a b c (!v))) (f138_j3 k F d e f g h i j l m n a b c false))))))) (cond (!(!seq q ⟨#[]⟩)) (cond (r == 1) (f138_j3 k F d e f g h i j l m n a b c true) (cond (!((!seq o ⟨#[]⟩) == p)) (f138_j3 k F d e f g h i j l m n a b c true) (cond p ((f63 k o).bind fun w=>(f138_j3 k F d e f g h i j l m n a b c (!w))) (f138_j3 k F d e f g h i j l m n a b c false)))) (cond (!((!seq o ⟨#[]⟩) == p)) (f138_j3 k F d e f g h i j l m n a b c true) (cond p ((f63 k o).bind fun x=>(f138_j3 k F d e f g h i j l m n a b c (!x))) (f138_j3 k F d e f g h i j l m n a b c false))))))
def f138_j1 (k:Nat) (F:Fam118) (v:Int) (w:Int) (x:Bool) (a:Int) (b:BA) (s:Int) (c:BA) (t:Int) (u:Int) (d:LE) (e:LS) (f:LS) (g:LS) (h:LC) (i:Int) (l:Int) (m:Bool) (n:Int) (o:Int) (p:Bool) (y:Bool):Option (Dcounter × Bool):=(cond (!y) (f138_j2 k F a b c d e f g h i l m n o p v w x true) ((f117 k (Dcounter.mk v w x) i).bind fun q_=>match q_ with | (.mk q r j,z)=>(cond (!z) (f138_j2 k F a b c d e f g h i l m n o p q r j true) (cond (s != 0) (cond (!j) (f138_j2 k F a b c d e f g h i l m n o p q r j true) ((f151 k (DStmt.mk a b s c t u d e f g h)).bind fun A=>(f138_j2 k F a b c d e f g h i l m n o p q r j (!A)))) (cond (t != 0) (cond (!j) (f138_j2 k F a b c d e f g h i l m n o p q r j true) ((f151 k (DStmt.mk a b s c t u d e f g h)).bind fun B=>(f138_j2 k F a b c d e f g h i l m n o p q r j (!B)))) ((f151 k (DStmt.mk a b s c t u d e f g h)).bind fun C=>(f138_j2 k F a b c d e f g h i l m n o p q r j (!C))))))))
def f138_b (k:Nat) (F:Fam118):Dcounter→DStmt→Int→Option (Dcounter × Bool):=fun q r a =>
 match q,r,a with
 | .mk c d e,.mk b f g h i j l m n o p,a=>((f150 k ).bind fun s=>(mcase (mget qI b s) (f138_j1 k F c d e b f g h i j l m n o p a 0 false 0 0 false false) (fun q_=>match q_ with | .mk t u v w x=>(f138_j1 k F c d e b f g h i j l m n o p a t u v w x true))))
def f152_j2 (k:Nat) (F:Fam118) (a:Bool) (b:Int) (c:Int) (d:Bool):Option (Dcounter × Bool):=(some ((Dcounter.mk b c d),a))
def f152_j1 (k:Nat) (F:Fam118) (h:LE) (i:LS) (a:Int) (b:Int) (c:Int) (d:Bool) (j:Bool):Option (Dcounter × Bool):=(cond j (some ((Dcounter.mk b c d),false)) ((f153 k (Dcounter.mk b c d) h (w64 (a + 1))).bind fun q_=>match q_ with | (.mk e f g,l)=>(cond l ((F.f118 (Dcounter.mk e f g) i (w64 (a + 1))).bind fun q_=>match q_ with | (.mk m n o,p)=>(f152_j2 k F p m n o)) (f152_j2 k F false e f g))))
def f152_b (k:Nat) (F:Fam118):Dcounter→DCase→Int→Option (Dcounter × Bool):=fun n o a =>
 match n,o,a with
 | .mk i j l,.mk h g p b d,a=>(mcase (mget qI h (mput qI 4 0 (mput qI 3 1 (mput qI 2 2 (mput qI 1 1 ([]:List (Int × Int))))))) (some ((Dcounter.mk i j l),false)) (fun m=>((f117 k (Dcounter.mk i j l) a).bind fun q_=>match q_ with | (.mk e f c,q)=>(cond (!q) (f152_j1 k F b d a e f c true) (cond (p != 0) (cond (!c) (f152_j1 k F b d a e f c true) (cond ((b.length:Int) != m) (f152_j1 k F b d a e f c true) (cond (!((!seq g ⟨#[]⟩) == (h == 1))) (f152_j1 k F b d a e f c true) (cond (!seq g ⟨#[]⟩) ((f63 k g).bind fun r=>(f152_j1 k F b d a e f c (!r))) (f152_j1 k F b d a e f c false))))) (cond ((b.length:Int) != m) (f152_j1 k F b d a e f c true) (cond (!((!seq g ⟨#[]⟩) == (h == 1))) (f152_j1 k F b d a e f c true) (cond (!seq g ⟨#[]⟩) ((f63 k g).bind fun s=>(f152_j1 k F b d a e f c (!s))) (f152_j1 k F b d a e f c false)))))))))
def fam118 (k0:Nat):Nat→Fam118
 | 0=>{ f118:=fun _ _ _=>none,f138:=fun _ _ _=>none,f152:=fun _ _ _=>none }
 | k + 1=>{ f118:=f118_b k0 (fam118 k0 k),f138:=f138_b k0 (fam118 k0 k),f152:=f152_b k0 (fam118 k0 k) }
def f118 (k:Nat):Dcounter→LS→Int→Option (Dcounter × Bool):=(fam118 k k).f118
def f138 (k:Nat):Dcounter→DStmt→Int→Option (Dcounter × Bool):=(fam118 k k).f138
def f152 (k:Nat):Dcounter→DCase→Int→Option (Dcounter × Bool):=(fam118 k k).f152
def f101_j2 (k:Nat) (a:Int) (b:Int) (c:Bool) (d:Nat) (e:Bool) (nx2:Nat→Option (Dcounter × Bool)):Option (Dcounter × Bool):=(cond e (some ((Dcounter.mk a b c),false)) (nx2 (d + 1)))
def f101_l2 (k:Nat) (d:Nat) (e:LS) (a:Int) (b:Int) (c:Bool) (nx1:Nat→Int→Int→Bool→Option (Dcounter × Bool)):LP→Nat→Option (Dcounter × Bool)
 | [],f=>((f118 k (Dcounter.mk a b c) e 1).bind fun q_=>match q_ with | (.mk g h i,l)=>(cond (!l) (some ((Dcounter.mk g h i),false)) (nx1 (d + 1) g h i)))
 | (.mk m n) :: j,f=>((f63 k m).bind fun o=>(cond (!o) (f101_j2 k a b c f true (f101_l2 k d e a b c nx1 j)) ((f116 k n 1 6).bind fun p=>(f101_j2 k a b c f (!p) (f101_l2 k d e a b c nx1 j)))))
def f101_j1 (k:Nat) (d:Nat) (e:LP) (f:LS) (a:Int) (b:Int) (c:Bool) (g:Bool) (nx1:Nat→Int→Int→Bool→Option (Dcounter × Bool)):Option (Dcounter × Bool):=(cond g (some ((Dcounter.mk a b c),false)) (f101_l2 k d f a b c nx1 e 0))
def f101_l1 (k:Nat)  : LF→Nat→Int→Int→Bool→Option (Dcounter × Bool)
 | [],a,i,j,l=>(some ((Dcounter.mk i j l),true))
 | (.mk n b h m o d) :: e,a,i,j,l=>((f117 k (Dcounter.mk i j l) 0).bind fun q_=>match q_ with | (.mk f g c,p)=>(cond (!p) (f101_j1 k a b d f g c true (f101_l1 k e)) ((f63 k n).bind fun q=>(cond (!q) (f101_j1 k a b d f g c true (f101_l1 k e)) (cond (decide ((b.length:Int) > 4)) (f101_j1 k a b d f g c true (f101_l1 k e)) (cond (o != 0) (cond (!c) (f101_j1 k a b d f g c true (f101_l1 k e)) (cond m (cond (h != 0) (f101_j1 k a b d f g c true (f101_l1 k e)) ((f116 k h 0 6).bind fun r=>(f101_j1 k a b d f g c (!r) (f101_l1 k e)))) ((f116 k h 0 6).bind fun s=>(f101_j1 k a b d f g c (!s) (f101_l1 k e))))) (cond m (cond (h != 0) (f101_j1 k a b d f g c true (f101_l1 k e)) ((f116 k h 0 6).bind fun t=>(f101_j1 k a b d f g c (!t) (f101_l1 k e)))) ((f116 k h 0 6).bind fun u=>(f101_j1 k a b d f g c (!u) (f101_l1 k e))))))))))
def f101_b (k:Nat):Dcounter→DProgram→Option (Dcounter × Bool):=fun e f =>
 match e,f with
 | .mk a b c,.mk d=>((f116 k (d.length:Int) 1 16).bind fun g=>(cond (!g) (some ((Dcounter.mk a b c),false)) (f101_l1 k d 0 a b c)))
def f101 (k:Nat):Dcounter→DProgram→Option (Dcounter × Bool):=f101_b k
def f78_b (k:Nat):DProgram→Bool→Option Bool:=fun b a =>
 match b,a with
 | .mk c,a=>((f101 k (Dcounter.mk 0 0 a) (DProgram.mk c)).bind fun q_=>match q_ with | (.mk e f g,d)=>(some d))
def f78 (k:Nat):DProgram→Bool→Option Bool:=f78_b k
def f119_l1 (k:Nat) (a:BA):LM→Nat→Option (Int × Bool)
 | [],b=>(some (0,false))
 | c :: d,b=>(mcase (mget seq a c) ((f119_l1 k a d) (b + 1)) (fun e=>(some (e,true))))
def f119_b (k:Nat):Dresolver→BA→Option (Int × Bool):=fun b a =>
 match b,a with
 | .mk (.mk d) (.mk e f g h i j) l c m,a=>(f119_l1 k a c 0)
def f119 (k:Nat):Dresolver→BA→Option (Int × Bool):=f119_b k
def f103_b (k:Nat):Dresolver→BA→Option (Except Int (Dresolver × Int)):=fun m a =>
 match m,a with
 | .mk (.mk d) (.mk e f g h i j) b c l,a=>((f119 k (Dresolver.mk (DProgram.mk d) (DFunc.mk e f g h i j) b c l) a).bind fun q_=>match q_ with | (p,n)=>((f58 k (!n) 21).bind fun q_=>match q_ with | .error c_=>some (.error c_) | .ok _=>(guardB (decide ((b.length + 1) * 16 ≤ 140737488355328)) ((idxO c (w64 ((c.length:Int) - 1))).bind fun o=>(some (.ok ((Dresolver.mk (DProgram.mk d) (DFunc.mk e f g h i j) (b ++ [a]) (c.set (w64 ((c.length:Int) - 1)).toNat (mput seq a (b.length:Int) o)) l),(b.length:Int))))))))
def f103 (k:Nat):Dresolver→BA→Option (Except Int (Dresolver × Int)):=f103_b k
def f104 (k:Nat):LP→Option LP:=fun a=>guardB (decide (a.length * 24 ≤ 140737488355328)) (some a)
def f1013932_b (k:Nat):DExpr→Dresolver→Option (Except Int Int):=fun a b =>
 match a,b with
 | .mk c r d s t,.mk (.mk e) (.mk f g h i j l) m n o=>(cond (c != 4) (some (.ok 0)) ((f119 k (Dresolver.mk (DProgram.mk e) (DFunc.mk f g h i j l) m n o) d).bind fun q_=>match q_ with | (p,q)=>((f58 k q 20).bind fun q_=>match q_ with | .error c_=>some (.error c_) | .ok _=>(some (.ok p)))))
def f1013932 (k:Nat):DExpr→Dresolver→Option (Except Int Int):=f1013932_b k
structure Fam1013170 where
 f1013170:LE→Dresolver→Option (Except Int LE)
 f1014270:DExpr→Dresolver→Option (Except Int DExpr)
def f1013170_l1 (k:Nat) (F:Fam1013170) (b:LF) (c:BA) (d:LP) (e:Int) (f:Bool) (g:Int) (h:LS) (i:LB) (j:LM) (l:Int):LE→Nat→LE→Option (Except Int LE)
 | [],m,a=>(some (.ok a))
 | (.mk n o p q r) :: s,m,a=>((F.f1014270 (DExpr.mk n o p q r) (Dresolver.mk (DProgram.mk b) (DFunc.mk c d e f g h) i j l)).bind fun q_=>match q_ with | .error c_=>some (.error c_) | .ok (.mk t u v w x)=>(guardB (decide ((a.length + 1) * 64 ≤ 140737488355328)) ((f1013170_l1 k F b c d e f g h i j l s) (m + 1) (a ++ [(DExpr.mk t u v w x)]))))
def f1013170_b (k:Nat) (F:Fam1013170):LE→Dresolver→Option (Except Int LE):=fun a b =>
 match a,b with
 | a,.mk (.mk c) (.mk d e f g h i) j l m=>(f1013170_l1 k F c d e f g h i j l m a 0 ([]:LE))
def f1014270_b (k:Nat) (F:Fam1013170):DExpr→Dresolver→Option (Except Int DExpr):=fun p q =>
 match p,q with
 | .mk a b c r s,.mk (.mk d) (.mk e f g h i j) l m n=>((F.f1013170 s (Dresolver.mk (DProgram.mk d) (DFunc.mk e f g h i j) l m n)).bind fun q_=>match q_ with | .error c_=>some (.error c_) | .ok o=>((f1013932 k (DExpr.mk a b c r o) (Dresolver.mk (DProgram.mk d) (DFunc.mk e f g h i j) l m n)).bind fun q_=>match q_ with | .error c_=>some (.error c_) | .ok t=>(some (.ok (DExpr.mk a b c t o)))))
def fam1013170 (k0:Nat):Nat→Fam1013170
 | 0=>{ f1013170:=fun _ _=>none,f1014270:=fun _ _=>none }
 | k + 1=>{ f1013170:=f1013170_b k0 (fam1013170 k0 k),f1014270:=f1014270_b k0 (fam1013170 k0 k) }
def f1013170 (k:Nat):LE→Dresolver→Option (Except Int LE):=(fam1013170 k k).f1013170
def f1014270 (k:Nat):DExpr→Dresolver→Option (Except Int DExpr):=(fam1013170 k k).f1014270
def f120_b (k:Nat):Dresolver→LE→Option (Except Int LE):=fun b a =>
 match b,a with
 | .mk (.mk c) (.mk d e f g h i) j l m,a=>((f1013170 k a (Dresolver.mk (DProgram.mk c) (DFunc.mk d e f g h i) j l m)).bind fun q_=>match q_ with | .error c_=>some (.error c_) | .ok n=>(some (.ok n)))
def f120 (k:Nat):Dresolver→LE→Option (Except Int LE):=f120_b k
def f1014048_b (k:Nat):DFunc→DStmt→Option Bool:=fun a b =>
 match a,b with
 | .mk c e f g h i,.mk j l m d n o p q r s t=>(some (seq c d))
def f1014048 (k:Nat):DFunc→DStmt→Option Bool:=f1014048_b k
def f1005661_l1 (k:Nat) (b:Int) (c:BA) (d:Int) (e:BA) (f:Int) (g:Int) (h:LE) (i:LS) (j:LS) (l:LS) (m:LC):LF→Nat→Option Int
 | [],a=>(some (-1))
 | (.mk n o p q r s) :: t,a=>((f1014048 k (DFunc.mk n o p q r s) (DStmt.mk b c d e f g h i j l m)).bind fun u=>(cond u (some (a:Int)) ((f1005661_l1 k b c d e f g h i j l m t) (a + 1))))
def f1005661_b (k:Nat):LF→DStmt→Option Int:=fun a b =>
 match a,b with
 | a,.mk c d e f g h i j l m n=>(f1005661_l1 k c d e f g h i j l m n a 0)
def f1005661 (k:Nat):LF→DStmt→Option Int:=f1005661_b k
def f122_b (k:Nat):Dresolver→DStmt→Option (Except Int (Dresolver × DStmt)):=fun c d =>
 match c,d with
 | .mk (.mk a) (.mk e f g h i j) l m n,.mk sA_0 sA_1 sA_2 sA_3 sA_4 sA_5 sA_6 sA_7 sA_8 sA_9 sA_10=>((f1005661 k a (DStmt.mk sA_0 sA_1 sA_2 sA_3 sA_4 sA_5 sA_6 sA_7 sA_8 sA_9 sA_10)).bind fun b=>((f58 k (decide (b ≥ 0)) 20).bind fun q_=>match q_ with | .error c_=>some (.error c_) | .ok _=>((idxO a b).bind fun q_=>match q_ with | .mk q o r p s t=>((f58 k (p == (sA_0 == 28)) 25).bind fun q_=>match q_ with | .error c_=>some (.error c_) | .ok _=>((f58 k ((o.length:Int) == (sA_6.length:Int)) 24).bind fun q_=>match q_ with | .error c_=>some (.error c_) | .ok _=>(some (.ok ((Dresolver.mk (DProgram.mk a) (DFunc.mk e f g h i j) l m n),(DStmt.mk sA_0 sA_1 sA_2 sA_3 b sA_5 sA_6 sA_7 sA_8 sA_9 sA_10)))))))))
def f122 (k:Nat):Dresolver→DStmt→Option (Except Int (Dresolver × DStmt)):=f122_b k
structure Fam105 where
 f105:Dresolver→DStmt→Option (Except Int (Dresolver × DStmt))
 f1012148:Dresolver→BA→LS→DCase→Option (Except Int (Dresolver × DCase × LS))
 f1012152:Dresolver→BA→LS→DStmt→Option (Except Int (Dresolver × DStmt × LS))
 f1012166:Dresolver→BA→LS→Option (Except Int (Dresolver × LS))
 f1012352:Dresolver→BA→LS→DStmt→Option (Except Int (Dresolver × DStmt × LS))
 f1012366:Dresolver→BA→LS→Option (Except Int (Dresolver × LS))
def f105_l1 (k:Nat) (F:Fam105) (m:Int) (n:BA) (o:Int) (p:BA) (q:Int) (r:Int) (s:LS) (t:LS) (u:LS) (v:LE):LC→Nat→LF→BA→LP→Int→Bool→Int→LS→LB→LM→Int→LC→Option (Except Int (Dresolver × DStmt))
 | [],w,a,b,c,d,e,f,g,h,i,j,l=>(some (.ok ((Dresolver.mk (DProgram.mk a) (DFunc.mk b c d e f g) h i j),(DStmt.mk m n o p q r v s t u l))))
 | (.mk z x A B y) :: C,w,a,b,c,d,e,f,g,h,i,j,l=>((f120 k (Dresolver.mk (DProgram.mk a) (DFunc.mk b c d e f g) h i j) B).bind fun q_=>match q_ with | .error c_=>some (.error c_) | .ok D=>((F.f1012148 (Dresolver.mk (DProgram.mk a) (DFunc.mk b c d e f g) h i j) x y (DCase.mk z x A D y)).bind fun q_=>match q_ with | .error c_=>some (.error c_) | .ok (.mk (.mk G) (.mk I J N O S U) V W X,.mk Y Z ab ac ae,ad)=>(guardB (decide ((l.length + 1) * 80 ≤ 140737488355328)) ((f105_l1 k F m n o p q r s t u v C) (w + 1) G I J N O S U V W X (l ++ [(DCase.mk Y Z ab ac ad)])))))
def f105_j2 (k:Nat) (F:Fam105) (a:Int) (b:BA) (c:Int) (d:BA) (e:Int) (f:Int) (g:LE) (h:LS) (i:LS) (j:LS) (l:LC) (m:LF) (n:BA) (o:LP) (p:Int) (q:Bool) (r:Int) (s:LS) (t:LB) (u:LM) (v:Int):Option (Except Int (Dresolver × DStmt)):=(some (.ok ((Dresolver.mk (DProgram.mk m) (DFunc.mk n o p q r s) t u v),(DStmt.mk a b c d e f g h i j l))))
def f105_j5 (k:Nat) (F:Fam105) (a:Int) (d:BA) (e:BA) (f:Int) (b:Int) (g:LE) (h:LS) (i:LS) (j:LS) (l:LC) (m:LF) (n:BA) (o:LP) (p:Int) (q:Bool) (r:Int) (s:LS) (t:LB) (u:LM) (c:Int) (v:Int):Option (Except Int (Dresolver × DStmt)):=(cond (a != 6) ((f58 k true 22).bind fun q_=>match q_ with | .error c_=>some (.error c_) | .ok _=>(f105_j2 k F a d v e f b g h i j l m n o p q r s t u c)) (cond (b == 0) ((f58 k true 22).bind fun q_=>match q_ with | .error c_=>some (.error c_) | .ok _=>(f105_j2 k F a d v e f b g h i j l m n o p q r s t u c)) ((f58 k (decide (c > 0)) 22).bind fun q_=>match q_ with | .error c_=>some (.error c_) | .ok _=>(f105_j2 k F a d v e f b g h i j l m n o p q r s t u c))))
def f105_j4 (k:Nat) (F:Fam105) (b:LF) (c:BA) (d:LP) (e:Int) (f:Bool) (g:Int) (h:LS) (i:LB) (j:LM) (l:Int) (m:Int) (a:BA) (v:Int) (n:BA) (o:Int) (p:Int) (q:LE) (r:LS) (s:LS) (t:LS) (u:LC) (w:Bool):Option (Except Int (Dresolver × DStmt)):=(cond w ((F.f1012166 (Dresolver.mk (DProgram.mk b) (DFunc.mk c d e f g h) i j l) ⟨#[]⟩ r).bind fun q_=>match q_ with | .error c_=>some (.error c_) | .ok (.mk (.mk x) (.mk y z A B C D) G I J,N)=>((F.f1012166 (Dresolver.mk (DProgram.mk x) (DFunc.mk y z A B C D) G I J) ⟨#[]⟩ s).bind fun q_=>match q_ with | .error c_=>some (.error c_) | .ok (.mk (.mk O) (.mk S U V W X Y) Z ab ac,ad)=>(f105_j2 k F m a v n o p q N ad t u O S U V W X Y Z ab ac))) (cond (!seq a ⟨#[]⟩) ((f103 k (Dresolver.mk (DProgram.mk b) (DFunc.mk c d e f g h) i j l) a).bind fun q_=>match q_ with | .error c_=>some (.error c_) | .ok (.mk (.mk ae) (.mk af ag ah ai aj ak) al am an,ao)=>(f105_j5 k F m a n o p q r s t u ae af ag ah ai aj ak al am an ao)) (f105_j5 k F m a n o p q r s t u b c d e f g h i j l v)))
def f105_j3 (k:Nat) (F:Fam105) (i:LF) (j:BA) (l:LP) (d:Int) (e:Bool) (m:Int) (n:LS) (o:LB) (p:LM) (f:Int) (a:Int) (b:BA) (q:Int) (r:BA) (s:Int) (t:Int) (g:LE) (c:LS) (h:LS) (u:LS) (v:LC) (w:Bool):Option (Except Int (Dresolver × DStmt)):=(cond w ((f58 k (decide (f > 0)) 22).bind fun q_=>match q_ with | .error c_=>some (.error c_) | .ok _=>(f105_j2 k F a b q r s t g c h u v i j l d e m n o p f)) (cond (a == 29) ((f58 k e 22).bind fun q_=>match q_ with | .error c_=>some (.error c_) | .ok _=>(f105_j2 k F a b q r s t g c h u v i j l d e m n o p f)) (cond (a == 17) ((f58 k ((decide ((g.length:Int) > 0)) == (d != 0)) 22).bind fun q_=>match q_ with | .error c_=>some (.error c_) | .ok _=>(f105_j2 k F a b q r s t g c h u v i j l d e m n o p f)) (cond (a == 21) ((F.f1012366 (Dresolver.mk (DProgram.mk i) (DFunc.mk j l d e m n) o p f) ⟨#[]⟩ c).bind fun q_=>match q_ with | .error c_=>some (.error c_) | .ok (.mk (.mk x) (.mk y z A B C D) G I J,N)=>(f105_j2 k F a b q r s t g N h u v x y z A B C D G I J)) (cond (a == 28) ((F.f1012352 (Dresolver.mk (DProgram.mk i) (DFunc.mk j l d e m n) o p f) b c (DStmt.mk a b q r s t g c h u v)).bind fun q_=>match q_ with | .error c_=>some (.error c_) | .ok (.mk (.mk O) (.mk S U V W X Y) Z ab ac,.mk ad ae af ag ah ai aj bz ak al am,an)=>(f105_j2 k F ad ae af ag ah ai aj an ak al am O S U V W X Y Z ab ac)) (cond (a == 25) ((F.f1012152 (Dresolver.mk (DProgram.mk i) (DFunc.mk j l d e m n) o p f) b c (DStmt.mk a b q r s t g c h u v)).bind fun q_=>match q_ with | .error c_=>some (.error c_) | .ok (.mk (.mk ao) (.mk ap aq ar au av aw) ax ay az,.mk aA aB aE aF aG aH aI bA aJ aK aL,aM)=>(f105_j2 k F aA aB aE aF aG aH aI aM aJ aK aL ao ap aq ar au av aw ax ay az)) (cond (a == 24) ((F.f1012166 (Dresolver.mk (DProgram.mk i) (DFunc.mk j l d e m n) o p f) ⟨#[]⟩ c).bind fun q_=>match q_ with | .error c_=>some (.error c_) | .ok (.mk (.mk aN) (.mk aP aQ aR aS aT aU) aV aW aX,aY)=>((F.f1012152 (Dresolver.mk (DProgram.mk aN) (DFunc.mk aP aQ aR aS aT aU) aV aW aX) b h (DStmt.mk a b q r s t g aY h u v)).bind fun q_=>match q_ with | .error c_=>some (.error c_) | .ok (.mk (.mk aZ) (.mk a0 a1 a2 a3 a4 a5) a6 a7 a8,.mk a9 ba bb bd be bf bg bh bB bi bj,bk)=>((F.f1012166 (Dresolver.mk (DProgram.mk aZ) (DFunc.mk a0 a1 a2 a3 a4 a5) a6 a7 a8) ⟨#[]⟩ bi).bind fun q_=>match q_ with | .error c_=>some (.error c_) | .ok (.mk (.mk bm) (.mk bn bo bp bq br bs) bu bv bw,bx)=>(f105_j2 k F a9 ba bb bd be bf bg bh bk bx bj bm bn bo bp bq br bs bu bv bw)))) (cond (a == 20) (f105_j4 k F i j l d e m n o p f a b q r s t g c h u v (a == 20)) (cond (a == 22) (f105_j4 k F i j l d e m n o p f a b q r s t g c h u v (a == 22)) (cond (a == 23) (f105_j4 k F i j l d e m n o p f a b q r s t g c h u v (a == 23)) (f105_j4 k F i j l d e m n o p f a b q r s t g c h u v (a == 26))))))))))))
def f105_j1 (k:Nat) (F:Fam105) (b:LF) (c:BA) (d:LP) (e:Int) (f:Bool) (g:Int) (h:LS) (i:LB) (j:LM) (l:Int) (a:Int) (m:BA) (v:Int) (n:BA) (o:Int) (p:Int) (q:LE) (r:LS) (s:LS) (t:LS) (u:LC):Option (Except Int (Dresolver × DStmt)):=(cond (a == 2) ((f119 k (Dresolver.mk (DProgram.mk b) (DFunc.mk c d e f g h) i j l) m).bind fun q_=>match q_ with | (w,x)=>((f58 k x 20).bind fun q_=>match q_ with | .error c_=>some (.error c_) | .ok _=>(f105_j2 k F a m w n o p q r s t u b c d e f g h i j l))) (cond (a == 18) (f105_j3 k F b c d e f g h i j l a m v n o p q r s t u (a == 18)) (f105_j3 k F b c d e f g h i j l a m v n o p q r s t u (a == 19))))
def f105_b (k:Nat) (F:Fam105):Dresolver→DStmt→Option (Except Int (Dresolver × DStmt)):=fun w x =>
 match w,x with
 | .mk (.mk a) (.mk b c d e f g) h i j,.mk l n o m p q y r s t u=>((f120 k (Dresolver.mk (DProgram.mk a) (DFunc.mk b c d e f g) h i j) y).bind fun q_=>match q_ with | .error c_=>some (.error c_) | .ok v=>(cond (l == 27) (f105_l1 k F l n o m p q r s t v u 0 a b c d e f g h i j ([]:LC)) (cond (!seq m ⟨#[]⟩) ((f122 k (Dresolver.mk (DProgram.mk a) (DFunc.mk b c d e f g) h i j) (DStmt.mk l n o m p q v r s t u)).bind fun q_=>match q_ with | .error c_=>some (.error c_) | .ok (.mk (.mk z) (.mk A B C D G I) J N O,.mk S U V W X Y Z ab ac ad ae)=>(f105_j1 k F z A B C D G I J N O S U V W X Y Z ab ac ad ae)) (f105_j1 k F a b c d e f g h i j l n o m p q v r s t u))))
def f1012148_l1 (k:Nat) (F:Fam105) (sA_0:Int) (sA_1:BA) (sA_3:LE) (sA_4:LS) (m:Int):LS→Nat→LF→BA→LP→Int→Bool→Int→LS→LB→LM→Int→LS→Option (Except Int (Dresolver × DCase × LS))
 | [],n,c,d,e,f,g,h,i,j,a,l,b=>(guardB (decide (0 ≤ (w64 ((a.length:Int) - 1))∧(w64 ((a.length:Int) - 1)) ≤ (a.length:Int))) (some (.ok ((Dresolver.mk (DProgram.mk c) (DFunc.mk d e f g h i) j (a.take (w64 ((a.length:Int) - 1)).toNat) l),(DCase.mk sA_0 sA_1 m sA_3 sA_4),b))))
 | (.mk o p q r s t u v w x y) :: z,n,c,d,e,f,g,h,i,j,a,l,b=>((F.f105 (Dresolver.mk (DProgram.mk c) (DFunc.mk d e f g h i) j a l) (DStmt.mk o p q r s t u v w x y)).bind fun q_=>match q_ with | .error c_=>some (.error c_) | .ok (.mk (.mk A) (.mk B C D G I J) N O S,.mk U V W X Y Z ab ac ad ae af)=>(guardB (decide ((b.length + 1) * 184 ≤ 140737488355328)) ((f1012148_l1 k F sA_0 sA_1 sA_3 sA_4 m z) (n + 1) A B C D G I J N O S (b ++ [(DStmt.mk U V W X Y Z ab ac ad ae af)]))))
def f1012148_j1 (k:Nat) (F:Fam105) (a:LS) (sA_0:Int) (sA_1:BA) (sA_3:LE) (sA_4:LS) (b:LF) (c:BA) (d:LP) (e:Int) (f:Bool) (g:Int) (h:LS) (i:LB) (j:LM) (l:Int) (m:Int):Option (Except Int (Dresolver × DCase × LS)):=(f1012148_l1 k F sA_0 sA_1 sA_3 sA_4 m a 0 b c d e f g h i j l ([]:LS))
def f1012148_b (k:Nat) (F:Fam105):Dresolver→BA→LS→DCase→Option (Except Int (Dresolver × DCase × LS)):=fun n a b o =>
 match n,a,b,o with
 | .mk (.mk d) (.mk e f g h i j) l c m,a,b,.mk sA_0 sA_1 sA_2 sA_3 sA_4=>(guardB (decide ((c.length + 1) * 8 ≤ 140737488355328)) (cond (!seq a ⟨#[]⟩) ((f103 k (Dresolver.mk (DProgram.mk d) (DFunc.mk e f g h i j) l (c ++ [([]:List (BA × Int))]) m) a).bind fun q_=>match q_ with | .error c_=>some (.error c_) | .ok (.mk (.mk p) (.mk q r s t u v) w x y,z)=>(f1012148_j1 k F b sA_0 sA_1 sA_3 sA_4 p q r s t u v w x y z)) (f1012148_j1 k F b sA_0 sA_1 sA_3 sA_4 d e f g h i j l (c ++ [([]:List (BA × Int))]) m sA_2)))
def f1012152_l1 (k:Nat) (F:Fam105) (sA_0:Int) (sA_1:BA) (sA_3:BA) (sA_4:Int) (sA_5:Int) (sA_6:LE) (sA_7:LS) (sA_8:LS) (sA_9:LS) (sA_10:LC) (m:Int):LS→Nat→LF→BA→LP→Int→Bool→Int→LS→LB→LM→Int→LS→Option (Except Int (Dresolver × DStmt × LS))
 | [],n,c,d,e,f,g,h,i,j,a,l,b=>(guardB (decide (0 ≤ (w64 ((a.length:Int) - 1))∧(w64 ((a.length:Int) - 1)) ≤ (a.length:Int))) (some (.ok ((Dresolver.mk (DProgram.mk c) (DFunc.mk d e f g h i) j (a.take (w64 ((a.length:Int) - 1)).toNat) l),(DStmt.mk sA_0 sA_1 m sA_3 sA_4 sA_5 sA_6 sA_7 sA_8 sA_9 sA_10),b))))
 | (.mk o p q r s t u v w x y) :: z,n,c,d,e,f,g,h,i,j,a,l,b=>((F.f105 (Dresolver.mk (DProgram.mk c) (DFunc.mk d e f g h i) j a l) (DStmt.mk o p q r s t u v w x y)).bind fun q_=>match q_ with | .error c_=>some (.error c_) | .ok (.mk (.mk A) (.mk B C D G I J) N O S,.mk U V W X Y Z ab ac ad ae af)=>(guardB (decide ((b.length + 1) * 184 ≤ 140737488355328)) ((f1012152_l1 k F sA_0 sA_1 sA_3 sA_4 sA_5 sA_6 sA_7 sA_8 sA_9 sA_10 m z) (n + 1) A B C D G I J N O S (b ++ [(DStmt.mk U V W X Y Z ab ac ad ae af)]))))
def f1012152_j1 (k:Nat) (F:Fam105) (a:LS) (sA_0:Int) (sA_1:BA) (sA_3:BA) (sA_4:Int) (sA_5:Int) (sA_6:LE) (sA_7:LS) (sA_8:LS) (sA_9:LS) (sA_10:LC) (b:LF) (c:BA) (d:LP) (e:Int) (f:Bool) (g:Int) (h:LS) (i:LB) (j:LM) (l:Int) (m:Int):Option (Except Int (Dresolver × DStmt × LS)):=(f1012152_l1 k F sA_0 sA_1 sA_3 sA_4 sA_5 sA_6 sA_7 sA_8 sA_9 sA_10 m a 0 b c d e f g h i j l ([]:LS))
def f1012152_b (k:Nat) (F:Fam105):Dresolver→BA→LS→DStmt→Option (Except Int (Dresolver × DStmt × LS)):=fun n a b o =>
 match n,a,b,o with
 | .mk (.mk d) (.mk e f g h i j) l c m,a,b,.mk sA_0 sA_1 sA_2 sA_3 sA_4 sA_5 sA_6 sA_7 sA_8 sA_9 sA_10=>(guardB (decide ((c.length + 1) * 8 ≤ 140737488355328)) (cond (!seq a ⟨#[]⟩) ((f103 k (Dresolver.mk (DProgram.mk d) (DFunc.mk e f g h i j) l (c ++ [([]:List (BA × Int))]) m) a).bind fun q_=>match q_ with | .error c_=>some (.error c_) | .ok (.mk (.mk p) (.mk q r s t u v) w x y,z)=>(f1012152_j1 k F b sA_0 sA_1 sA_3 sA_4 sA_5 sA_6 sA_7 sA_8 sA_9 sA_10 p q r s t u v w x y z)) (f1012152_j1 k F b sA_0 sA_1 sA_3 sA_4 sA_5 sA_6 sA_7 sA_8 sA_9 sA_10 d e f g h i j l (c ++ [([]:List (BA × Int))]) m sA_2)))
def f1012166_l1 (k:Nat) (F:Fam105)  : LS→Nat→LF→BA→LP→Int→Bool→Int→LS→LB→LM→Int→LS→Option (Except Int (Dresolver × LS))
 | [],m,c,d,e,f,g,h,i,j,a,l,b=>(guardB (decide (0 ≤ (w64 ((a.length:Int) - 1))∧(w64 ((a.length:Int) - 1)) ≤ (a.length:Int))) (some (.ok ((Dresolver.mk (DProgram.mk c) (DFunc.mk d e f g h i) j (a.take (w64 ((a.length:Int) - 1)).toNat) l),b))))
 | (.mk n o p q r s t u v w x) :: y,m,c,d,e,f,g,h,i,j,a,l,b=>((F.f105 (Dresolver.mk (DProgram.mk c) (DFunc.mk d e f g h i) j a l) (DStmt.mk n o p q r s t u v w x)).bind fun q_=>match q_ with | .error c_=>some (.error c_) | .ok (.mk (.mk z) (.mk A B C D G I) J N O,.mk S U V W X Y Z ab ac ad ae)=>(guardB (decide ((b.length + 1) * 184 ≤ 140737488355328)) ((f1012166_l1 k F y) (m + 1) z A B C D G I J N O (b ++ [(DStmt.mk S U V W X Y Z ab ac ad ae)]))))
def f1012166_b (k:Nat) (F:Fam105):Dresolver→BA→LS→Option (Except Int (Dresolver × LS)):=fun n a b =>
 match n,a,b with
 | .mk (.mk d) (.mk e f g h i j) l c m,a,b=>(guardB (decide ((c.length + 1) * 8 ≤ 140737488355328)) (cond (!seq a ⟨#[]⟩) ((f103 k (Dresolver.mk (DProgram.mk d) (DFunc.mk e f g h i j) l (c ++ [([]:List (BA × Int))]) m) a).bind fun q_=>match q_ with | .error c_=>some (.error c_) | .ok (.mk (.mk o) (.mk p q r s t u) v w x,y)=>(none)) (f1012166_l1 k F b 0 d e f g h i j l (c ++ [([]:List (BA × Int))]) m ([]:LS))))
def f1012352_b (k:Nat) (F:Fam105):Dresolver→BA→LS→DStmt→Option (Except Int (Dresolver × DStmt × LS)):=fun c a b d =>
 match c,a,b,d with
 | .mk (.mk e) (.mk f g h i j l) m n o,a,b,.mk sA_0 sA_1 sA_2 sA_3 sA_4 sA_5 sA_6 sA_7 sA_8 sA_9 sA_10=>((F.f1012152 (Dresolver.mk (DProgram.mk e) (DFunc.mk f g h i j l) m n (w64 (o + 1))) a b (DStmt.mk sA_0 sA_1 sA_2 sA_3 sA_4 sA_5 sA_6 sA_7 sA_8 sA_9 sA_10)).bind fun q_=>match q_ with | .error c_=>some (.error c_) | .ok (.mk (.mk p) (.mk q r s t u v) w x y,.mk z A B C D G I J N O S,U)=>(some (.ok ((Dresolver.mk (DProgram.mk p) (DFunc.mk q r s t u v) w x (w64 (y - 1))),(DStmt.mk z A B C D G I J N O S),U))))
def f1012366_b (k:Nat) (F:Fam105):Dresolver→BA→LS→Option (Except Int (Dresolver × LS)):=fun c a b =>
 match c,a,b with
 | .mk (.mk d) (.mk e f g h i j) l m n,a,b=>((F.f1012166 (Dresolver.mk (DProgram.mk d) (DFunc.mk e f g h i j) l m (w64 (n + 1))) a b).bind fun q_=>match q_ with | .error c_=>some (.error c_) | .ok (.mk (.mk o) (.mk p q r s t u) v w x,y)=>(some (.ok ((Dresolver.mk (DProgram.mk o) (DFunc.mk p q r s t u) v w (w64 (x - 1))),y))))
def fam105 (k0:Nat):Nat→Fam105
 | 0=>{ f105:=fun _ _=>none,f1012148:=fun _ _ _ _=>none,f1012152:=fun _ _ _ _=>none,f1012166:=fun _ _ _=>none,f1012352:=fun _ _ _ _=>none,f1012366:=fun _ _ _=>none }
 | k + 1=>{ f105:=f105_b k0 (fam105 k0 k),f1012148:=f1012148_b k0 (fam105 k0 k),f1012152:=f1012152_b k0 (fam105 k0 k),f1012166:=f1012166_b k0 (fam105 k0 k),f1012352:=f1012352_b k0 (fam105 k0 k),f1012366:=f1012366_b k0 (fam105 k0 k) }
def f105 (k:Nat):Dresolver→DStmt→Option (Except Int (Dresolver × DStmt)):=(fam105 k k).f105
def f1012148 (k:Nat):Dresolver→BA→LS→DCase→Option (Except Int (Dresolver × DCase × LS)):=(fam105 k k).f1012148
def f1012152 (k:Nat):Dresolver→BA→LS→DStmt→Option (Except Int (Dresolver × DStmt × LS)):=(fam105 k k).f1012152
def f1012166 (k:Nat):Dresolver→BA→LS→Option (Except Int (Dresolver × LS)):=(fam105 k k).f1012166
def f1012352 (k:Nat):Dresolver→BA→LS→DStmt→Option (Except Int (Dresolver × DStmt × LS)):=(fam105 k k).f1012352
def f1012366 (k:Nat):Dresolver→BA→LS→Option (Except Int (Dresolver × LS)):=(fam105 k k).f1012366
def f82_j1 (k:Nat) (a:BA) (b:LP) (c:Int) (d:Bool) (e:Int) (f:LS) (g:LB):Option (Except Int (DFunc × LB)):=(some (.ok ((DFunc.mk a b c d e f),g)))
def f82_l2 (k:Nat) (c:BA) (d:Int) (e:Bool) (f:LP):LS→Nat→LF→BA→LP→Int→Bool→Int→LS→LB→LM→Int→LS→Option (Except Int (DFunc × LB))
 | [],g,h,i,j,l,m,n,o,a,p,q,b=>((f58 k (decide ((a.length:Int) ≤ 32)) 5).bind fun q_=>match q_ with | .error c_=>some (.error c_) | .ok _=>(f82_j1 k c f d e (a.length:Int) b a))
 | (.mk r s t u v w x y z A B) :: C,g,h,i,j,l,m,n,o,a,p,q,b=>((f105 k (Dresolver.mk (DProgram.mk h) (DFunc.mk i j l m n o) a p q) (DStmt.mk r s t u v w x y z A B)).bind fun q_=>match q_ with | .error c_=>some (.error c_) | .ok (.mk (.mk D) (.mk G I J N O S) U V W,.mk X Y Z ab ac ad ae af ag ah ai)=>(guardB (decide ((b.length + 1) * 184 ≤ 140737488355328)) ((f82_l2 k c d e f C) (g + 1) D G I J N O S U V W (b ++ [(DStmt.mk X Y Z ab ac ad ae af ag ah ai)]))))
def f82_l1 (k:Nat) (l:BA) (m:LP) (n:Int) (o:Bool) (p:LS):LP→Nat→LF→BA→LP→Int→Bool→Int→LS→LB→LM→Int→Option (Except Int (DFunc × LB))
 | [],q,a,b,c,d,e,f,g,h,i,j=>((f104 k m).bind fun r=>(f82_l2 k l n o r p 0 a b c d e f g h i j ([]:LS)))
 | (.mk s G) :: t,q,a,b,c,d,e,f,g,h,i,j=>((f103 k (Dresolver.mk (DProgram.mk a) (DFunc.mk b c d e f g) h i j) s).bind fun q_=>match q_ with | .error c_=>some (.error c_) | .ok (.mk (.mk u) (.mk v w x y z A) B C D,I)=>((f82_l1 k l m n o p t) (q + 1) u v w x y z A B C D))
def f82_b (k:Nat):DProgram→DFunc→Option (Except Int (DFunc × LB)):=fun f g =>
 match f,g with
 | .mk h,.mk b a c d i e=>(f82_l1 k b a c d e a 0 h b a c d i e ([]:LB) [([]:List (BA × Int))] 0)
def f82 (k:Nat):DProgram→DFunc→Option (Except Int (DFunc × LB)):=f82_b k
def f44_l1 (k:Nat) (all:LF):LF→Nat→Option (Except Int Unit)
 | [],_=>some (.ok ())
 | f :: rest,i=>(f1008056 k (all.take i) f).bind fun b=>(f58 k (!b) 21).bind fun q=>match q with
  | .error c=>some (.error c)
  | .ok _=>f44_l1 k all rest (i + 1)
def f44_l2:LF→Int
 | []=>20
 | .mk nm ps _ fl _ _ :: rest=>cond (!(seq nm ⟨#[109,97,105,110]⟩)) (f44_l2 rest) (cond fl 25 (cond (decide ((ps.length:Int) > 0)) 24 0))
def f44_l3 (k:Nat) (p:DProgram):LF→List DFunc→List LB→Option (Except Int (DProgram × List LB))
 | [],out,names=>some (.ok (.mk out,names))
 | f :: rest,out,names=>(f82 k p f).bind fun q=>match q with
  | .error c=>some (.error c)
  | .ok (g,l)=>f44_l3 k p rest (out ++ [g]) (names ++ [l])
def f44 (k:Nat):DProgram→Option (Except Int (DProgram × (List LB))):=fun a=>match a with
 | .mk fs=>(f78 k (.mk fs) false).bind fun ok=>(f58 k ok 2).bind fun q=>match q with
  | .error c=>some (.error c)
  | .ok _=>(f44_l1 k fs fs 0).bind fun q=>match q with
   | .error c=>some (.error c)
   | .ok _=>(f58 k (decide (f44_l2 fs=0)) (f44_l2 fs)).bind fun q=>match q with
    | .error c=>some (.error c)
    | .ok _=>f44_l3 k (.mk fs) fs [] []
def f1004304_b (k:Nat):DProgram→DProgram→Option (Except Int (DProgram × DProgram)):=fun b c =>
 match b,c with
 | .mk a,.mk sA_0=>((f44 k (DProgram.mk a)).bind fun q_=>match q_ with | .error c_=>some (.error c_) | .ok (.mk d,e)=>(some (.ok ((DProgram.mk a),(DProgram.mk d)))))
def f1004304 (k:Nat):DProgram→DProgram→Option (Except Int (DProgram × DProgram)):=f1004304_b k
def f1004220 (k:Nat):DProgram→DProgram→Option (DProgram × DProgram × Int):=fun a b=>match f1004304 k a b with
 | none=>none
 | some (.ok (y0,y1))=>some (y0,y1,0)
 | some (.error c)=>some (a,b,c)
def f15_b (k:Nat):DProgram→Option (DProgram × Int):=fun a =>
 match a with
 | .mk b=>((f1004220 k (DProgram.mk b) (DProgram.mk [])).bind fun q_=>match q_ with | (.mk e,.mk c,d)=>(some ((DProgram.mk c),d)))
def f15 (k:Nat):DProgram→Option (DProgram × Int):=f15_b k
def sampleP (nm:BA):DProgram:=.mk [.mk ⟨#[109,97,105,110]⟩ [] 0 false 0 [(.mk 1 ⟨#[120]⟩ 0 ⟨#[]⟩ 0 0 [(.mk 1 1 ⟨#[]⟩ 0 [])] [] [] [] []),(.mk 20 ⟨#[]⟩ 0 ⟨#[]⟩ 0 0 [(.mk 2 1 ⟨#[]⟩ 0 [])] [(.mk 1 nm 0 ⟨#[]⟩ 0 0 [(.mk 4 0 ⟨#[120]⟩ 0 [])] [] [] [] [])] [] [] []),(.mk 1 ⟨#[121]⟩ 0 ⟨#[]⟩ 0 0 [(.mk 1 2 ⟨#[]⟩ 0 [])] [] [] [] [])]]
def chk14:DProgram→Bool
 | .mk [.mk _ _ _ _ v [_,.mk _ _ _ _ _ _ _ [.mk _ _ i _ _ _ _ _ _ _ _] _ _ _,.mk _ _ j _ _ _ _ _ _ _ _]]=>v == 3 && i == 1 && j == 2
 | _=>false
def f14 (k:Nat):Option Bool:=(f15 k (sampleP ⟨#[121]⟩)).bind fun a=>(f15 k (sampleP ⟨#[120]⟩)).bind fun b =>
 match a,b with
 | (q,e),(_,e')=>cond (chk14 q && e == 0 && e' == 21) (some true) none
structure Fam48 where
 f48:LE→LE→Option Bool
 f87:DExpr→DExpr→Option Bool
def f48_l1 (k:Nat) (F:Fam48) (b:LE):LE→Nat→Option Bool
 | [],a=>(some true)
 | (.mk c d e f g) :: h,a=>((idxO b (a:Int)).bind fun q_=>match q_ with | .mk i j l m n=>((F.f87 (DExpr.mk c d e f g) (DExpr.mk i j l m n)).bind fun o=>(cond (!o) (some false) ((f48_l1 k F b h) (a + 1)))))
def f48_b (k:Nat) (F:Fam48):LE→LE→Option Bool:=fun a b=>(cond ((a.length:Int) != (b.length:Int)) (some false) (f48_l1 k F b a 0))
def f87_j1 (k:Nat) (F:Fam48) (a:Bool):Option Bool:=(some a)
def f87_b (k:Nat) (F:Fam48):DExpr→DExpr→Option Bool:=fun a b =>
 match a,b with
 | .mk c d e f g,.mk h i j l m=>(cond (c == h) (cond (d == i) (cond (seq e j) (cond (f == l) ((F.f48 g m).bind fun n=>(f87_j1 k F n)) (f87_j1 k F false)) (f87_j1 k F false)) (f87_j1 k F false)) (f87_j1 k F false))
def fam48 (k0:Nat):Nat→Fam48
 | 0=>{ f48:=fun _ _=>none,f87:=fun _ _=>none }
 | k + 1=>{ f48:=f48_b k0 (fam48 k0 k),f87:=f87_b k0 (fam48 k0 k) }
def f48 (k:Nat):LE→LE→Option Bool:=(fam48 k k).f48
def f87 (k:Nat):DExpr→DExpr→Option Bool:=(fam48 k k).f87
structure Fam21 where
 f21:LS→LS→Option Bool
def f21_j5 (k:Nat) (F:Fam21) (a:Nat) (b:Bool) (nx2:Nat→Option Bool):Option Bool:=(cond b (some false) (nx2 (a + 1)))
def f21_j4 (k:Nat) (F:Fam21) (a:Nat) (b:Int) (c:BA) (d:Int) (e:LE) (f:LS) (g:Int) (h:BA) (i:Int) (j:LE) (l:LS) (nx2:Nat→Option Bool):Option Bool:=(cond (b != g) (f21_j5 k F a true nx2) (cond (!seq c h) (f21_j5 k F a true nx2) (cond (d != i) (f21_j5 k F a true nx2) ((f48 k e j).bind fun m=>(cond (!m) (f21_j5 k F a true nx2) ((F.f21 f l).bind fun n=>(f21_j5 k F a (!n) nx2)))))))
def f21_l2 (k:Nat) (F:Fam21) (b:Nat) (c:LC) (nx1:Nat→Option Bool):LC→Nat→Option Bool
 | [],a=>(nx1 (b + 1))
 | (.mk d e f g h) :: i,a=>((idxO c (a:Int)).bind fun q_=>match q_ with | .mk j l m n o=>(f21_j4 k F a d e f g h j l m n o (f21_l2 k F b c nx1 i)))
def f21_j3 (k:Nat) (F:Fam21) (a:Nat) (b:LC) (c:LC) (d:Bool) (nx1:Nat→Option Bool):Option Bool:=(cond d (some false) (f21_l2 k F a c nx1 b 0))
def f21_j2 (k:Nat) (F:Fam21) (c:Nat) (d:LS) (e:LS) (f:LS) (a:LC) (g:LS) (h:LS) (i:LS) (b:LC) (j:Bool) (nx1:Nat→Option Bool):Option Bool:=(cond j (some false) ((F.f21 d g).bind fun l=>(cond (!l) (f21_j3 k F c a b true nx1) ((F.f21 e h).bind fun m=>(cond (!m) (f21_j3 k F c a b true nx1) ((F.f21 f i).bind fun n=>(cond (!n) (f21_j3 k F c a b true nx1) (f21_j3 k F c a b ((a.length:Int) != (b.length:Int)) nx1))))))))
def f21_j1 (k:Nat) (F:Fam21) (a:Nat) (j:Int) (l:BA) (m:Int) (n:BA) (o:Int) (p:Int) (q:LE) (b:LS) (c:LS) (d:LS) (e:LC) (r:Int) (s:BA) (t:Int) (u:BA) (v:Int) (w:Int) (x:LE) (f:LS) (g:LS) (h:LS) (i:LC) (nx1:Nat→Option Bool):Option Bool:=(cond (j != r) (f21_j2 k F a b c d e f g h i true nx1) (cond (!seq l s) (f21_j2 k F a b c d e f g h i true nx1) (cond (m != t) (f21_j2 k F a b c d e f g h i true nx1) (cond (!seq n u) (f21_j2 k F a b c d e f g h i true nx1) (cond (o != v) (f21_j2 k F a b c d e f g h i true nx1) (cond (p != w) (f21_j2 k F a b c d e f g h i true nx1) ((f48 k q x).bind fun y=>(f21_j2 k F a b c d e f g h i (!y) nx1))))))))
def f21_l1 (k:Nat) (F:Fam21) (b:LS):LS→Nat→Option Bool
 | [],a=>(some true)
 | (.mk c d e f g h i j l m n) :: o,a=>((idxO b (a:Int)).bind fun q_=>match q_ with | .mk p q r s t u v w x y z=>(f21_j1 k F a c d e f g h i j l m n p q r s t u v w x y z (f21_l1 k F b o)))
def f21_b (k:Nat) (F:Fam21):LS→LS→Option Bool:=fun a b=>(cond ((a.length:Int) != (b.length:Int)) (some false) (f21_l1 k F b a 0))
def fam21 (k0:Nat):Nat→Fam21
 | 0=>{ f21:=fun _ _=>none }
 | k + 1=>{ f21:=f21_b k0 (fam21 k0 k) }
def f21 (k:Nat):LS→LS→Option Bool:=(fam21 k k).f21
def f17_l2 (k:Nat) (b:Nat) (c:LP) (nx1:Nat→Option Bool):LP→Nat→Option Bool
 | [],a=>(nx1 (b + 1))
 | (.mk d e) :: f,a=>((idxO c (a:Int)).bind fun q_=>match q_ with | .mk g h=>(cond (!(((seq d g && e == h)) == true)) (some false) ((f17_l2 k b c nx1 f) (a + 1))))
def f17_j2 (k:Nat) (a:Nat) (b:LP) (c:LP) (d:Bool) (nx1:Nat→Option Bool):Option Bool:=(cond d (some false) (f17_l2 k a c nx1 b 0))
def f17_j1 (k:Nat) (c:Nat) (d:BA) (a:LP) (e:Int) (f:Bool) (g:Int) (h:LS) (i:BA) (b:LP) (j:Int) (l:Bool) (m:Int) (n:LS) (nx1:Nat→Option Bool):Option Bool:=(cond (!seq d i) (f17_j2 k c a b true nx1) (cond ((a.length:Int) != (b.length:Int)) (f17_j2 k c a b true nx1) (cond (e != j) (f17_j2 k c a b true nx1) (cond (!(f == l)) (f17_j2 k c a b true nx1) (cond (g != m) (f17_j2 k c a b true nx1) ((f21 k h n).bind fun o=>(f17_j2 k c a b (!o) nx1)))))))
def f17_l1 (k:Nat) (b:LF):LF→Nat→Option Bool
 | [],a=>(some true)
 | (.mk c d e f g h) :: i,a=>((idxO b (a:Int)).bind fun q_=>match q_ with | .mk j l m n o p=>(f17_j1 k a c d e f g h j l m n o p (f17_l1 k b i)))
def f17_b (k:Nat):DProgram→DProgram→Option Bool:=fun c d =>
 match c,d with
 | .mk a,.mk b=>(cond ((a.length:Int) != (b.length:Int)) (some false) (f17_l1 k b a 0))
def f17 (k:Nat):DProgram→DProgram→Option Bool:=f17_b k
def f18_b (k:Nat):Int→Int→Option Int:=fun b a=>(guardB (decide (¬ (IntKind.u64.wrap a)=0)) (some (w64 ((IntKind.u64.wrap b).tmod (IntKind.u64.wrap a)))))
def f18 (k:Nat):Int→Int→Option Int:=f18_b k
def f1005707_b (k:Nat):DFunc→BA→Option Bool:=fun a b =>
 match a,b with
 | .mk c d e f g h,s=>(some (seq c s))
def f1005707 (k:Nat):DFunc→BA→Option Bool:=f1005707_b k
def f1005676_l1 (k:Nat) (s:BA):LF→Nat→Option Int
 | [],a=>(some (-1))
 | (.mk b c d e f g) :: h,a=>((f1005707 k (DFunc.mk b c d e f g) s).bind fun i=>(cond i (some (a:Int)) ((f1005676_l1 k s h) (a + 1))))
def f1005676_b (k:Nat):LF→BA→Option Int:=fun a s=>(f1005676_l1 k s a 0)
def f1005676 (k:Nat):LF→BA→Option Int:=f1005676_b k
def f129_b (k:Nat):DExpr→Option Int:=fun a =>
 match a with
 | .mk b c d e f=>(some 0)
def f129 (k:Nat):DExpr→Option Int:=f129_b k
structure Fam1013115 where
 f1013115:LE→Option LE
 f1014215:DExpr→Option DExpr
def f1013115_l1 (k:Nat) (F:Fam1013115)  : LE→Nat→LE→Option LE
 | [],b,a=>(some a)
 | (.mk c d e f g) :: h,b,a=>((F.f1014215 (DExpr.mk c d e f g)).bind fun q_=>match q_ with | .mk i j l m n=>(guardB (decide ((a.length + 1) * 64 ≤ 140737488355328)) ((f1013115_l1 k F h) (b + 1) (a ++ [(DExpr.mk i j l m n)]))))
def f1013115_b (k:Nat) (F:Fam1013115):LE→Option LE:=fun a=>(f1013115_l1 k F a 0 ([]:LE))
def f1014215_b (k:Nat) (F:Fam1013115):DExpr→Option DExpr:=fun e =>
 match e with
 | .mk a b c f g=>((F.f1013115 g).bind fun d=>((f129 k (DExpr.mk a b c f d)).bind fun h=>(some (DExpr.mk a b c h d))))
def fam1013115 (k0:Nat):Nat→Fam1013115
 | 0=>{ f1013115:=fun _=>none,f1014215:=fun _=>none }
 | k + 1=>{ f1013115:=f1013115_b k0 (fam1013115 k0 k),f1014215:=f1014215_b k0 (fam1013115 k0 k) }
def f1013115 (k:Nat):LE→Option LE:=(fam1013115 k k).f1013115
def f1014215 (k:Nat):DExpr→Option DExpr:=(fam1013115 k k).f1014215
def f130_b (k:Nat):DExpr→Option Int:=fun a =>
 match a with
 | .mk c d e b f=>(some b)
def f130 (k:Nat):DExpr→Option Int:=f130_b k
structure Fam1013118 where
 f1013118:LE→Option LE
 f1014218:DExpr→Option DExpr
def f1013118_l1 (k:Nat) (F:Fam1013118)  : LE→Nat→LE→Option LE
 | [],b,a=>(some a)
 | (.mk c d e f g) :: h,b,a=>((F.f1014218 (DExpr.mk c d e f g)).bind fun q_=>match q_ with | .mk i j l m n=>(guardB (decide ((a.length + 1) * 64 ≤ 140737488355328)) ((f1013118_l1 k F h) (b + 1) (a ++ [(DExpr.mk i j l m n)]))))
def f1013118_b (k:Nat) (F:Fam1013118):LE→Option LE:=fun a=>(f1013118_l1 k F a 0 ([]:LE))
def f1014218_b (k:Nat) (F:Fam1013118):DExpr→Option DExpr:=fun e =>
 match e with
 | .mk a b c f g=>((F.f1013118 g).bind fun d=>((f130 k (DExpr.mk a b c f d)).bind fun h=>(some (DExpr.mk a b c h d))))
def fam1013118 (k0:Nat):Nat→Fam1013118
 | 0=>{ f1013118:=fun _=>none,f1014218:=fun _=>none }
 | k + 1=>{ f1013118:=f1013118_b k0 (fam1013118 k0 k),f1014218:=f1014218_b k0 (fam1013118 k0 k) }
def f1013118 (k:Nat):LE→Option LE:=(fam1013118 k k).f1013118
def f1014218 (k:Nat):DExpr→Option DExpr:=(fam1013118 k k).f1014218
structure Fam108 where
 f108:LS→Bool→Option LS
def f108_j2 (k:Nat) (F:Fam108) (b:Bool) (a:LC) (c:Nat) (d:Int) (e:BA) (f:LE) (g:LS) (h:Int) (nx2:Nat→LC→Option LS):Option LS:=((f1013118 k f).bind fun i=>((F.f108 g b).bind fun j=>(guardB (decide ((a.length + 1) * 80 ≤ 140737488355328)) (nx2 (c + 1) (a ++ [(DCase.mk d e h i j)])))))
def f108_l2 (k:Nat) (F:Fam108) (a:Bool) (b:LS) (d:Nat) (e:Int) (f:BA) (g:BA) (h:Int) (i:Int) (j:Int) (l:LE) (m:LS) (n:LS) (o:LS) (nx1:Nat→LS→Option LS):LC→Nat→LC→Option LS
 | [],p,c=>(guardB (decide ((b.length + 1) * 184 ≤ 140737488355328)) (nx1 (d + 1) (b ++ [(DStmt.mk e f i g j h l m n o c)])))
 | (.mk q r v s t) :: u,p,c=>(cond (!a) (f108_j2 k F a c p q r s t 0 (f108_l2 k F a b d e f g h i j l m n o nx1 u)) (f108_j2 k F a c p q r s t v (f108_l2 k F a b d e f g h i j l m n o nx1 u)))
def f108_j1 (k:Nat) (F:Fam108) (a:Bool) (b:LS) (c:Nat) (d:Int) (e:BA) (f:BA) (g:Int) (h:LE) (i:LS) (j:LS) (l:LS) (m:LC) (n:Int) (o:Int) (nx1:Nat→LS→Option LS):Option LS:=((f1013118 k h).bind fun p=>((F.f108 i a).bind fun q=>((F.f108 j a).bind fun r=>((F.f108 l a).bind fun s=>(f108_l2 k F a b c d e f g n o p q r s nx1 m 0 ([]:LC))))))
def f108_l1 (k:Nat) (F:Fam108) (a:Bool):LS→Nat→LS→Option LS
 | [],c,b=>(some b)
 | (.mk d e o f p g h i j l m) :: n,c,b=>(cond (!a) (f108_j1 k F a b c d e f g h i j l m 0 0 (f108_l1 k F a n)) (f108_j1 k F a b c d e f g h i j l m o p (f108_l1 k F a n)))
def f108_j4 (k:Nat) (F:Fam108) (b:Bool) (a:LC) (c:Nat) (d:Int) (e:BA) (f:LE) (g:LS) (h:Int) (nx4:Nat→LC→Option LS):Option LS:=((f1013115 k f).bind fun i=>((F.f108 g b).bind fun j=>(guardB (decide ((a.length + 1) * 80 ≤ 140737488355328)) (nx4 (c + 1) (a ++ [(DCase.mk d e h i j)])))))
def f108_l4 (k:Nat) (F:Fam108) (a:Bool) (b:LS) (d:Nat) (e:Int) (f:BA) (g:BA) (h:Int) (i:Int) (j:Int) (l:LE) (m:LS) (n:LS) (o:LS) (nx3:Nat→LS→Option LS):LC→Nat→LC→Option LS
 | [],p,c=>(guardB (decide ((b.length + 1) * 184 ≤ 140737488355328)) (nx3 (d + 1) (b ++ [(DStmt.mk e f i g j h l m n o c)])))
 | (.mk q r v s t) :: u,p,c=>(cond (!a) (f108_j4 k F a c p q r s t 0 (f108_l4 k F a b d e f g h i j l m n o nx3 u)) (f108_j4 k F a c p q r s t v (f108_l4 k F a b d e f g h i j l m n o nx3 u)))
def f108_j3 (k:Nat) (F:Fam108) (a:Bool) (b:LS) (c:Nat) (d:Int) (e:BA) (f:BA) (g:Int) (h:LE) (i:LS) (j:LS) (l:LS) (m:LC) (n:Int) (o:Int) (nx3:Nat→LS→Option LS):Option LS:=((f1013115 k h).bind fun p=>((F.f108 i a).bind fun q=>((F.f108 j a).bind fun r=>((F.f108 l a).bind fun s=>(f108_l4 k F a b c d e f g n o p q r s nx3 m 0 ([]:LC))))))
def f108_l3 (k:Nat) (F:Fam108) (a:Bool):LS→Nat→LS→Option LS
 | [],c,b=>(some b)
 | (.mk d e o f p g h i j l m) :: n,c,b=>(cond (!a) (f108_j3 k F a b c d e f g h i j l m 0 0 (f108_l3 k F a n)) (f108_j3 k F a b c d e f g h i j l m o p (f108_l3 k F a n)))
def f108_b (k:Nat) (F:Fam108):LS→Bool→Option LS:=fun b a=>(cond a (f108_l1 k F a b 0 ([]:LS)) (f108_l3 k F a b 0 ([]:LS)))
def fam108 (k0:Nat):Nat→Fam108
 | 0=>{ f108:=fun _ _=>none }
 | k + 1=>{ f108:=f108_b k0 (fam108 k0 k) }
def f108 (k:Nat):LS→Bool→Option LS:=(fam108 k k).f108
def f88_j1 (k:Nat) (b:Bool) (a:LF) (c:Nat) (d:BA) (e:LP) (f:Int) (g:Bool) (h:LS) (i:Int) (nx1:Nat→LF→Option DProgram):Option DProgram:=((f104 k e).bind fun j=>((f108 k h b).bind fun l=>(guardB (decide ((a.length + 1) * 88 ≤ 140737488355328)) (nx1 (c + 1) (a ++ [(DFunc.mk d j f g i l)])))))
def f88_l1 (k:Nat) (a:Bool):LF→Nat→LF→Option DProgram
 | [],c,b=>(some (DProgram.mk b))
 | (.mk d e f g j h) :: i,c,b=>(cond (!a) (f88_j1 k a b c d e f g h 0 (f88_l1 k a i)) (f88_j1 k a b c d e f g h j (f88_l1 k a i)))
def f88_b (k:Nat):DProgram→Bool→Option DProgram:=fun b a =>
 match b,a with
 | .mk c,a=>(f88_l1 k a c 0 ([]:LF))
def f88 (k:Nat):DProgram→Bool→Option DProgram:=f88_b k
def f50_b (k:Nat):DProgram→Option (Except Int DProgram):=fun b =>
 match b with
 | .mk a=>((f78 k (DProgram.mk a) true).bind fun c=>((f58 k c 2).bind fun q_=>match q_ with | .error c_=>some (.error c_) | .ok _=>((f88 k (DProgram.mk a) false).bind fun q_=>match q_ with | .mk d=>(some (.ok (DProgram.mk d))))))
def f50 (k:Nat):DProgram→Option (Except Int DProgram):=f50_b k
def f1005554_b (k:Nat):DProgram→BA→Int→Option (Except Int (DProgram × BA × Int)):=fun d e f =>
 match d,e,f with
 | .mk a,sA,sB=>((f50 k (DProgram.mk a)).bind fun q_=>match q_ with | .error c_=>some (.error c_) | .ok (.mk b)=>((f44 k (DProgram.mk b)).bind fun q_=>match q_ with | .error c_=>some (.error c_) | .ok (.mk g,h)=>((f1005676 k b sA).bind fun c=>((f58 k (decide (c ≥ 0)) 6).bind fun q_=>match q_ with | .error c_=>some (.error c_) | .ok _=>(some (.ok ((DProgram.mk a),sA,c)))))))
def f1005554 (k:Nat):DProgram→BA→Int→Option (Except Int (DProgram × BA × Int)):=f1005554_b k
def f1004292 (k:Nat):DProgram→BA→Int→Option (DProgram × BA × Int × Int):=fun a b d=>match f1005554 k a b d with
 | none=>none
 | some (.ok (y0,y1,y2))=>some (y0,y1,y2,0)
 | some (.error c)=>some (a,b,d,c)
def f30_b (k:Nat):DProgram→BA→Option (Int × Int):=fun b a =>
 match b,a with
 | .mk c,a=>((f1004292 k (DProgram.mk c) a 0).bind fun q_=>match q_ with | (.mk f,g,d,e)=>(some (d,e)))
def f30 (k:Nat):DProgram→BA→Option (Int × Int):=f30_b k
def f45_l1 (k:Nat) (b:BA):LF→Nat→Option Int
 | [],a=>(some (-1))
 | (.mk c e f g h i) :: d,a=>(cond (seq c b) (some (a:Int)) ((f45_l1 k b d) (a + 1)))
def f45_b (k:Nat):LF→BA→Option Int:=fun a b=>(f45_l1 k b a 0)
def f45 (k:Nat):LF→BA→Option Int:=f45_b k
def f31_b (k:Nat):DProgram→BA→Option Int:=fun b a =>
 match b,a with
 | .mk c,a=>((f45 k c a).bind fun d=>(some d))
def f31 (k:Nat):DProgram→BA→Option Int:=f31_b k
def f66_j1 (k:Nat) (a:Bool):Option Bool:=(some a)
def f66_b (k:Nat):Int→Option Bool:=fun a=>(cond (decide (a ≥ 97)) (f66_j1 k (decide (a ≤ 122))) (f66_j1 k false))
def f66 (k:Nat):Int→Option Bool:=f66_b k
def f67_j1 (k:Nat) (a:Bool):Option Bool:=(some a)
def f67_b (k:Nat):Int→Option Bool:=fun a=>(cond (decide (a ≥ 48)) (f67_j1 k (decide (a ≤ 57))) (f67_j1 k false))
def f67 (k:Nat):Int→Option Bool:=f67_b k
def f97_b (k:Nat):Option LB:=(some [⟨#[97,102,116,101,114]⟩,⟨#[97,119,97,105,116]⟩,⟨#[98,111,111,108]⟩,⟨#[98,114,101,97,107]⟩,⟨#[98,117,102,102,101,114]⟩,⟨#[99,97,110,99,101,108]⟩,⟨#[99,97,116,99,104]⟩,⟨#[99,104,97,110]⟩,⟨#[99,108,111,115,101]⟩,⟨#[99,111,110,116,105,110,117,101]⟩,⟨#[100,114,111,112]⟩,⟨#[101,97,99,104]⟩,⟨#[101,108,115,101]⟩,⟨#[101,109,105,116]⟩,⟨#[102,97,108,115,101]⟩,⟨#[102,105,110,97,108,108,121]⟩,⟨#[102,108,111,119]⟩,⟨#[102,110]⟩,⟨#[102,114,111,109]⟩,⟨#[104,111,108,100]⟩,⟨#[105,102]⟩,⟨#[105,110,116]⟩,⟨#[108,101,116]⟩,⟨#[108,111,99,107]⟩,⟨#[110,101,119]⟩,⟨#[110,111,119]⟩,⟨#[111,108,100]⟩,⟨#[112,114,111,100,117,99,101]⟩,⟨#[114,101,99,101,105,118,101]⟩,⟨#[114,101,116,117,114,110]⟩,⟨#[115,99,111,112,101]⟩,⟨#[115,101,108,101,99,116]⟩,⟨#[115,101,110,100]⟩,⟨#[115,104,105,101,108,100]⟩,⟨#[115,108,101,101,112]⟩,⟨#[115,112,97,119,110]⟩,⟨#[115,117,112,101,114,118,105,115,101,100]⟩,⟨#[116,97,115,107]⟩,⟨#[116,101,120,116]⟩,⟨#[116,104,114,111,119]⟩,⟨#[116,114,117,101]⟩,⟨#[116,114,121]⟩,⟨#[117,115,101]⟩,⟨#[119,104,105,108,101]⟩,⟨#[119,105,116,104,105,110]⟩,⟨#[121,105,101,108,100]⟩])
def f97 (k:Nat):Option LB:=f97_b k
def f68_l1 (k:Nat) (a:BA):LB→Nat→Option Bool
 | [],b=>(some false)
 | c :: d,b=>(cond (seq c a) (some true) ((f68_l1 k a d) (b + 1)))
def f68_b (k:Nat):BA→Option Bool:=fun a=>((f97 k ).bind fun b=>(f68_l1 k a b 0))
def f68 (k:Nat):BA→Option Bool:=f68_b k
def f34_j1 (k:Nat) (a:Bool):Option Bool:=(some a)
def f34_j2 (k:Nat) (a:Nat) (b:Bool) (nx1:Nat→Option Bool):Option Bool:=(cond b (some false) (nx1 (a + 1)))
def f34_l1 (k:Nat) (a:BA):List UInt8→Nat→Option Bool
 | [],b=>(cond (decide ((a.size:Int) ≥ 1)) (cond (decide ((a.size:Int) ≤ 12)) ((f68 k a).bind fun e=>(f34_j1 k (!e))) (f34_j1 k false)) (f34_j1 k false))
 | d :: c,b=>((f66 k (d.toNat:Int)).bind fun f=>(cond (!f) (cond ((b:Int) == 0) (f34_j2 k b true (f34_l1 k a c)) ((f67 k (d.toNat:Int)).bind fun g=>(f34_j2 k b (!g) (f34_l1 k a c)))) (f34_j2 k b false (f34_l1 k a c))))
def f34_b (k:Nat):BA→Option Bool:=fun a=>(f34_l1 k a a.data.toList 0)
def f34 (k:Nat):BA→Option Bool:=f34_b k
def f59_b (k:Nat):DSize→Bool→Option DSize:=fun d a =>
 match d,a with
 | .mk b c e,a=>(cond (!a) (some (DSize.mk b c true)) (some (DSize.mk b c e)))
def f59 (k:Nat):DSize→Bool→Option DSize:=f59_b k
def f60_j1 (k:Nat) (a:Int) (b:Int) (d:Bool) (c:Int) (e:Bool):Option DSize:=(cond e (some (DSize.mk (w64 (a + 1)) (imax b c) true)) (some (DSize.mk (w64 (a + 1)) (imax b c) d)))
def f60_b (k:Nat):DSize→Int→Option DSize:=fun e a =>
 match e,a with
 | .mk b c d,a=>(cond (decide ((w64 (b + 1)) > 600)) (f60_j1 k b c d a true) (f60_j1 k b c d a (decide (a > 16))))
def f60 (k:Nat):DSize→Int→Option DSize:=f60_b k
def f109_j5 (k:Nat) (a:Int) (b:Bool):Option (DShape × Bool):=(cond b (some ((DShape.mk 1 1 0 false true 0),true)) (cond (a == 22) (some ((DShape.mk 0 1 0 false true 1),true)) (cond (a == 23) (some ((DShape.mk 0 0 0 false true 0),true)) (cond (a == 24) (some ((DShape.mk 0 0 2 false true 3),true)) (cond (a == 25) (some ((DShape.mk 1 1 1 false true 0),true)) (cond (a == 28) (some ((DShape.mk 0 600 1 true true 66),true)) (some ((DShape.mk 0 0 0 false false 0),false))))))))
def f109_j4 (k:Nat) (a:Int) (b:Bool):Option (DShape × Bool):=(cond b (some ((DShape.mk 0 0 0 false false 0),true)) (cond (a == 17) (some ((DShape.mk 0 1 0 false false 0),true)) (cond (a == 20) (some ((DShape.mk 1 1 0 false true 1),true)) (cond (a == 21) (f109_j5 k a (a == 21)) (f109_j5 k a (a == 26))))))
def f109_j3 (k:Nat) (a:Int) (b:Bool):Option (DShape × Bool):=(cond b (some ((DShape.mk 1 1 0 false false 0),true)) (cond (a == 13) (f109_j4 k a (a == 13)) (cond (a == 18) (f109_j4 k a (a == 18)) (cond (a == 19) (f109_j4 k a (a == 19)) (f109_j4 k a (a == 27))))))
def f109_j2 (k:Nat) (a:Int) (b:Bool):Option (DShape × Bool):=(cond b (some ((DShape.mk 0 600 2 true false 0),true)) (cond (a == 5) (some ((DShape.mk 1 1 2 false false 0),true)) (cond (a == 6) (some ((DShape.mk 1 1 2 false false 1),true)) (cond (a == 10) (some ((DShape.mk 2 2 0 false false 0),true)) (cond (a == 11) (f109_j3 k a (a == 11)) (cond (a == 12) (f109_j3 k a (a == 12)) (cond (a == 14) (f109_j3 k a (a == 14)) (cond (a == 15) (f109_j3 k a (a == 15)) (cond (a == 16) (f109_j3 k a (a == 16)) (f109_j3 k a (a == 29)))))))))))
def f109_j1 (k:Nat) (a:Int) (b:Bool):Option (DShape × Bool):=(cond b (some ((DShape.mk 1 1 1 false false 0),true)) (cond (a == 7) (some ((DShape.mk 1 1 1 false false 2),true)) (cond (a == 9) (some ((DShape.mk 0 0 1 false false 0),true)) (cond (a == 3) (f109_j2 k a (a == 3)) (f109_j2 k a (a == 4))))))
def f109_b (k:Nat):Int→Option (DShape × Bool):=fun a=>(cond (a == 1) (f109_j1 k a (a == 1)) (cond (a == 2) (f109_j1 k a (a == 2)) (f109_j1 k a (a == 8))))
def f109 (k:Nat):Int→Option (DShape × Bool):=f109_b k
def f132_j1 (k:Nat) (a:Nat) (b:Bool) (nx1:Nat→Option Bool):Option Bool:=(cond b (some false) (nx1 (a + 1)))
def f132_l1 (k:Nat) (a:BA):List UInt8→Nat→Option Bool
 | [],b=>(some (decide ((a.size:Int) ≤ 60)))
 | c :: d,b=>(cond (decide ((c.toNat:Int) < 32)) (f132_j1 k b true (f132_l1 k a d)) (f132_j1 k b (decide ((c.toNat:Int) > 126)) (f132_l1 k a d)))
def f132_b (k:Nat):BA→Option Bool:=fun a=>(f132_l1 k a a.data.toList 0)
def f132 (k:Nat):BA→Option Bool:=f132_b k
structure Fam110 where
 f110:DSize→DExpr→Int→Bool→Option DSize
def f110_l1 (k:Nat) (F:Fam110) (d:Int) (e:Bool):LE→Nat→Int→Int→Bool→Option DSize
 | [],f,b,c,a=>(some (DSize.mk b c a))
 | (.mk g h i j l) :: m,f,b,c,a=>(cond (!a) ((F.f110 (DSize.mk b c a) (DExpr.mk g h i j l) (w64 (d + 1)) e).bind fun q_=>match q_ with | .mk n o p=>((f110_l1 k F d e m) (f + 1) n o p)) (some (DSize.mk b c a)))
def f110_j2 (k:Nat) (F:Fam110) (a:LE) (b:Int) (c:Bool) (d:Int) (e:Int) (f:Bool) (g:Int):Option DSize:=((f59 k (DSize.mk d e f) ((a.length:Int) == g)).bind fun q_=>match q_ with | .mk h i j=>(f110_l1 k F b c a 0 h i j))
def f110_j3 (k:Nat) (F:Fam110) (g:Int) (h:Int) (i:BA) (a:LE) (b:Int) (c:Bool) (d:Int) (e:Int) (f:Bool) (j:Bool):Option DSize:=(cond j (cond (h == 0) ((f59 k (DSize.mk d e f) (seq i ⟨#[]⟩)).bind fun q_=>match q_ with | .mk l m n=>(f110_j2 k F a b c l m n 1)) ((f59 k (DSize.mk d e f) false).bind fun q_=>match q_ with | .mk o p q=>(f110_j2 k F a b c o p q 1))) (cond (decide (g ≥ 7)) (cond (decide (g ≤ 19)) (cond (h == 0) ((f59 k (DSize.mk d e f) (seq i ⟨#[]⟩)).bind fun q_=>match q_ with | .mk r s t=>(f110_j2 k F a b c r s t 2)) ((f59 k (DSize.mk d e f) false).bind fun q_=>match q_ with | .mk u v w=>(f110_j2 k F a b c u v w 2))) ((f59 k (DSize.mk d e f) false).bind fun q_=>match q_ with | .mk x y z=>(f110_j2 k F a b c x y z 2))) ((f59 k (DSize.mk d e f) false).bind fun q_=>match q_ with | .mk A B C=>(f110_j2 k F a b c A B C 2))))
def f110_j1 (k:Nat) (F:Fam110) (g:Int) (h:Int) (i:BA) (a:LE) (b:Int) (c:Bool) (d:Int) (e:Int) (f:Bool):Option DSize:=(cond (g == 1) (cond (decide (h ≥ 0)) (cond (decide (h ≤ 1000000000000)) ((f59 k (DSize.mk d e f) (seq i ⟨#[]⟩)).bind fun q_=>match q_ with | .mk j l m=>(f110_j2 k F a b c j l m 0)) ((f59 k (DSize.mk d e f) false).bind fun q_=>match q_ with | .mk n o p=>(f110_j2 k F a b c n o p 0))) ((f59 k (DSize.mk d e f) false).bind fun q_=>match q_ with | .mk q r s=>(f110_j2 k F a b c q r s 0))) (cond (g == 2) (cond (h == 0) ((f59 k (DSize.mk d e f) (seq i ⟨#[]⟩)).bind fun q_=>match q_ with | .mk t u v=>(f110_j2 k F a b c t u v 0)) (cond (h == 1) ((f59 k (DSize.mk d e f) (seq i ⟨#[]⟩)).bind fun q_=>match q_ with | .mk w x y=>(f110_j2 k F a b c w x y 0)) ((f59 k (DSize.mk d e f) false).bind fun q_=>match q_ with | .mk z A B=>(f110_j2 k F a b c z A B 0)))) (cond (g == 3) (cond (h == 0) ((f132 k i).bind fun C=>((f59 k (DSize.mk d e f) C).bind fun q_=>match q_ with | .mk D G I=>(f110_j2 k F a b c D G I 0))) ((f59 k (DSize.mk d e f) false).bind fun q_=>match q_ with | .mk J N O=>(f110_j2 k F a b c J N O 0))) (cond (g == 4) (cond (h == 0) ((f34 k i).bind fun S=>((f59 k (DSize.mk d e f) S).bind fun q_=>match q_ with | .mk U V W=>(f110_j2 k F a b c U V W 0))) ((f59 k (DSize.mk d e f) false).bind fun q_=>match q_ with | .mk X Y Z=>(f110_j2 k F a b c X Y Z 0))) (cond (g == 5) (f110_j3 k F g h i a b c d e f true) (f110_j3 k F g h i a b c d e f (g == 6)))))))
def f110_b (k:Nat) (F:Fam110):DSize→DExpr→Int→Bool→Option DSize:=fun n o a b =>
 match n,o,a,b with
 | .mk d e c,.mk f g h p i,a,b=>(cond c (some (DSize.mk d e c)) ((f60 k (DSize.mk d e c) a).bind fun q_=>match q_ with | .mk j l m=>(cond b ((f59 k (DSize.mk j l m) true).bind fun q_=>match q_ with | .mk q r s=>(f110_j1 k F f g h i a b q r s)) ((f59 k (DSize.mk j l m) (p == 0)).bind fun q_=>match q_ with | .mk t u v=>(f110_j1 k F f g h i a b t u v)))))
def fam110 (k0:Nat):Nat→Fam110
 | 0=>{ f110:=fun _ _ _ _=>none }
 | k + 1=>{ f110:=f110_b k0 (fam110 k0 k) }
def f110 (k:Nat):DSize→DExpr→Int→Bool→Option DSize:=(fam110 k k).f110
structure Fam61 where
 f61:DSize→LS→Int→Option DSize
 f90:DSize→DStmt→Int→Option DSize
 f111:DSize→DCase→Int→Option DSize
def f61_l1 (k:Nat) (F:Fam61) (d:Int):LS→Nat→Int→Int→Bool→Option DSize
 | [],e,b,c,a=>(some (DSize.mk b c a))
 | (.mk f g h i j l m n o p q) :: r,e,b,c,a=>(cond (!a) ((F.f90 (DSize.mk b c a) (DStmt.mk f g h i j l m n o p q) d).bind fun q_=>match q_ with | .mk s t u=>((f61_l1 k F d r) (e + 1) s t u)) (some (DSize.mk b c a)))
def f61_b (k:Nat) (F:Fam61):DSize→LS→Int→Option DSize:=fun c a b =>
 match c,a,b with
 | .mk d e f,a,b=>(f61_l1 k F b a 0 d e f)
def f90_j10 (k:Nat) (F:Fam61) (a:Nat) (b:Int) (c:Int) (d:Bool) (nx1:Nat→Int→Int→Bool→Option DSize):Option DSize:=(nx1 (a + 1) b c d)
def f90_l1 (k:Nat) (F:Fam61) (e:LC) (f:Int):LC→Nat→Int→Int→Bool→Option DSize
 | [],b,c,d,a=>(some (DSize.mk c d a))
 | (.mk g m n o p) :: h,b,c,d,a=>(cond (!a) ((F.f111 (DSize.mk c d a) (DCase.mk g m n o p) (w64 (f + 1))).bind fun q_=>match q_ with | .mk i j l=>(cond (g != 4) ((f59 k (DSize.mk i j l) true).bind fun q_=>match q_ with | .mk q r s=>(f90_j10 k F b q r s (f90_l1 k F e f h))) ((f59 k (DSize.mk i j l) ((b:Int) == (w64 ((e.length:Int) - 1)))).bind fun q_=>match q_ with | .mk t u v=>(f90_j10 k F b t u v (f90_l1 k F e f h))))) (some (DSize.mk c d a)))
def f90_j9 (k:Nat) (F:Fam61) (c:LS) (d:LS) (e:LS) (b:LC) (a:Int) (f:Int) (g:Int) (h:Bool):Option DSize:=((F.f61 (DSize.mk f g h) c (w64 (a + 1))).bind fun q_=>match q_ with | .mk i j l=>((F.f61 (DSize.mk i j l) d (w64 (a + 1))).bind fun q_=>match q_ with | .mk m n o=>((F.f61 (DSize.mk m n o) e (w64 (a + 1))).bind fun q_=>match q_ with | .mk p q r=>(f90_l1 k F b a b 0 p q r))))
def f90_l2 (k:Nat) (F:Fam61) (e:LS) (f:LS) (g:LS) (h:LC) (b:Int):LE→Nat→Int→Int→Bool→Option DSize
 | [],i,c,d,a=>(f90_j9 k F e f g h b c d a)
 | (.mk j l m n o) :: p,i,c,d,a=>(cond (!a) ((f110 k (DSize.mk c d a) (DExpr.mk j l m n o) (w64 (b + 1)) false).bind fun q_=>match q_ with | .mk q r s=>((f90_l2 k F e f g h b p) (i + 1) q r s)) (f90_j9 k F e f g h b c d a))
def f90_j8 (k:Nat) (F:Fam61) (a:LE) (b:LS) (c:LS) (d:LS) (e:LC) (f:Int) (g:Int) (h:Int) (i:Bool):Option DSize:=(f90_l2 k F b c d e f a 0 g h i)
def f90_j7 (k:Nat) (F:Fam61) (j:Int) (b:LE) (c:LS) (d:LS) (e:LS) (a:LC) (f:Int) (g:Int) (h:Int) (i:Bool):Option DSize:=(cond ((j == 27) == (decide ((a.length:Int) > 0))) ((f59 k (DSize.mk g h i) (decide ((a.length:Int) ≤ 4))).bind fun q_=>match q_ with | .mk l m n=>(f90_j8 k F b c d e a f l m n)) ((f59 k (DSize.mk g h i) false).bind fun q_=>match q_ with | .mk o p q=>(f90_j8 k F b c d e a f o p q)))
def f90_j6 (k:Nat) (F:Fam61) (a:Int) (m:BA) (l:Int) (b:LE) (c:LS) (d:LS) (e:LS) (f:LC) (g:Int) (h:Int) (i:Int) (j:Bool):Option DSize:=(cond (a == 6) (cond (l == 0) ((f59 k (DSize.mk h i j) true).bind fun q_=>match q_ with | .mk n o p=>(f90_j7 k F a b c d e f g n o p)) ((f59 k (DSize.mk h i j) (!seq m ⟨#[]⟩)).bind fun q_=>match q_ with | .mk q r s=>(f90_j7 k F a b c d e f g q r s))) (cond (a == 24) (cond (decide (l > 0)) ((f59 k (DSize.mk h i j) (((l.tmod 2) == 1) == (!seq m ⟨#[]⟩))).bind fun q_=>match q_ with | .mk t u v=>(f90_j7 k F a b c d e f g t u v)) ((f59 k (DSize.mk h i j) false).bind fun q_=>match q_ with | .mk w x y=>(f90_j7 k F a b c d e f g w x y))) (cond (a == 28) ((f59 k (DSize.mk h i j) (decide ((l.tmod 4) < 3))).bind fun q_=>match q_ with | .mk z A B=>(f90_j7 k F a b c d e f g z A B)) (f90_j7 k F a b c d e f g h i j))))
def f90_j5 (k:Nat) (F:Fam61) (a:Int) (d:BA) (b:Int) (e:LE) (f:LS) (g:LS) (c:LS) (h:LC) (i:Int) (j:Int) (l:Int) (m:Bool):Option DSize:=(cond ((c.length:Int) == 0) ((f59 k (DSize.mk j l m) true).bind fun q_=>match q_ with | .mk n o p=>(f90_j6 k F a d b e f g c h i n o p)) (cond (a == 24) ((f59 k (DSize.mk j l m) (decide (b ≥ 2))).bind fun q_=>match q_ with | .mk q r s=>(f90_j6 k F a d b e f g c h i q r s)) ((f59 k (DSize.mk j l m) false).bind fun q_=>match q_ with | .mk t u v=>(f90_j6 k F a d b e f g c h i t u v))))
def f90_j4 (k:Nat) (F:Fam61) (a:Int) (d:BA) (b:Int) (e:LE) (f:LS) (c:LS) (g:LS) (h:LC) (i:Int) (j:Int) (l:Int) (m:Bool):Option DSize:=(cond ((c.length:Int) == 0) ((f59 k (DSize.mk j l m) true).bind fun q_=>match q_ with | .mk n o p=>(f90_j5 k F a d b e f c g h i n o p)) (cond (a == 20) (cond (b == 1) ((f59 k (DSize.mk j l m) true).bind fun q_=>match q_ with | .mk q r s=>(f90_j5 k F a d b e f c g h i q r s)) (cond (a == 24) ((f59 k (DSize.mk j l m) ((b.tmod 2) == 1)).bind fun q_=>match q_ with | .mk t u v=>(f90_j5 k F a d b e f c g h i t u v)) ((f59 k (DSize.mk j l m) false).bind fun q_=>match q_ with | .mk w x y=>(f90_j5 k F a d b e f c g h i w x y)))) (cond (a == 24) ((f59 k (DSize.mk j l m) ((b.tmod 2) == 1)).bind fun q_=>match q_ with | .mk z A B=>(f90_j5 k F a d b e f c g h i z A B)) ((f59 k (DSize.mk j l m) false).bind fun q_=>match q_ with | .mk C D G=>(f90_j5 k F a d b e f c g h i C D G)))))
def f90_j3 (k:Nat) (F:Fam61) (b:Int) (c:BA) (d:Int) (e:LE) (a:LS) (f:LS) (g:LS) (h:LC) (i:Int) (n:Bool) (j:Int) (l:Int) (m:Bool):Option DSize:=(cond n ((f59 k (DSize.mk j l m) true).bind fun q_=>match q_ with | .mk o p q=>(f90_j4 k F b c d e a f g h i o p q)) ((f59 k (DSize.mk j l m) ((a.length:Int) == 0)).bind fun q_=>match q_ with | .mk r s t=>(f90_j4 k F b c d e a f g h i r s t)))
def f90_j2 (k:Nat) (F:Fam61) (a:Int) (b:BA) (o:BA) (c:Int) (d:LE) (e:LS) (f:LS) (g:LS) (h:LC) (i:Int) (p:Bool) (j:Bool) (l:Int) (m:Int) (n:Bool):Option DSize:=(cond p ((f34 k o).bind fun q=>(cond q ((f59 k (DSize.mk l m n) true).bind fun q_=>match q_ with | .mk r s t=>(f90_j3 k F a b c d e f g h i j r s t)) (cond (!p) ((f59 k (DSize.mk l m n) (seq o ⟨#[]⟩)).bind fun q_=>match q_ with | .mk u v w=>(f90_j3 k F a b c d e f g h i j u v w)) ((f59 k (DSize.mk l m n) false).bind fun q_=>match q_ with | .mk x y z=>(f90_j3 k F a b c d e f g h i j x y z))))) (cond (!p) ((f59 k (DSize.mk l m n) (seq o ⟨#[]⟩)).bind fun q_=>match q_ with | .mk A B C=>(f90_j3 k F a b c d e f g h i j A B C)) ((f59 k (DSize.mk l m n) false).bind fun q_=>match q_ with | .mk D G I=>(f90_j3 k F a b c d e f g h i j D G I))))
def f90_j1 (k:Nat) (F:Fam61) (b:Int) (a:BA) (c:BA) (d:Int) (e:LE) (f:LS) (g:LS) (h:LS) (i:LC) (j:Int) (q:Int) (l:Bool) (m:Bool) (n:Int) (o:Int) (p:Bool):Option DSize:=(cond (q == 0) (cond (seq a ⟨#[]⟩) ((f59 k (DSize.mk n o p) true).bind fun q_=>match q_ with | .mk r s t=>(f90_j2 k F b a c d e f g h i j l m r s t)) (cond (q == 1) ((f34 k a).bind fun u=>(cond u ((f59 k (DSize.mk n o p) true).bind fun q_=>match q_ with | .mk v w x=>(f90_j2 k F b a c d e f g h i j l m v w x)) (cond (q == 2) ((f34 k a).bind fun y=>((f59 k (DSize.mk n o p) y).bind fun q_=>match q_ with | .mk z A B=>(f90_j2 k F b a c d e f g h i j l m z A B))) ((f59 k (DSize.mk n o p) false).bind fun q_=>match q_ with | .mk C D G=>(f90_j2 k F b a c d e f g h i j l m C D G))))) (cond (q == 2) ((f34 k a).bind fun I=>((f59 k (DSize.mk n o p) I).bind fun q_=>match q_ with | .mk J N O=>(f90_j2 k F b a c d e f g h i j l m J N O))) ((f59 k (DSize.mk n o p) false).bind fun q_=>match q_ with | .mk S U V=>(f90_j2 k F b a c d e f g h i j l m S U V))))) (cond (q == 1) ((f34 k a).bind fun W=>(cond W ((f59 k (DSize.mk n o p) true).bind fun q_=>match q_ with | .mk X Y Z=>(f90_j2 k F b a c d e f g h i j l m X Y Z)) (cond (q == 2) (cond (seq a ⟨#[]⟩) ((f59 k (DSize.mk n o p) true).bind fun q_=>match q_ with | .mk ab ac ad=>(f90_j2 k F b a c d e f g h i j l m ab ac ad)) ((f34 k a).bind fun ae=>((f59 k (DSize.mk n o p) ae).bind fun q_=>match q_ with | .mk af ag ah=>(f90_j2 k F b a c d e f g h i j l m af ag ah)))) ((f59 k (DSize.mk n o p) false).bind fun q_=>match q_ with | .mk ai aj ak=>(f90_j2 k F b a c d e f g h i j l m ai aj ak))))) (cond (q == 2) (cond (seq a ⟨#[]⟩) ((f59 k (DSize.mk n o p) true).bind fun q_=>match q_ with | .mk al am an=>(f90_j2 k F b a c d e f g h i j l m al am an)) ((f34 k a).bind fun ao=>((f59 k (DSize.mk n o p) ao).bind fun q_=>match q_ with | .mk ap aq ar=>(f90_j2 k F b a c d e f g h i j l m ap aq ar)))) ((f59 k (DSize.mk n o p) false).bind fun q_=>match q_ with | .mk au av aw=>(f90_j2 k F b a c d e f g h i j l m au av aw)))))
def f90_b (k:Nat) (F:Fam61):DSize→DStmt→Int→Option DSize:=fun u v a =>
 match u,v,a with
 | .mk s t r,.mk d e w f x b c g h i j,a=>(cond r (some (DSize.mk s t r)) ((f60 k (DSize.mk s t r) a).bind fun q_=>match q_ with | .mk l m n=>((f109 k d).bind fun q_=>match q_ with | (.mk y z o p q A,B)=>(cond B (cond (decide ((c.length:Int) ≥ y)) (cond (decide ((c.length:Int) ≤ z)) (cond (decide (b ≥ 0)) (cond (decide (b ≤ A)) (cond (w == 0) ((f59 k (DSize.mk l m n) (x == 0)).bind fun q_=>match q_ with | .mk C D G=>(f90_j1 k F d e f b c g h i j a o p q C D G)) ((f59 k (DSize.mk l m n) false).bind fun q_=>match q_ with | .mk I J N=>(f90_j1 k F d e f b c g h i j a o p q I J N))) ((f59 k (DSize.mk l m n) false).bind fun q_=>match q_ with | .mk O S U=>(f90_j1 k F d e f b c g h i j a o p q O S U))) ((f59 k (DSize.mk l m n) false).bind fun q_=>match q_ with | .mk V W X=>(f90_j1 k F d e f b c g h i j a o p q V W X))) ((f59 k (DSize.mk l m n) false).bind fun q_=>match q_ with | .mk Y Z ab=>(f90_j1 k F d e f b c g h i j a o p q Y Z ab))) ((f59 k (DSize.mk l m n) false).bind fun q_=>match q_ with | .mk ac ad ae=>(f90_j1 k F d e f b c g h i j a o p q ac ad ae))) ((f59 k (DSize.mk l m n) false).bind fun q_=>match q_ with | .mk af ag ah=>(f90_j1 k F d e f b c g h i j a o p q af ag ah))))))
def f111_j4 (k:Nat) (F:Fam61) (a:LS) (b:Int) (c:Int) (d:Int) (e:Bool):Option DSize:=((F.f61 (DSize.mk c d e) a (w64 (b + 1))).bind fun q_=>match q_ with | .mk f g h=>(some (DSize.mk f g h)))
def f111_l1 (k:Nat) (F:Fam61) (e:LS) (b:Int):LE→Nat→Int→Int→Bool→Option DSize
 | [],f,c,d,a=>(f111_j4 k F e b c d a)
 | (.mk g h i j l) :: m,f,c,d,a=>(cond (!a) ((f110 k (DSize.mk c d a) (DExpr.mk g h i j l) (w64 (b + 1)) false).bind fun q_=>match q_ with | .mk n o p=>((f111_l1 k F e b m) (f + 1) n o p)) (f111_j4 k F e b c d a))
def f111_j3 (k:Nat) (F:Fam61) (a:LE) (b:LS) (c:Int) (d:Int) (e:Int) (f:Bool):Option DSize:=(f111_l1 k F b c a 0 d e f)
def f111_j2 (k:Nat) (F:Fam61) (g:Int) (h:BA) (a:LE) (b:LS) (c:Int) (d:Int) (e:Int) (f:Bool):Option DSize:=(cond (g == 1) ((f34 k h).bind fun i=>(cond i ((f59 k (DSize.mk d e f) true).bind fun q_=>match q_ with | .mk j l m=>(f111_j3 k F a b c j l m)) (cond (g != 1) ((f59 k (DSize.mk d e f) (seq h ⟨#[]⟩)).bind fun q_=>match q_ with | .mk n o p=>(f111_j3 k F a b c n o p)) ((f59 k (DSize.mk d e f) false).bind fun q_=>match q_ with | .mk q r s=>(f111_j3 k F a b c q r s))))) (cond (g != 1) ((f59 k (DSize.mk d e f) (seq h ⟨#[]⟩)).bind fun q_=>match q_ with | .mk t u v=>(f111_j3 k F a b c t u v)) ((f59 k (DSize.mk d e f) false).bind fun q_=>match q_ with | .mk w x y=>(f111_j3 k F a b c w x y))))
def f111_j1 (k:Nat) (F:Fam61) (a:Int) (c:BA) (i:Int) (b:LE) (d:LS) (e:Int) (f:Int) (g:Int) (h:Bool) (j:Int):Option DSize:=(cond (decide (a ≥ 1)) (cond (decide (a ≤ 4)) (cond ((b.length:Int) == j) ((f59 k (DSize.mk f g h) (i == 0)).bind fun q_=>match q_ with | .mk l m n=>(f111_j2 k F a c b d e l m n)) ((f59 k (DSize.mk f g h) false).bind fun q_=>match q_ with | .mk o p q=>(f111_j2 k F a c b d e o p q))) ((f59 k (DSize.mk f g h) false).bind fun q_=>match q_ with | .mk r s t=>(f111_j2 k F a c b d e r s t))) ((f59 k (DSize.mk f g h) false).bind fun q_=>match q_ with | .mk u v w=>(f111_j2 k F a c b d e u v w)))
def f111_b (k:Nat) (F:Fam61):DSize→DCase→Int→Option DSize:=fun j l a =>
 match j,l,a with
 | .mk m n o,.mk b c d e f,a=>((f60 k (DSize.mk m n o) a).bind fun q_=>match q_ with | .mk g h i=>(cond (b == 2) (f111_j1 k F b c d e f a g h i 2) (cond (b == 4) (f111_j1 k F b c d e f a g h i 0) (f111_j1 k F b c d e f a g h i 1))))
def fam61 (k0:Nat):Nat→Fam61
 | 0=>{ f61:=fun _ _ _=>none,f90:=fun _ _ _=>none,f111:=fun _ _ _=>none }
 | k + 1=>{ f61:=f61_b k0 (fam61 k0 k),f90:=f90_b k0 (fam61 k0 k),f111:=f111_b k0 (fam61 k0 k) }
def f61 (k:Nat):DSize→LS→Int→Option DSize:=(fam61 k k).f61
def f90 (k:Nat):DSize→DStmt→Int→Option DSize:=(fam61 k k).f90
def f111 (k:Nat):DSize→DCase→Int→Option DSize:=(fam61 k k).f111
def f32_j2 (k:Nat) (a:Int) (b:Int) (c:Bool):Option DSize:=(some (DSize.mk a b c))
def f32_j4 (k:Nat) (a:Nat) (b:LS) (c:Int) (d:Int) (e:Bool) (nx1:Nat→Int→Int→Bool→Option DSize):Option DSize:=((f61 k (DSize.mk c d e) b 1).bind fun q_=>match q_ with | .mk f g h=>(nx1 (a + 1) f g h))
def f32_j5 (k:Nat) (a:Nat) (b:Int) (c:Int) (d:Bool) (nx2:Nat→Int→Int→Bool→Option DSize):Option DSize:=(nx2 (a + 1) b c d)
def f32_l2 (k:Nat) (d:Nat) (e:LS) (nx1:Nat→Int→Int→Bool→Option DSize):LP→Nat→Int→Int→Bool→Option DSize
 | [],f,b,c,a=>(f32_j4 k d e b c a nx1)
 | (.mk i h) :: g,f,b,c,a=>(cond (!a) ((f34 k i).bind fun j=>(cond j (cond (decide (h ≥ 1)) ((f59 k (DSize.mk b c a) (decide (h ≤ 6))).bind fun q_=>match q_ with | .mk l m n=>(f32_j5 k f l m n (f32_l2 k d e nx1 g))) ((f59 k (DSize.mk b c a) false).bind fun q_=>match q_ with | .mk o p q=>(f32_j5 k f o p q (f32_l2 k d e nx1 g)))) ((f59 k (DSize.mk b c a) false).bind fun q_=>match q_ with | .mk r s t=>(f32_j5 k f r s t (f32_l2 k d e nx1 g))))) (f32_j4 k d e b c a nx1))
def f32_j3 (k:Nat) (a:Nat) (b:LP) (c:LS) (d:Int) (e:Int) (f:Bool) (nx1:Nat→Int→Int→Bool→Option DSize):Option DSize:=(f32_l2 k a c nx1 b 0 d e f)
def f32_l1 (k:Nat)  : LF→Nat→Int→Int→Bool→Option DSize
 | [],a,i,j,h=>(f32_j2 k i j h)
 | (.mk n b l o m c) :: d,a,i,j,h=>(cond (!h) ((f60 k (DSize.mk i j h) 0).bind fun q_=>match q_ with | .mk e f g=>((f34 k n).bind fun p=>(cond p (cond (decide ((b.length:Int) ≤ 4)) (cond (decide (l ≥ 0)) (cond (decide (l ≤ 6)) (cond (!o) ((f59 k (DSize.mk e f g) (m == 0)).bind fun q_=>match q_ with | .mk q r s=>(f32_j3 k a b c q r s (f32_l1 k d))) (cond (l == 0) ((f59 k (DSize.mk e f g) (m == 0)).bind fun q_=>match q_ with | .mk t u v=>(f32_j3 k a b c t u v (f32_l1 k d))) ((f59 k (DSize.mk e f g) false).bind fun q_=>match q_ with | .mk w x y=>(f32_j3 k a b c w x y (f32_l1 k d))))) ((f59 k (DSize.mk e f g) false).bind fun q_=>match q_ with | .mk z A B=>(f32_j3 k a b c z A B (f32_l1 k d)))) ((f59 k (DSize.mk e f g) false).bind fun q_=>match q_ with | .mk C D G=>(f32_j3 k a b c C D G (f32_l1 k d)))) ((f59 k (DSize.mk e f g) false).bind fun q_=>match q_ with | .mk I J N=>(f32_j3 k a b c I J N (f32_l1 k d)))) ((f59 k (DSize.mk e f g) false).bind fun q_=>match q_ with | .mk O S U=>(f32_j3 k a b c O S U (f32_l1 k d)))))) (f32_j2 k i j h))
def f32_j1 (k:Nat) (a:LF) (b:Int) (c:Int) (d:Bool):Option DSize:=(f32_l1 k a 0 b c d)
def f32_b (k:Nat):DProgram→Option DSize:=fun b =>
 match b with
 | .mk a=>(cond (decide ((a.length:Int) ≥ 1)) ((f59 k (DSize.mk 0 0 false) (decide ((a.length:Int) ≤ 16))).bind fun q_=>match q_ with | .mk c d e=>(f32_j1 k a c d e)) ((f59 k (DSize.mk 0 0 false) false).bind fun q_=>match q_ with | .mk f g h=>(f32_j1 k a f g h)))
def f32 (k:Nat):DProgram→Option DSize:=f32_b k
def f9_j5 (k:Nat) (a:Bool):Option Bool:=(some a)
def f9_j4 (k:Nat) (a:LF) (b:Int) (c:Int) (d:LF):Option Bool:=((f15 k (DProgram.mk d)).bind fun q_=>match q_ with | (.mk g,e)=>(cond (c == 0) (cond (b == (a.length:Int)) (cond (e == 21) ((f14 k ).bind fun f=>(f9_j5 k f)) (f9_j5 k false)) (f9_j5 k false)) (f9_j5 k false)))
def f9_j3 (k:Nat) (a:LF) (c:Int) (b:BA) (d:Bool):Option Bool:=(cond d (some false) ((f30 k (DProgram.mk ((([]:LF) ++ a) ++ [(DFunc.mk b [] 0 false 0 [])])) b).bind fun q_=>match q_ with | (e,f)=>(guardB (decide ((([]:LF).length + a.length) * 88 ≤ 140737488355328)) ((f18 k c (a.length:Int)).bind fun g=>((idxO a g).bind fun q_=>match q_ with | .mk h i j l m n=>(guardB (decide (((([]:LF) ++ a).length + 1) * 88 ≤ 140737488355328)) (f9_j4 k a e f ((([]:LF) ++ a) ++ [(DFunc.mk h [] 0 false 0 [])]))))))))
def f9_w1 (k:Nat) (a:LF) (d:Int) (c:LF):Nat→BA→Option Bool
 | 0,_=>none
 | j253 + 1,b=>((f31 k (DProgram.mk a) b).bind fun f=>(cond (decide (f ≥ 0)) (guardB (decide ((b ++ ⟨#[122]⟩).size ≤ 140737488355328)) ((f9_w1 k a d c j253) (b ++ ⟨#[122]⟩))) (cond (decide ((b.size:Int) > 12)) ((f14 k ).bind fun g=>(some g)) (guardB (decide ((([]:LF).length + a.length) * 88 ≤ 140737488355328)) (guardB (decide (((([]:LF) ++ a).length + 1) * 88 ≤ 140737488355328)) ((f15 k (DProgram.mk ((([]:LF) ++ a) ++ [(DFunc.mk b [] 0 false 0 [])]))).bind fun q_=>match q_ with | (.mk e,h)=>(cond (h != 0) (f9_j3 k a d b true) (cond ((e.length:Int) != (w64 ((c.length:Int) + 1))) (f9_j3 k a d b true) (guardB (decide (0 ≤ (c.length:Int)∧(c.length:Int) ≤ (e.length:Int))) ((f17 k (DProgram.mk (e.take (c.length:Int).toNat)) (DProgram.mk c)).bind fun i=>(f9_j3 k a d b (!i))))))))))))
def f9_j2 (k:Nat) (a:LF) (b:Int) (c:LF) (d:Bool):Option Bool:=(cond d ((f14 k ).bind fun e=>(some e)) (f9_w1 k a b c k ⟨#[122]⟩))
def f9_j1 (k:Nat) (a:LF) (b:Int) (d:Bool):Option Bool:=(cond d ((f14 k ).bind fun e=>(some e)) ((f15 k (DProgram.mk a)).bind fun q_=>match q_ with | (.mk c,f)=>(cond (f != 0) (f9_j2 k a b c true) ((f32 k (DProgram.mk a)).bind fun q_=>match q_ with | .mk g h i=>(f9_j2 k a b c (decide (g ≥ 600)))))))
def f9_b (k:Nat):DProgram→Int→Option Bool:=fun c a =>
 match c,a with
 | .mk b,a=>((f13 k (DProgram.mk b)).bind fun d=>(cond (!d) (f9_j1 k b a true) (f9_j1 k b a (decide ((b.length:Int) ≥ 16)))))
def f9 (k:Nat):DProgram→Int→Option Bool:=f9_b k
def f100_spec (X:LE→Int→Option Int):Prop:=∀ {K w a b c d e},X a d=some e→GK K→tE K b c a→ SR K K w w [] []→Calls Tryz.prog 100 #[sl b a c,iI d] w (Ret (fun v_ w_=>∃ K_,v_=iI e∧SR K K_ w w_ [] []))
def f76_spec (X:LS→Int→Option Int):Prop:=∀ {K w a b c d e},X a d=some e→GK K→tS K b c a→ SR K K w w [] []→Calls Tryz.prog 76 #[sl b a c,iI d] w (Ret (fun v_ w_=>∃ K_,v_=iI e∧SR K K_ w w_ [] []))
def f40_spec (X:DProgram→Option Bool):Prop:=∀ {K w a b c},X a=some c→GK K→RDProgram K a b→ SR K K w w [] []→Calls Tryz.prog 40 #[.agg b.toArray] w (Ret (fun v_ w_=>∃ K_,v_=.bool c∧SR K K_ w w_ [] []))
def f13_spec (X:DProgram→Option Bool):Prop:=∀ {K w a b c},X a=some c→GK K→RDProgram K a b→ SR K K w w [] []→Calls Tryz.prog 13 #[.agg b.toArray] w (Ret (fun v_ w_=>∃ K_,v_=.bool c∧SR K K_ w w_ [] []))
def f1008100_spec (X:DFunc→DFunc→Option Bool):Prop:=∀ {K w l m g bs a b d e f h i c j k n},X l (DFunc.mk a b f h i c)=some n→GK K→RDFunc K l m→a.size ≤ mB→tP K d e b→tS K j k c→ SR K K w w [.box bs g (vF a d b e f h i j c k).toArray 38] [.box bs g (vF a d b e f h i j c k).toArray 38]→Calls Tryz.prog 81 #[.agg m.toArray,.pointer (some ⟨g,0,none⟩)] w (Ret (fun v_ w_=>∃ K_,v_=.bool n∧SR K K_ w w_ [.box bs g (vF a d b e f h i j c k).toArray 38] [.box bs g (vF a d b e f h i j c k).toArray 38]))
def f1005656_spec (X:LF→DFunc→Option Int):Prop:=∀ {K w l m n g bs a b d e f h i c j k o},X l (DFunc.mk a b f h i c)=some o→GK K→tF K m n l→a.size ≤ mB→tP K d e b→tS K j k c→ SR K K w w [.box bs g (vF a d b e f h i j c k).toArray 38] [.box bs g (vF a d b e f h i j c k).toArray 38]→Calls Tryz.prog 56 #[sl m l n,.func (.func 81) #[] #[.pointer (some ⟨g,0,none⟩)]] w (Ret (fun v_ w_=>∃ K_,v_=iI o∧SR K K_ w w_ [.box bs g (vF a d b e f h i j c k).toArray 38] [.box bs g (vF a d b e f h i j c k).toArray 38]))
def f1008056_spec (X:LF→DFunc→Option Bool):Prop:=∀ {K w l m n g bs a b d e f h i c j k o},X l (DFunc.mk a b f h i c)=some o→GK K→tF K m n l→a.size ≤ mB→tP K d e b→tS K j k c→ SR K K w w [.box bs g (vF a d b e f h i j c k).toArray 38] [.box bs g (vF a d b e f h i j c k).toArray 38]→Calls Tryz.prog 80 #[sl m l n,.func (.func 81) #[] #[.pointer (some ⟨g,0,none⟩)]] w (Ret (fun v_ w_=>∃ K_,v_=.bool o∧SR K K_ w w_ [.box bs g (vF a d b e f h i j c k).toArray 38] [.box bs g (vF a d b e f h i j c k).toArray 38]))
def f58_spec (X:Bool→Int→Option (Except Int Unit)):Prop:=∀ {K w a b res_},X a b=some res_→GK K→ SR K K w w [] []→Calls Tryz.prog 58 #[.bool a,iI b] w (RetP (fun v_ w_=>∃ K_,res_=.ok ()∧v_=.tuple #[]∧SR K K_ w w_ [] []) (fun v_ w_=>∃ c_ K_,res_=.error c_∧v_=.iface 109 (.agg #[iI c_])∧SR K K_ w w_ [] []))
def f116_spec (X:Int→Int→Int→Option Bool):Prop:=∀ {K w a b c d},X a b c=some d→GK K→ SR K K w w [] []→Calls Tryz.prog 116 #[iI a,iI b,iI c] w (Ret (fun v_ w_=>∃ K_,v_=.bool d∧SR K K_ w w_ [] []))
def f117_spec (X:Dcounter→Int→Option (Dcounter × Bool)):Prop:=∀ {K w g bs a b c d e f h i},X (Dcounter.mk a b c) d=some ((Dcounter.mk e f h),i)→GK K→ SR K K w w [.box bs g #[iI a,iI b,.bool c] 132] [.box bs g #[iI a,iI b,.bool c] 132]→Calls Tryz.prog 117 #[.pointer (some ⟨g,0,none⟩),iI d] w (Ret (fun v_ w_=>∃ K_,v_=.bool i∧SR K K_ w w_ [.box bs g #[iI a,iI b,.bool c] 132] [.box bs g #[iI e,iI f,.bool h] 132]))
def f150_spec (X:Option (List (Int × Dshape))):Prop:=∀ {K w a},X =some a→GK K→ SR K K w w [] []→Calls Tryz.prog 150 #[] w (Ret (fun v_ w_=>∃ K_ br0 er0 cr0,v_=.map (some br0)∧SR K K_ w w_ [] [.mp (zz w) br0 er0 cr0]∧MapR kI (VAgg (RDshape K_)) a er0.toList))
def f151_spec (X:DStmt→Option Bool):Prop:=∀ {K w a b c},X a=some c→GK K→RDStmt K a b→ SR K K w w [] []→Calls Tryz.prog 151 #[.agg b.toArray] w (Ret (fun v_ w_=>∃ K_,v_=.bool c∧SR K K_ w w_ [] []))
def f162_spec (X:BA→Option Bool):Prop:=∀ {K w a b},X a=some b→GK K→a.size ≤ mB→ SR K K w w [] []→Calls Tryz.prog 162 #[.string a] w (Ret (fun v_ w_=>∃ K_,v_=.bool b∧SR K K_ w w_ [] []))
def f160_spec (X:BA→Option Bool):Prop:=∀ {K w a b},X a=some b→GK K→a.size ≤ mB→ SR K K w w [] []→Calls Tryz.prog 160 #[.string a] w (Ret (fun v_ w_=>∃ K_,v_=.bool b∧SR K K_ w w_ [] []))
def f112_spec (X:Int→Option Bool):Prop:=∀ {K w a b},X a=some b→GK K→ SR K K w w [] []→Calls Tryz.prog 112 #[.int .u8 a] w (Ret (fun v_ w_=>∃ K_,v_=.bool b∧SR K K_ w w_ [] []))
def f113_spec (X:Int→Option Bool):Prop:=∀ {K w a b},X a=some b→GK K→ SR K K w w [] []→Calls Tryz.prog 113 #[.int .u8 a] w (Ret (fun v_ w_=>∃ K_,v_=.bool b∧SR K K_ w w_ [] []))
def f91_spec (X:BA→Option Bool):Prop:=∀ {K w a b},X a=some b→GK K→a.size ≤ mB→ SR K K w w [] []→Calls Tryz.prog 91 #[.string a] w (Ret (fun v_ w_=>∃ K_,v_=.bool b∧SR K K_ w w_ [] []))
def f114_spec (X:Option LB):Prop:=∀ {K w a},X =some a→GK K→ SR K K w w [] []→Calls Tryz.prog 114 #[] w (Ret (fun v_ w_=>∃ K_ Ar0 cr0,v_=sl Ar0 a cr0∧SR K K_ w w_ [] []∧RSl BA RStr 1 16 K_ Ar0 cr0 a))
def f93_spec (X:LB→BA→Option Int):Prop:=∀ {K w a c d b e},X a b=some e→GK K→RSl BA RStr 1 16 K c d a→b.size ≤ mB→ SR K K w w [] []→Calls Tryz.prog 93 #[sl c a d,.string b] w (Ret (fun v_ w_=>∃ K_,v_=iI e∧SR K K_ w w_ [] []))
def f64_spec (X:LB→BA→Option Bool):Prop:=∀ {K w a c d b e},X a b=some e→GK K→RSl BA RStr 1 16 K c d a→b.size ≤ mB→ SR K K w w [] []→Calls Tryz.prog 64 #[sl c a d,.string b] w (Ret (fun v_ w_=>∃ K_,v_=.bool e∧SR K K_ w w_ [] []))
def f92_spec (X:BA→Option Bool):Prop:=∀ {K w a b},X a=some b→GK K→a.size ≤ mB→ SR K K w w [] []→Calls Tryz.prog 92 #[.string a] w (Ret (fun v_ w_=>∃ K_,v_=.bool b∧SR K K_ w w_ [] []))
def f63_spec (X:BA→Option Bool):Prop:=∀ {K w a b},X a=some b→GK K→a.size ≤ mB→ SR K K w w [] []→Calls Tryz.prog 63 #[.string a] w (Ret (fun v_ w_=>∃ K_,v_=.bool b∧SR K K_ w w_ [] []))
def f153_spec (X:Dcounter→LE→Int→Option (Dcounter × Bool)):Prop:=∀ {K w g bs a b c d e f h i j k l},X (Dcounter.mk a b c) d h=some ((Dcounter.mk i j k),l)→GK K→tE K e f d→ SR K K w w [.box bs g #[iI a,iI b,.bool c] 132] [.box bs g #[iI a,iI b,.bool c] 132]→Calls Tryz.prog 153 #[.pointer (some ⟨g,0,none⟩),sl e d f,iI h] w (Ret (fun v_ w_=>∃ K_,v_=.bool l∧SR K K_ w w_ [.box bs g #[iI a,iI b,.bool c] 132] [.box bs g #[iI i,iI j,.bool k] 132]))
def f157_spec (X:Dcounter→DExpr→Int→Option (Dcounter × Bool)):Prop:=∀ {K w g bs a b c d e f h i j k},X (Dcounter.mk a b c) d f=some ((Dcounter.mk h i j),k)→GK K→RDExpr K d e→ SR K K w w [.box bs g #[iI a,iI b,.bool c] 132] [.box bs g #[iI a,iI b,.bool c] 132]→Calls Tryz.prog 157 #[.pointer (some ⟨g,0,none⟩),.agg e.toArray,iI f] w (Ret (fun v_ w_=>∃ K_,v_=.bool k∧SR K K_ w w_ [.box bs g #[iI a,iI b,.bool c] 132] [.box bs g #[iI h,iI i,.bool j] 132]))
def f118_spec (X:Dcounter→LS→Int→Option (Dcounter × Bool)):Prop:=∀ {K w g bs a b c d e f h i j k l},X (Dcounter.mk a b c) d h=some ((Dcounter.mk i j k),l)→GK K→tS K e f d→ SR K K w w [.box bs g #[iI a,iI b,.bool c] 132] [.box bs g #[iI a,iI b,.bool c] 132]→Calls Tryz.prog 118 #[.pointer (some ⟨g,0,none⟩),sl e d f,iI h] w (Ret (fun v_ w_=>∃ K_,v_=.bool l∧SR K K_ w w_ [.box bs g #[iI a,iI b,.bool c] 132] [.box bs g #[iI i,iI j,.bool k] 132]))
def f138_spec (X:Dcounter→DStmt→Int→Option (Dcounter × Bool)):Prop:=∀ {K w g bs a b c d e f h i j k},X (Dcounter.mk a b c) d f=some ((Dcounter.mk h i j),k)→GK K→RDStmt K d e→ SR K K w w [.box bs g #[iI a,iI b,.bool c] 132] [.box bs g #[iI a,iI b,.bool c] 132]→Calls Tryz.prog 138 #[.pointer (some ⟨g,0,none⟩),.agg e.toArray,iI f] w (Ret (fun v_ w_=>∃ K_,v_=.bool k∧SR K K_ w w_ [.box bs g #[iI a,iI b,.bool c] 132] [.box bs g #[iI h,iI i,.bool j] 132]))
def f152_spec (X:Dcounter→DCase→Int→Option (Dcounter × Bool)):Prop:=∀ {K w g bs a b c d e f h i j k},X (Dcounter.mk a b c) d f=some ((Dcounter.mk h i j),k)→GK K→RDCase K d e→ SR K K w w [.box bs g #[iI a,iI b,.bool c] 132] [.box bs g #[iI a,iI b,.bool c] 132]→Calls Tryz.prog 152 #[.pointer (some ⟨g,0,none⟩),.agg e.toArray,iI f] w (Ret (fun v_ w_=>∃ K_,v_=.bool k∧SR K K_ w w_ [.box bs g #[iI a,iI b,.bool c] 132] [.box bs g #[iI h,iI i,.bool j] 132]))
def f101_spec (X:Dcounter→DProgram→Option (Dcounter × Bool)):Prop:=∀ {K w g bs a b c d e f h i j},X (Dcounter.mk a b c) d=some ((Dcounter.mk f h i),j)→GK K→RDProgram K d e→ SR K K w w [.box bs g #[iI a,iI b,.bool c] 132] [.box bs g #[iI a,iI b,.bool c] 132]→Calls Tryz.prog 101 #[.pointer (some ⟨g,0,none⟩),.agg e.toArray] w (Ret (fun v_ w_=>∃ K_,v_=.bool j∧SR K K_ w w_ [.box bs g #[iI a,iI b,.bool c] 132] [.box bs g #[iI f,iI h,.bool i] 132]))
def f78_spec (X:DProgram→Bool→Option Bool):Prop:=∀ {K w a b c d},X a c=some d→GK K→RDProgram K a b→ SR K K w w [] []→Calls Tryz.prog 78 #[.agg b.toArray,.bool c] w (Ret (fun v_ w_=>∃ K_,v_=.bool d∧SR K K_ w w_ [] []))
def f119_spec (X:Dresolver→BA→Option (Int × Bool)):Prop:=∀ {K w g bs br h l m i j n o p q r k s t a c d u b e f v x y z A},X (Dresolver.mk (DProgram.mk h) (DFunc.mk i j p q r k) a b x) y=some (z,A)→GK K→tF K l m h→i.size ≤ mB→tP K n o j→tS K s t k→Reps RStr 1 a u→a.length * 16 ≤ mB→StkR kS VInt b v→b.length * 8 ≤ mB→br ≤ (zz w)→y.size ≤ mB→ SR K K w w [.box bs g (vR l h m i n j o p q r s k t c a d e b f x).toArray 138,.row br (sl c a d) 9 1 a.length u,.stk br (sl e b f) 135 b.length v] [.box bs g (vR l h m i n j o p q r s k t c a d e b f x).toArray 138,.row br (sl c a d) 9 1 a.length u,.stk br (sl e b f) 135 b.length v]→Calls Tryz.prog 119 #[.pointer (some ⟨g,0,none⟩),.string y] w (Ret (fun v_ w_=>∃ K_,v_=.tuple #[iI z,.bool A]∧SR K K_ w w_ [.box bs g (vR l h m i n j o p q r s k t c a d e b f x).toArray 138,.row br (sl c a d) 9 1 a.length u,.stk br (sl e b f) 135 b.length v] [.box bs g (vR l h m i n j o p q r s k t c a d e b f x).toArray 138,.row br (sl c a d) 9 1 a.length u,.stk br (sl e b f) 135 b.length v]))
def f103_spec (X:Dresolver→BA→Option (Except Int (Dresolver × Int))):Prop:=∀ {K w g bs br h n o i j p q r s t k u v a c d x b e f y z A res_},X (Dresolver.mk (DProgram.mk h) (DFunc.mk i j r s t k) a b z) A=some res_→GK K→tF K n o h→i.size ≤ mB→tP K p q j→tS K u v k→Reps RStr 1 a x→a.length * 16 ≤ mB→StkR kS VInt b y→b.length * 8 ≤ mB→br ≤ (zz w)→A.size ≤ mB→ SR K K w w [.box bs g (vR n h o i p j q r s t u k v c a d e b f z).toArray 138,.row br (sl c a d) 9 1 a.length x,.stk br (sl e b f) 135 b.length y] [.box bs g (vR n h o i p j q r s t u k v c a d e b f z).toArray 138,.row br (sl c a d) 9 1 a.length x,.stk br (sl e b f) 135 b.length y]→Calls Tryz.prog 103 #[.pointer (some ⟨g,0,none⟩),.string A] w (RetP (fun v_ w_=>∃ B C D I J N G l m O S K_ Az_0_0 cz_0_0 Az_1_1 cz_1_1 Az_1_5 cz_1_5 Az_2 cz_2 yz_2 Az_3 cz_3 yz_3,res_=.ok ((Dresolver.mk (DProgram.mk B) (DFunc.mk C D I J N G) l m O),S)∧v_=iI S∧SR K K_ w w_ [.box bs g (vR n h o i p j q r s t u k v c a d e b f z).toArray 138,.row br (sl c a d) 9 1 a.length x,.stk br (sl e b f) 135 b.length y] [.box bs g (vR Az_0_0 B cz_0_0 C Az_1_1 D cz_1_1 I J N Az_1_5 G cz_1_5 Az_2 l cz_2 Az_3 m cz_3 O).toArray 138,.row br (sl Az_2 l cz_2) 9 1 l.length yz_2,.stk br (sl Az_3 m cz_3) 135 m.length yz_3]∧tF K_ Az_0_0 cz_0_0 B∧C.size ≤ mB∧tP K_ Az_1_1 cz_1_1 D∧tS K_ Az_1_5 cz_1_5 G∧Reps RStr 1 l yz_2∧l.length * 16 ≤ mB∧StkR kS VInt m yz_3∧m.length * 8 ≤ mB) (fun v_ w_=>∃ c_ K_,res_=.error c_∧v_=.iface 109 (.agg #[iI c_])∧SR K K_ w w_ [.box bs g (vR n h o i p j q r s t u k v c a d e b f z).toArray 138,.row br (sl c a d) 9 1 a.length x,.stk br (sl e b f) 135 b.length y] []))
def f104_spec (X:LP→Option LP):Prop:=∀ {K w a c d b},X a=some b→GK K→tP K c d a→ SR K K w w [] []→Calls Tryz.prog 104 #[sl c a d] w (Ret (fun v_ w_=>∃ K_ Ar0 cr0,v_=sl Ar0 b cr0∧SR K K_ w w_ [] []∧tP K_ Ar0 cr0 b))
def f1013932_spec (X:DExpr→Dresolver→Option (Except Int Int)):Prop:=∀ {K w y z gr bsr g bs br h l m i j n o p q r k s t a c d u b e f v x res_},X y (Dresolver.mk (DProgram.mk h) (DFunc.mk i j p q r k) a b x)=some res_→GK K→RDExpr K y z→tF K l m h→i.size ≤ mB→tP K n o j→tS K s t k→Reps RStr 1 a u→a.length * 16 ≤ mB→StkR kS VInt b v→b.length * 8 ≤ mB→br ≤ (zz w)→ SR K K w w [.box bsr gr #[.pointer (some ⟨g,0,none⟩)] 134,.box bs g (vR l h m i n j o p q r s k t c a d e b f x).toArray 138,.row br (sl c a d) 9 1 a.length u,.stk br (sl e b f) 135 b.length v] [.box bsr gr #[.pointer (some ⟨g,0,none⟩)] 134,.box bs g (vR l h m i n j o p q r s k t c a d e b f x).toArray 138,.row br (sl c a d) 9 1 a.length u,.stk br (sl e b f) 135 b.length v]→Calls Tryz.prog 139 #[.agg z.toArray,.pointer (some ⟨gr,0,none⟩)] w (RetP (fun v_ w_=>∃ A K_,res_=.ok A∧v_=iI A∧SR K K_ w w_ [.box bsr gr #[.pointer (some ⟨g,0,none⟩)] 134,.box bs g (vR l h m i n j o p q r s k t c a d e b f x).toArray 138,.row br (sl c a d) 9 1 a.length u,.stk br (sl e b f) 135 b.length v] [.box bsr gr #[.pointer (some ⟨g,0,none⟩)] 134,.box bs g (vR l h m i n j o p q r s k t c a d e b f x).toArray 138,.row br (sl c a d) 9 1 a.length u,.stk br (sl e b f) 135 b.length v]) (fun v_ w_=>∃ c_ K_,res_=.error c_∧v_=.iface 109 (.agg #[iI c_])∧SR K K_ w w_ [.box bsr gr #[.pointer (some ⟨g,0,none⟩)] 134,.box bs g (vR l h m i n j o p q r s k t c a d e b f x).toArray 138,.row br (sl c a d) 9 1 a.length u,.stk br (sl e b f) 135 b.length v] []))
def f1013170_spec (X:LE→Dresolver→Option (Except Int LE)):Prop:=∀ {K w y A B gr bsr g bs br h l m i j n o p q r k s t a c d u b e f v x res_},X y (Dresolver.mk (DProgram.mk h) (DFunc.mk i j p q r k) a b x)=some res_→GK K→tE K A B y→tF K l m h→i.size ≤ mB→tP K n o j→tS K s t k→Reps RStr 1 a u→a.length * 16 ≤ mB→StkR kS VInt b v→b.length * 8 ≤ mB→br ≤ (zz w)→ SR K K w w [.box bsr gr #[.pointer (some ⟨g,0,none⟩)] 134,.box bs g (vR l h m i n j o p q r s k t c a d e b f x).toArray 138,.row br (sl c a d) 9 1 a.length u,.stk br (sl e b f) 135 b.length v] [.box bsr gr #[.pointer (some ⟨g,0,none⟩)] 134,.box bs g (vR l h m i n j o p q r s k t c a d e b f x).toArray 138,.row br (sl c a d) 9 1 a.length u,.stk br (sl e b f) 135 b.length v]→Calls Tryz.prog 131 #[sl A y B,.func (.func 139) #[] #[.pointer (some ⟨gr,0,none⟩)]] w (RetP (fun v_ w_=>∃ z K_ Ar0 cr0,res_=.ok z∧v_=sl Ar0 z cr0∧SR K K_ w w_ [.box bsr gr #[.pointer (some ⟨g,0,none⟩)] 134,.box bs g (vR l h m i n j o p q r s k t c a d e b f x).toArray 138,.row br (sl c a d) 9 1 a.length u,.stk br (sl e b f) 135 b.length v] [.box bsr gr #[.pointer (some ⟨g,0,none⟩)] 134,.box bs g (vR l h m i n j o p q r s k t c a d e b f x).toArray 138,.row br (sl c a d) 9 1 a.length u,.stk br (sl e b f) 135 b.length v]∧tE K_ Ar0 cr0 z) (fun v_ w_=>∃ c_ K_,res_=.error c_∧v_=.iface 109 (.agg #[iI c_])∧SR K K_ w w_ [.box bsr gr #[.pointer (some ⟨g,0,none⟩)] 134,.box bs g (vR l h m i n j o p q r s k t c a d e b f x).toArray 138,.row br (sl c a d) 9 1 a.length u,.stk br (sl e b f) 135 b.length v] []))
def f1014270_spec (X:DExpr→Dresolver→Option (Except Int DExpr)):Prop:=∀ {K w y z gr bsr g bs br h l m i j n o p q r k s t a c d u b e f v x res_},X y (Dresolver.mk (DProgram.mk h) (DFunc.mk i j p q r k) a b x)=some res_→GK K→RDExpr K y z→tF K l m h→i.size ≤ mB→tP K n o j→tS K s t k→Reps RStr 1 a u→a.length * 16 ≤ mB→StkR kS VInt b v→b.length * 8 ≤ mB→br ≤ (zz w)→ SR K K w w [.box bsr gr #[.pointer (some ⟨g,0,none⟩)] 134,.box bs g (vR l h m i n j o p q r s k t c a d e b f x).toArray 138,.row br (sl c a d) 9 1 a.length u,.stk br (sl e b f) 135 b.length v] [.box bsr gr #[.pointer (some ⟨g,0,none⟩)] 134,.box bs g (vR l h m i n j o p q r s k t c a d e b f x).toArray 138,.row br (sl c a d) 9 1 a.length u,.stk br (sl e b f) 135 b.length v]→Calls Tryz.prog 142 #[.agg z.toArray,.func (.func 139) #[] #[.pointer (some ⟨gr,0,none⟩)]] w (RetP (fun v_ w_=>∃ A K_ csr0,res_=.ok A∧v_=.agg csr0.toArray∧SR K K_ w w_ [.box bsr gr #[.pointer (some ⟨g,0,none⟩)] 134,.box bs g (vR l h m i n j o p q r s k t c a d e b f x).toArray 138,.row br (sl c a d) 9 1 a.length u,.stk br (sl e b f) 135 b.length v] [.box bsr gr #[.pointer (some ⟨g,0,none⟩)] 134,.box bs g (vR l h m i n j o p q r s k t c a d e b f x).toArray 138,.row br (sl c a d) 9 1 a.length u,.stk br (sl e b f) 135 b.length v]∧RDExpr K_ A csr0) (fun v_ w_=>∃ c_ K_,res_=.error c_∧v_=.iface 109 (.agg #[iI c_])∧SR K K_ w w_ [.box bsr gr #[.pointer (some ⟨g,0,none⟩)] 134,.box bs g (vR l h m i n j o p q r s k t c a d e b f x).toArray 138,.row br (sl c a d) 9 1 a.length u,.stk br (sl e b f) 135 b.length v] []))
def f120_spec (X:Dresolver→LE→Option (Except Int LE)):Prop:=∀ {K w g bs br h l m i j n o p q r k s t a c d u b e f v x y A B res_},X (Dresolver.mk (DProgram.mk h) (DFunc.mk i j p q r k) a b x) y=some res_→GK K→tF K l m h→i.size ≤ mB→tP K n o j→tS K s t k→Reps RStr 1 a u→a.length * 16 ≤ mB→StkR kS VInt b v→b.length * 8 ≤ mB→br ≤ (zz w)→tE K A B y→ SR K K w w [.box bs g (vR l h m i n j o p q r s k t c a d e b f x).toArray 138,.row br (sl c a d) 9 1 a.length u,.stk br (sl e b f) 135 b.length v] [.box bs g (vR l h m i n j o p q r s k t c a d e b f x).toArray 138,.row br (sl c a d) 9 1 a.length u,.stk br (sl e b f) 135 b.length v]→Calls Tryz.prog 120 #[.pointer (some ⟨g,0,none⟩),sl A y B] w (RetP (fun v_ w_=>∃ z K_ Ar0 cr0,res_=.ok z∧v_=sl Ar0 z cr0∧SR K K_ w w_ [.box bs g (vR l h m i n j o p q r s k t c a d e b f x).toArray 138,.row br (sl c a d) 9 1 a.length u,.stk br (sl e b f) 135 b.length v] [.box bs g (vR l h m i n j o p q r s k t c a d e b f x).toArray 138,.row br (sl c a d) 9 1 a.length u,.stk br (sl e b f) 135 b.length v]∧tE K_ Ar0 cr0 z) (fun v_ w_=>∃ c_ K_,res_=.error c_∧v_=.iface 109 (.agg #[iI c_])∧SR K K_ w w_ [.box bs g (vR l h m i n j o p q r s k t c a d e b f x).toArray 138,.row br (sl c a d) 9 1 a.length u,.stk br (sl e b f) 135 b.length v] []))
def f1014048_spec (X:DFunc→DStmt→Option Bool):Prop:=∀ {K w x y gr bsr g bs i a j b k l c m n d o p e q r f s t h u v z},X x (DStmt.mk i a j b k l c d e f h)=some z→GK K→RDFunc K x y→a.size ≤ mB→b.size ≤ mB→tE K m n c→tS K o p d→tS K q r e→tS K s t f→tC K u v h→ SR K K w w [.box bsr gr #[.pointer (some ⟨g,0,none⟩)] 158,.box bs g (vS i a j b k l m c n o d p q e r s f t u h v).toArray 42] [.box bsr gr #[.pointer (some ⟨g,0,none⟩)] 158,.box bs g (vS i a j b k l m c n o d p q e r s f t u h v).toArray 42]→Calls Tryz.prog 140 #[.agg y.toArray,.pointer (some ⟨gr,0,none⟩)] w (Ret (fun v_ w_=>∃ K_,v_=.bool z∧SR K K_ w w_ [.box bsr gr #[.pointer (some ⟨g,0,none⟩)] 158,.box bs g (vS i a j b k l m c n o d p q e r s f t u h v).toArray 42] [.box bsr gr #[.pointer (some ⟨g,0,none⟩)] 158,.box bs g (vS i a j b k l m c n o d p q e r s f t u h v).toArray 42]))
def f1005661_spec (X:LF→DStmt→Option Int):Prop:=∀ {K w x y z gr bsr g bs i a j b k l c m n d o p e q r f s t h u v A},X x (DStmt.mk i a j b k l c d e f h)=some A→GK K→tF K y z x→a.size ≤ mB→b.size ≤ mB→tE K m n c→tS K o p d→tS K q r e→tS K s t f→tC K u v h→ SR K K w w [.box bsr gr #[.pointer (some ⟨g,0,none⟩)] 158,.box bs g (vS i a j b k l m c n o d p q e r s f t u h v).toArray 42] [.box bsr gr #[.pointer (some ⟨g,0,none⟩)] 158,.box bs g (vS i a j b k l m c n o d p q e r s f t u h v).toArray 42]→Calls Tryz.prog 56 #[sl y x z,.func (.func 140) #[] #[.pointer (some ⟨gr,0,none⟩)]] w (Ret (fun v_ w_=>∃ K_,v_=iI A∧SR K K_ w w_ [.box bsr gr #[.pointer (some ⟨g,0,none⟩)] 158,.box bs g (vS i a j b k l m c n o d p q e r s f t u h v).toArray 42] [.box bsr gr #[.pointer (some ⟨g,0,none⟩)] 158,.box bs g (vS i a j b k l m c n o d p q e r s f t u h v).toArray 42]))
def f122_spec (X:Dresolver→DStmt→Option (Except Int (Dresolver × DStmt))):Prop:=∀ {K w g bs br h n o i j p q r s t k u v a c d x b e f y z gA bsA sA_0 sA_1 sA_2 sA_3 sA_4 sA_5 sA_6 AsA_6 csA_6 sA_7 AsA_7 csA_7 sA_8 AsA_8 csA_8 sA_9 AsA_9 csA_9 sA_10 AsA_10 csA_10 res_},X (Dresolver.mk (DProgram.mk h) (DFunc.mk i j r s t k) a b z) (DStmt.mk sA_0 sA_1 sA_2 sA_3 sA_4 sA_5 sA_6 sA_7 sA_8 sA_9 sA_10)=some res_→GK K→tF K n o h→i.size ≤ mB→tP K p q j→tS K u v k→Reps RStr 1 a x→a.length * 16 ≤ mB→StkR kS VInt b y→b.length * 8 ≤ mB→br ≤ (zz w)→sA_1.size ≤ mB→sA_3.size ≤ mB→tE K AsA_6 csA_6 sA_6→tS K AsA_7 csA_7 sA_7→tS K AsA_8 csA_8 sA_8→tS K AsA_9 csA_9 sA_9→tC K AsA_10 csA_10 sA_10→ SR K K w w [.box bs g (vR n h o i p j q r s t u k v c a d e b f z).toArray 138,.row br (sl c a d) 9 1 a.length x,.stk br (sl e b f) 135 b.length y,.box bsA gA (vS sA_0 sA_1 sA_2 sA_3 sA_4 sA_5 AsA_6 sA_6 csA_6 AsA_7 sA_7 csA_7 AsA_8 sA_8 csA_8 AsA_9 sA_9 csA_9 AsA_10 sA_10 csA_10).toArray 42] [.box bs g (vR n h o i p j q r s t u k v c a d e b f z).toArray 138,.row br (sl c a d) 9 1 a.length x,.stk br (sl e b f) 135 b.length y,.box bsA gA (vS sA_0 sA_1 sA_2 sA_3 sA_4 sA_5 AsA_6 sA_6 csA_6 AsA_7 sA_7 csA_7 AsA_8 sA_8 csA_8 AsA_9 sA_9 csA_9 AsA_10 sA_10 csA_10).toArray 42]→Calls Tryz.prog 122 #[.pointer (some ⟨g,0,none⟩),.pointer (some ⟨gA,0,none⟩)] w (RetP (fun v_ w_=>∃ A B C G I J D l m N zA_0 zA_1 zA_2 zA_3 zA_4 zA_5 zA_6 zA_7 zA_8 zA_9 zA_10 K_ Az_0_0 cz_0_0 Az_1_1 cz_1_1 Az_1_5 cz_1_5 Az_2 cz_2 yz_2 Az_3 cz_3 yz_3 AzA_6 czA_6 AzA_7 czA_7 AzA_8 czA_8 AzA_9 czA_9 AzA_10 czA_10,res_=.ok ((Dresolver.mk (DProgram.mk A) (DFunc.mk B C G I J D) l m N),(DStmt.mk zA_0 zA_1 zA_2 zA_3 zA_4 zA_5 zA_6 zA_7 zA_8 zA_9 zA_10))∧v_=.tuple #[]∧SR K K_ w w_ [.box bs g (vR n h o i p j q r s t u k v c a d e b f z).toArray 138,.row br (sl c a d) 9 1 a.length x,.stk br (sl e b f) 135 b.length y,.box bsA gA (vS sA_0 sA_1 sA_2 sA_3 sA_4 sA_5 AsA_6 sA_6 csA_6 AsA_7 sA_7 csA_7 AsA_8 sA_8 csA_8 AsA_9 sA_9 csA_9 AsA_10 sA_10 csA_10).toArray 42] [.box bs g (vR Az_0_0 A cz_0_0 B Az_1_1 C cz_1_1 G I J Az_1_5 D cz_1_5 Az_2 l cz_2 Az_3 m cz_3 N).toArray 138,.row br (sl Az_2 l cz_2) 9 1 l.length yz_2,.stk br (sl Az_3 m cz_3) 135 m.length yz_3,.box bsA gA (vS zA_0 zA_1 zA_2 zA_3 zA_4 zA_5 AzA_6 zA_6 czA_6 AzA_7 zA_7 czA_7 AzA_8 zA_8 czA_8 AzA_9 zA_9 czA_9 AzA_10 zA_10 czA_10).toArray 42]∧tF K_ Az_0_0 cz_0_0 A∧B.size ≤ mB∧tP K_ Az_1_1 cz_1_1 C∧tS K_ Az_1_5 cz_1_5 D∧Reps RStr 1 l yz_2∧l.length * 16 ≤ mB∧StkR kS VInt m yz_3∧m.length * 8 ≤ mB∧zA_1.size ≤ mB∧zA_3.size ≤ mB∧tE K_ AzA_6 czA_6 zA_6∧tS K_ AzA_7 czA_7 zA_7∧tS K_ AzA_8 czA_8 zA_8∧tS K_ AzA_9 czA_9 zA_9∧tC K_ AzA_10 czA_10 zA_10) (fun v_ w_=>∃ c_ K_,res_=.error c_∧v_=.iface 109 (.agg #[iI c_])∧SR K K_ w w_ [.box bs g (vR n h o i p j q r s t u k v c a d e b f z).toArray 138,.row br (sl c a d) 9 1 a.length x,.stk br (sl e b f) 135 b.length y,.box bsA gA (vS sA_0 sA_1 sA_2 sA_3 sA_4 sA_5 AsA_6 sA_6 csA_6 AsA_7 sA_7 csA_7 AsA_8 sA_8 csA_8 AsA_9 sA_9 csA_9 AsA_10 sA_10 csA_10).toArray 42] []))
def f105_spec (X:Dresolver→DStmt→Option (Except Int (Dresolver × DStmt))):Prop:=∀ {K w g bs br h n o i j p q r s t k u v a c d x b e f y z G I res_},X (Dresolver.mk (DProgram.mk h) (DFunc.mk i j r s t k) a b z) G=some res_→GK K→tF K n o h→i.size ≤ mB→tP K p q j→tS K u v k→Reps RStr 1 a x→a.length * 16 ≤ mB→StkR kS VInt b y→b.length * 8 ≤ mB→br ≤ (zz w)→RDStmt K G I→ SR K K w w [.box bs g (vR n h o i p j q r s t u k v c a d e b f z).toArray 138,.row br (sl c a d) 9 1 a.length x,.stk br (sl e b f) 135 b.length y] [.box bs g (vR n h o i p j q r s t u k v c a d e b f z).toArray 138,.row br (sl c a d) 9 1 a.length x,.stk br (sl e b f) 135 b.length y]→Calls Tryz.prog 105 #[.pointer (some ⟨g,0,none⟩),.agg I.toArray] w (RetP (fun v_ w_=>∃ A B C J N O D l m S U K_ Az_0_0 cz_0_0 Az_1_1 cz_1_1 Az_1_5 cz_1_5 Az_2 cz_2 yz_2 Az_3 cz_3 yz_3 csr0,res_=.ok ((Dresolver.mk (DProgram.mk A) (DFunc.mk B C J N O D) l m S),U)∧v_=.agg csr0.toArray∧SR K K_ w w_ [.box bs g (vR n h o i p j q r s t u k v c a d e b f z).toArray 138,.row br (sl c a d) 9 1 a.length x,.stk br (sl e b f) 135 b.length y] [.box bs g (vR Az_0_0 A cz_0_0 B Az_1_1 C cz_1_1 J N O Az_1_5 D cz_1_5 Az_2 l cz_2 Az_3 m cz_3 S).toArray 138,.row br (sl Az_2 l cz_2) 9 1 l.length yz_2,.stk br (sl Az_3 m cz_3) 135 m.length yz_3]∧tF K_ Az_0_0 cz_0_0 A∧B.size ≤ mB∧tP K_ Az_1_1 cz_1_1 C∧tS K_ Az_1_5 cz_1_5 D∧Reps RStr 1 l yz_2∧l.length * 16 ≤ mB∧StkR kS VInt m yz_3∧m.length * 8 ≤ mB∧RDStmt K_ U csr0) (fun v_ w_=>∃ c_ K_,res_=.error c_∧v_=.iface 109 (.agg #[iI c_])∧SR K K_ w w_ [.box bs g (vR n h o i p j q r s t u k v c a d e b f z).toArray 138,.row br (sl c a d) 9 1 a.length x,.stk br (sl e b f) 135 b.length y] []))
def f1012148_spec (X:Dresolver→BA→LS→DCase→Option (Except Int (Dresolver × DCase × LS))):Prop:=∀ {K w g bs br h n o i j p q r s t k u v a c d x b e f y z A B N O gA bsA sA_0 sA_1 sA_2 sA_3 AsA_3 csA_3 sA_4 AsA_4 csA_4 res_},X (Dresolver.mk (DProgram.mk h) (DFunc.mk i j r s t k) a b z) A B (DCase.mk sA_0 sA_1 sA_2 sA_3 sA_4)=some res_→GK K→tF K n o h→i.size ≤ mB→tP K p q j→tS K u v k→Reps RStr 1 a x→a.length * 16 ≤ mB→StkR kS VInt b y→b.length * 8 ≤ mB→br ≤ (zz w)→A.size ≤ mB→tS K N O B→sA_1.size ≤ mB→tE K AsA_3 csA_3 sA_3→tS K AsA_4 csA_4 sA_4→ SR K K w w [.box bs g (vR n h o i p j q r s t u k v c a d e b f z).toArray 138,.row br (sl c a d) 9 1 a.length x,.stk br (sl e b f) 135 b.length y,.box bsA gA (vC sA_0 sA_1 sA_2 AsA_3 sA_3 csA_3 AsA_4 sA_4 csA_4).toArray 87] [.box bs g (vR n h o i p j q r s t u k v c a d e b f z).toArray 138,.row br (sl c a d) 9 1 a.length x,.stk br (sl e b f) 135 b.length y,.box bsA gA (vC sA_0 sA_1 sA_2 AsA_3 sA_3 csA_3 AsA_4 sA_4 csA_4).toArray 87]→Calls Tryz.prog 121 #[.pointer (some ⟨g,0,none⟩),.string A,sl N B O,.pointer (some ⟨gA,2,none⟩)] w (RetP (fun v_ w_=>∃ C D G S U V I l m W zA_0 zA_1 zA_2 zA_3 zA_4 J K_ Az_0_0 cz_0_0 Az_1_1 cz_1_1 Az_1_5 cz_1_5 Az_2 cz_2 yz_2 Az_3 cz_3 yz_3 AzA_3 czA_3 AzA_4 czA_4 Ar0 cr0,res_=.ok ((Dresolver.mk (DProgram.mk C) (DFunc.mk D G S U V I) l m W),(DCase.mk zA_0 zA_1 zA_2 zA_3 zA_4),J)∧v_=sl Ar0 J cr0∧SR K K_ w w_ [.box bs g (vR n h o i p j q r s t u k v c a d e b f z).toArray 138,.row br (sl c a d) 9 1 a.length x,.stk br (sl e b f) 135 b.length y,.box bsA gA (vC sA_0 sA_1 sA_2 AsA_3 sA_3 csA_3 AsA_4 sA_4 csA_4).toArray 87] [.box bs g (vR Az_0_0 C cz_0_0 D Az_1_1 G cz_1_1 S U V Az_1_5 I cz_1_5 Az_2 l cz_2 Az_3 m cz_3 W).toArray 138,.row br (sl Az_2 l cz_2) 9 1 l.length yz_2,.stk br (sl Az_3 m cz_3) 135 m.length yz_3,.box bsA gA (vC zA_0 zA_1 zA_2 AzA_3 zA_3 czA_3 AzA_4 zA_4 czA_4).toArray 87]∧tF K_ Az_0_0 cz_0_0 C∧D.size ≤ mB∧tP K_ Az_1_1 cz_1_1 G∧tS K_ Az_1_5 cz_1_5 I∧Reps RStr 1 l yz_2∧l.length * 16 ≤ mB∧StkR kS VInt m yz_3∧m.length * 8 ≤ mB∧zA_1.size ≤ mB∧tE K_ AzA_3 czA_3 zA_3∧tS K_ AzA_4 czA_4 zA_4∧tS K_ Ar0 cr0 J) (fun v_ w_=>∃ c_ K_,res_=.error c_∧v_=.iface 109 (.agg #[iI c_])∧SR K K_ w w_ [.box bs g (vR n h o i p j q r s t u k v c a d e b f z).toArray 138,.row br (sl c a d) 9 1 a.length x,.stk br (sl e b f) 135 b.length y,.box bsA gA (vC sA_0 sA_1 sA_2 AsA_3 sA_3 csA_3 AsA_4 sA_4 csA_4).toArray 87] []))
def f1012152_spec (X:Dresolver→BA→LS→DStmt→Option (Except Int (Dresolver × DStmt × LS))):Prop:=∀ {K w g bs br h n o i j p q r s t k u v a c d x b e f y z A B N O gA bsA sA_0 sA_1 sA_2 sA_3 sA_4 sA_5 sA_6 AsA_6 csA_6 sA_7 AsA_7 csA_7 sA_8 AsA_8 csA_8 sA_9 AsA_9 csA_9 sA_10 AsA_10 csA_10 res_},X (Dresolver.mk (DProgram.mk h) (DFunc.mk i j r s t k) a b z) A B (DStmt.mk sA_0 sA_1 sA_2 sA_3 sA_4 sA_5 sA_6 sA_7 sA_8 sA_9 sA_10)=some res_→GK K→tF K n o h→i.size ≤ mB→tP K p q j→tS K u v k→Reps RStr 1 a x→a.length * 16 ≤ mB→StkR kS VInt b y→b.length * 8 ≤ mB→br ≤ (zz w)→A.size ≤ mB→tS K N O B→sA_1.size ≤ mB→sA_3.size ≤ mB→tE K AsA_6 csA_6 sA_6→tS K AsA_7 csA_7 sA_7→tS K AsA_8 csA_8 sA_8→tS K AsA_9 csA_9 sA_9→tC K AsA_10 csA_10 sA_10→ SR K K w w [.box bs g (vR n h o i p j q r s t u k v c a d e b f z).toArray 138,.row br (sl c a d) 9 1 a.length x,.stk br (sl e b f) 135 b.length y,.box bsA gA (vS sA_0 sA_1 sA_2 sA_3 sA_4 sA_5 AsA_6 sA_6 csA_6 AsA_7 sA_7 csA_7 AsA_8 sA_8 csA_8 AsA_9 sA_9 csA_9 AsA_10 sA_10 csA_10).toArray 42] [.box bs g (vR n h o i p j q r s t u k v c a d e b f z).toArray 138,.row br (sl c a d) 9 1 a.length x,.stk br (sl e b f) 135 b.length y,.box bsA gA (vS sA_0 sA_1 sA_2 sA_3 sA_4 sA_5 AsA_6 sA_6 csA_6 AsA_7 sA_7 csA_7 AsA_8 sA_8 csA_8 AsA_9 sA_9 csA_9 AsA_10 sA_10 csA_10).toArray 42]→Calls Tryz.prog 121 #[.pointer (some ⟨g,0,none⟩),.string A,sl N B O,.pointer (some ⟨gA,2,none⟩)] w (RetP (fun v_ w_=>∃ C D G S U V I l m W zA_0 zA_1 zA_2 zA_3 zA_4 zA_5 zA_6 zA_7 zA_8 zA_9 zA_10 J K_ Az_0_0 cz_0_0 Az_1_1 cz_1_1 Az_1_5 cz_1_5 Az_2 cz_2 yz_2 Az_3 cz_3 yz_3 AzA_6 czA_6 AzA_7 czA_7 AzA_8 czA_8 AzA_9 czA_9 AzA_10 czA_10 Ar0 cr0,res_=.ok ((Dresolver.mk (DProgram.mk C) (DFunc.mk D G S U V I) l m W),(DStmt.mk zA_0 zA_1 zA_2 zA_3 zA_4 zA_5 zA_6 zA_7 zA_8 zA_9 zA_10),J)∧v_=sl Ar0 J cr0∧SR K K_ w w_ [.box bs g (vR n h o i p j q r s t u k v c a d e b f z).toArray 138,.row br (sl c a d) 9 1 a.length x,.stk br (sl e b f) 135 b.length y,.box bsA gA (vS sA_0 sA_1 sA_2 sA_3 sA_4 sA_5 AsA_6 sA_6 csA_6 AsA_7 sA_7 csA_7 AsA_8 sA_8 csA_8 AsA_9 sA_9 csA_9 AsA_10 sA_10 csA_10).toArray 42] [.box bs g (vR Az_0_0 C cz_0_0 D Az_1_1 G cz_1_1 S U V Az_1_5 I cz_1_5 Az_2 l cz_2 Az_3 m cz_3 W).toArray 138,.row br (sl Az_2 l cz_2) 9 1 l.length yz_2,.stk br (sl Az_3 m cz_3) 135 m.length yz_3,.box bsA gA (vS zA_0 zA_1 zA_2 zA_3 zA_4 zA_5 AzA_6 zA_6 czA_6 AzA_7 zA_7 czA_7 AzA_8 zA_8 czA_8 AzA_9 zA_9 czA_9 AzA_10 zA_10 czA_10).toArray 42]∧tF K_ Az_0_0 cz_0_0 C∧D.size ≤ mB∧tP K_ Az_1_1 cz_1_1 G∧tS K_ Az_1_5 cz_1_5 I∧Reps RStr 1 l yz_2∧l.length * 16 ≤ mB∧StkR kS VInt m yz_3∧m.length * 8 ≤ mB∧zA_1.size ≤ mB∧zA_3.size ≤ mB∧tE K_ AzA_6 czA_6 zA_6∧tS K_ AzA_7 czA_7 zA_7∧tS K_ AzA_8 czA_8 zA_8∧tS K_ AzA_9 czA_9 zA_9∧tC K_ AzA_10 czA_10 zA_10∧tS K_ Ar0 cr0 J) (fun v_ w_=>∃ c_ K_,res_=.error c_∧v_=.iface 109 (.agg #[iI c_])∧SR K K_ w w_ [.box bs g (vR n h o i p j q r s t u k v c a d e b f z).toArray 138,.row br (sl c a d) 9 1 a.length x,.stk br (sl e b f) 135 b.length y,.box bsA gA (vS sA_0 sA_1 sA_2 sA_3 sA_4 sA_5 AsA_6 sA_6 csA_6 AsA_7 sA_7 csA_7 AsA_8 sA_8 csA_8 AsA_9 sA_9 csA_9 AsA_10 sA_10 csA_10).toArray 42] []))
def f1012166_spec (X:Dresolver→BA→LS→Option (Except Int (Dresolver × LS))):Prop:=∀ {K w g bs br h n o i j p q r s t k u v a c d x b e f y z A B N O res_},X (Dresolver.mk (DProgram.mk h) (DFunc.mk i j r s t k) a b z) A B=some res_→GK K→tF K n o h→i.size ≤ mB→tP K p q j→tS K u v k→Reps RStr 1 a x→a.length * 16 ≤ mB→StkR kS VInt b y→b.length * 8 ≤ mB→br ≤ (zz w)→A.size ≤ mB→tS K N O B→ SR K K w w [.box bs g (vR n h o i p j q r s t u k v c a d e b f z).toArray 138,.row br (sl c a d) 9 1 a.length x,.stk br (sl e b f) 135 b.length y] [.box bs g (vR n h o i p j q r s t u k v c a d e b f z).toArray 138,.row br (sl c a d) 9 1 a.length x,.stk br (sl e b f) 135 b.length y]→Calls Tryz.prog 121 #[.pointer (some ⟨g,0,none⟩),.string A,sl N B O,.pointer none] w (RetP (fun v_ w_=>∃ C D G S U V I l m W J K_ Az_0_0 cz_0_0 Az_1_1 cz_1_1 Az_1_5 cz_1_5 Az_2 cz_2 yz_2 Az_3 cz_3 yz_3 Ar0 cr0,res_=.ok ((Dresolver.mk (DProgram.mk C) (DFunc.mk D G S U V I) l m W),J)∧v_=sl Ar0 J cr0∧SR K K_ w w_ [.box bs g (vR n h o i p j q r s t u k v c a d e b f z).toArray 138,.row br (sl c a d) 9 1 a.length x,.stk br (sl e b f) 135 b.length y] [.box bs g (vR Az_0_0 C cz_0_0 D Az_1_1 G cz_1_1 S U V Az_1_5 I cz_1_5 Az_2 l cz_2 Az_3 m cz_3 W).toArray 138,.row br (sl Az_2 l cz_2) 9 1 l.length yz_2,.stk br (sl Az_3 m cz_3) 135 m.length yz_3]∧tF K_ Az_0_0 cz_0_0 C∧D.size ≤ mB∧tP K_ Az_1_1 cz_1_1 G∧tS K_ Az_1_5 cz_1_5 I∧Reps RStr 1 l yz_2∧l.length * 16 ≤ mB∧StkR kS VInt m yz_3∧m.length * 8 ≤ mB∧tS K_ Ar0 cr0 J) (fun v_ w_=>∃ c_ K_,res_=.error c_∧v_=.iface 109 (.agg #[iI c_])∧SR K K_ w w_ [.box bs g (vR n h o i p j q r s t u k v c a d e b f z).toArray 138,.row br (sl c a d) 9 1 a.length x,.stk br (sl e b f) 135 b.length y] []))
def f1012352_spec (X:Dresolver→BA→LS→DStmt→Option (Except Int (Dresolver × DStmt × LS))):Prop:=∀ {K w g bs br h n o i j p q r s t k u v a c d x b e f y z A B N O gA bsA sA_0 sA_1 sA_2 sA_3 sA_4 sA_5 sA_6 AsA_6 csA_6 sA_7 AsA_7 csA_7 sA_8 AsA_8 csA_8 sA_9 AsA_9 csA_9 sA_10 AsA_10 csA_10 res_},X (Dresolver.mk (DProgram.mk h) (DFunc.mk i j r s t k) a b z) A B (DStmt.mk sA_0 sA_1 sA_2 sA_3 sA_4 sA_5 sA_6 sA_7 sA_8 sA_9 sA_10)=some res_→GK K→tF K n o h→i.size ≤ mB→tP K p q j→tS K u v k→Reps RStr 1 a x→a.length * 16 ≤ mB→StkR kS VInt b y→b.length * 8 ≤ mB→br ≤ (zz w)→A.size ≤ mB→tS K N O B→sA_1.size ≤ mB→sA_3.size ≤ mB→tE K AsA_6 csA_6 sA_6→tS K AsA_7 csA_7 sA_7→tS K AsA_8 csA_8 sA_8→tS K AsA_9 csA_9 sA_9→tC K AsA_10 csA_10 sA_10→ SR K K w w [.box bs g (vR n h o i p j q r s t u k v c a d e b f z).toArray 138,.row br (sl c a d) 9 1 a.length x,.stk br (sl e b f) 135 b.length y,.box bsA gA (vS sA_0 sA_1 sA_2 sA_3 sA_4 sA_5 AsA_6 sA_6 csA_6 AsA_7 sA_7 csA_7 AsA_8 sA_8 csA_8 AsA_9 sA_9 csA_9 AsA_10 sA_10 csA_10).toArray 42] [.box bs g (vR n h o i p j q r s t u k v c a d e b f z).toArray 138,.row br (sl c a d) 9 1 a.length x,.stk br (sl e b f) 135 b.length y,.box bsA gA (vS sA_0 sA_1 sA_2 sA_3 sA_4 sA_5 AsA_6 sA_6 csA_6 AsA_7 sA_7 csA_7 AsA_8 sA_8 csA_8 AsA_9 sA_9 csA_9 AsA_10 sA_10 csA_10).toArray 42]→Calls Tryz.prog 123 #[.pointer (some ⟨g,0,none⟩),.string A,sl N B O,.pointer (some ⟨gA,2,none⟩)] w (RetP (fun v_ w_=>∃ C D G S U V I l m W zA_0 zA_1 zA_2 zA_3 zA_4 zA_5 zA_6 zA_7 zA_8 zA_9 zA_10 J K_ Az_0_0 cz_0_0 Az_1_1 cz_1_1 Az_1_5 cz_1_5 Az_2 cz_2 yz_2 Az_3 cz_3 yz_3 AzA_6 czA_6 AzA_7 czA_7 AzA_8 czA_8 AzA_9 czA_9 AzA_10 czA_10 Ar0 cr0,res_=.ok ((Dresolver.mk (DProgram.mk C) (DFunc.mk D G S U V I) l m W),(DStmt.mk zA_0 zA_1 zA_2 zA_3 zA_4 zA_5 zA_6 zA_7 zA_8 zA_9 zA_10),J)∧v_=sl Ar0 J cr0∧SR K K_ w w_ [.box bs g (vR n h o i p j q r s t u k v c a d e b f z).toArray 138,.row br (sl c a d) 9 1 a.length x,.stk br (sl e b f) 135 b.length y,.box bsA gA (vS sA_0 sA_1 sA_2 sA_3 sA_4 sA_5 AsA_6 sA_6 csA_6 AsA_7 sA_7 csA_7 AsA_8 sA_8 csA_8 AsA_9 sA_9 csA_9 AsA_10 sA_10 csA_10).toArray 42] [.box bs g (vR Az_0_0 C cz_0_0 D Az_1_1 G cz_1_1 S U V Az_1_5 I cz_1_5 Az_2 l cz_2 Az_3 m cz_3 W).toArray 138,.row br (sl Az_2 l cz_2) 9 1 l.length yz_2,.stk br (sl Az_3 m cz_3) 135 m.length yz_3,.box bsA gA (vS zA_0 zA_1 zA_2 zA_3 zA_4 zA_5 AzA_6 zA_6 czA_6 AzA_7 zA_7 czA_7 AzA_8 zA_8 czA_8 AzA_9 zA_9 czA_9 AzA_10 zA_10 czA_10).toArray 42]∧tF K_ Az_0_0 cz_0_0 C∧D.size ≤ mB∧tP K_ Az_1_1 cz_1_1 G∧tS K_ Az_1_5 cz_1_5 I∧Reps RStr 1 l yz_2∧l.length * 16 ≤ mB∧StkR kS VInt m yz_3∧m.length * 8 ≤ mB∧zA_1.size ≤ mB∧zA_3.size ≤ mB∧tE K_ AzA_6 czA_6 zA_6∧tS K_ AzA_7 czA_7 zA_7∧tS K_ AzA_8 czA_8 zA_8∧tS K_ AzA_9 czA_9 zA_9∧tC K_ AzA_10 czA_10 zA_10∧tS K_ Ar0 cr0 J) (fun v_ w_=>∃ c_ K_,res_=.error c_∧v_=.iface 109 (.agg #[iI c_])∧SR K K_ w w_ [.box bs g (vR n h o i p j q r s t u k v c a d e b f z).toArray 138,.row br (sl c a d) 9 1 a.length x,.stk br (sl e b f) 135 b.length y,.box bsA gA (vS sA_0 sA_1 sA_2 sA_3 sA_4 sA_5 AsA_6 sA_6 csA_6 AsA_7 sA_7 csA_7 AsA_8 sA_8 csA_8 AsA_9 sA_9 csA_9 AsA_10 sA_10 csA_10).toArray 42] []))
def f1012366_spec (X:Dresolver→BA→LS→Option (Except Int (Dresolver × LS))):Prop:=∀ {K w g bs br h n o i j p q r s t k u v a c d x b e f y z A B N O res_},X (Dresolver.mk (DProgram.mk h) (DFunc.mk i j r s t k) a b z) A B=some res_→GK K→tF K n o h→i.size ≤ mB→tP K p q j→tS K u v k→Reps RStr 1 a x→a.length * 16 ≤ mB→StkR kS VInt b y→b.length * 8 ≤ mB→br ≤ (zz w)→A.size ≤ mB→tS K N O B→ SR K K w w [.box bs g (vR n h o i p j q r s t u k v c a d e b f z).toArray 138,.row br (sl c a d) 9 1 a.length x,.stk br (sl e b f) 135 b.length y] [.box bs g (vR n h o i p j q r s t u k v c a d e b f z).toArray 138,.row br (sl c a d) 9 1 a.length x,.stk br (sl e b f) 135 b.length y]→Calls Tryz.prog 123 #[.pointer (some ⟨g,0,none⟩),.string A,sl N B O,.pointer none] w (RetP (fun v_ w_=>∃ C D G S U V I l m W J K_ Az_0_0 cz_0_0 Az_1_1 cz_1_1 Az_1_5 cz_1_5 Az_2 cz_2 yz_2 Az_3 cz_3 yz_3 Ar0 cr0,res_=.ok ((Dresolver.mk (DProgram.mk C) (DFunc.mk D G S U V I) l m W),J)∧v_=sl Ar0 J cr0∧SR K K_ w w_ [.box bs g (vR n h o i p j q r s t u k v c a d e b f z).toArray 138,.row br (sl c a d) 9 1 a.length x,.stk br (sl e b f) 135 b.length y] [.box bs g (vR Az_0_0 C cz_0_0 D Az_1_1 G cz_1_1 S U V Az_1_5 I cz_1_5 Az_2 l cz_2 Az_3 m cz_3 W).toArray 138,.row br (sl Az_2 l cz_2) 9 1 l.length yz_2,.stk br (sl Az_3 m cz_3) 135 m.length yz_3]∧tF K_ Az_0_0 cz_0_0 C∧D.size ≤ mB∧tP K_ Az_1_1 cz_1_1 G∧tS K_ Az_1_5 cz_1_5 I∧Reps RStr 1 l yz_2∧l.length * 16 ≤ mB∧StkR kS VInt m yz_3∧m.length * 8 ≤ mB∧tS K_ Ar0 cr0 J) (fun v_ w_=>∃ c_ K_,res_=.error c_∧v_=.iface 109 (.agg #[iI c_])∧SR K K_ w w_ [.box bs g (vR n h o i p j q r s t u k v c a d e b f z).toArray 138,.row br (sl c a d) 9 1 a.length x,.stk br (sl e b f) 135 b.length y] []))
def f82_spec (X:DProgram→DFunc→Option (Except Int (DFunc × LB))):Prop:=∀ {K w b c d e res_},X b d=some res_→GK K→RDProgram K b c→RDFunc K d e→ SR K K w w [] []→Calls Tryz.prog 82 #[.agg c.toArray,.agg e.toArray] w (RetP (fun v_ w_=>∃ f a K_ csr0 Ar1 cr1,res_=.ok (f,a)∧v_=.tuple #[.agg csr0.toArray,sl Ar1 a cr1]∧SR K K_ w w_ [] []∧RDFunc K_ f csr0∧RSl BA RStr 1 16 K_ Ar1 cr1 a) (fun v_ w_=>∃ c_ K_,res_=.error c_∧v_=.iface 109 (.agg #[iI c_])∧SR K K_ w w_ [] []))
def f44_spec (X:DProgram→Option (Except Int (DProgram × (List LB)))):Prop:=∀ (K:KH) (w:World) (b:DProgram) (c:List Value) (res_:(Except Int (DProgram × (List LB)))),X b=some res_→GK K→RDProgram K b c→ SR K K w w [] []→Calls Tryz.prog 44 #[.agg c.toArray] w (RetP (fun v_ w_=>∃ d a K_ csr0 Ar1 cr1,res_=.ok (d,a)∧v_=.tuple #[.agg csr0.toArray,sl Ar1 a cr1]∧SR K K_ w w_ [] []∧RDProgram K_ d csr0∧RSl LB (RSlE BA (fun K=>RStr) 1 16 K_) 1 24 K_ Ar1 cr1 a) (fun v_ w_=>∃ c_ K_,res_=.error c_∧v_=.iface 109 (.agg #[iI c_])∧SR K K_ w w_ [] []))
def f1004304_spec (X:DProgram→DProgram→Option (Except Int (DProgram × DProgram))):Prop:=∀ {K w g bs a b c gA bsA sA_0 AsA_0 csA_0 res_},X (DProgram.mk a) (DProgram.mk sA_0)=some res_→GK K→tF K b c a→tF K AsA_0 csA_0 sA_0→ SR K K w w [.box bs g #[sl b a c] 24,.box bsA gA #[sl AsA_0 sA_0 csA_0] 24] [.box bs g #[sl b a c] 24,.box bsA gA #[sl AsA_0 sA_0 csA_0] 24]→Calls Tryz.prog 43 #[.pointer (some ⟨g,0,none⟩),.pointer (some ⟨gA,0,none⟩)] w (RetP (fun v_ w_=>∃ d zA_0 K_ Az_0 cz_0 AzA_0 czA_0,res_=.ok ((DProgram.mk d),(DProgram.mk zA_0))∧v_=.tuple #[]∧SR K K_ w w_ [.box bs g #[sl b a c] 24,.box bsA gA #[sl AsA_0 sA_0 csA_0] 24] [.box bs g #[sl Az_0 d cz_0] 24,.box bsA gA #[sl AzA_0 zA_0 czA_0] 24]∧tF K_ Az_0 cz_0 d∧tF K_ AzA_0 czA_0 zA_0) (fun v_ w_=>∃ c_ K_,res_=.error c_∧v_=.iface 109 (.agg #[iI c_])∧SR K K_ w w_ [.box bs g #[sl b a c] 24,.box bsA gA #[sl AsA_0 sA_0 csA_0] 24] [.box bs g #[sl b a c] 24,.box bsA gA #[sl AsA_0 sA_0 csA_0] 24]))
def f1004220_spec (X:DProgram→DProgram→Option (DProgram × DProgram × Int)):Prop:=∀ {K w g bs a b c gA bsA sA_0 AsA_0 csA_0 d zA_0 e},X (DProgram.mk a) (DProgram.mk sA_0)=some ((DProgram.mk d),(DProgram.mk zA_0),e)→GK K→tF K b c a→tF K AsA_0 csA_0 sA_0→ SR K K w w [.box bs g #[sl b a c] 24,.box bsA gA #[sl AsA_0 sA_0 csA_0] 24] [.box bs g #[sl b a c] 24,.box bsA gA #[sl AsA_0 sA_0 csA_0] 24]→Calls Tryz.prog 42 #[.func (.func 43) #[] #[.pointer (some ⟨g,0,none⟩),.pointer (some ⟨gA,0,none⟩)]] w (Ret (fun v_ w_=>∃ K_ Az_0 cz_0 AzA_0 czA_0,v_=iI e∧SR K K_ w w_ [.box bs g #[sl b a c] 24,.box bsA gA #[sl AsA_0 sA_0 csA_0] 24] [.box bs g #[sl Az_0 d cz_0] 24,.box bsA gA #[sl AzA_0 zA_0 czA_0] 24]∧tF K_ Az_0 cz_0 d∧tF K_ AzA_0 czA_0 zA_0))
def f15_spec (X:DProgram→Option (DProgram × Int)):Prop:=∀ {K w a b c d},X a=some (c,d)→GK K→RDProgram K a b→ SR K K w w [] []→Calls Tryz.prog 15 #[.agg b.toArray] w (Ret (fun v_ w_=>∃ K_ csr0,v_=.tuple #[.agg csr0.toArray,iI d]∧SR K K_ w w_ [] []∧RDProgram K_ c csr0))
def f14_spec (X:Option Bool):Prop:=∀ {K w a},X =some a→GK K→ SR K K w w [] []→Calls Tryz.prog 14 #[] w (Ret (fun v_ w_=>∃ K_,v_=.bool a∧SR K K_ w w_ [] []))
def f48_spec (X:LE→LE→Option Bool):Prop:=∀ {K w a c d b e f g},X a b=some g→GK K→tE K c d a→tE K e f b→ SR K K w w [] []→Calls Tryz.prog 48 #[sl c a d,sl e b f] w (Ret (fun v_ w_=>∃ K_,v_=.bool g∧SR K K_ w w_ [] []))
def f87_spec (X:DExpr→DExpr→Option Bool):Prop:=∀ {K w a b c d e},X a c=some e→GK K→RDExpr K a b→RDExpr K c d→ SR K K w w [] []→Calls Tryz.prog 87 #[.agg b.toArray,.agg d.toArray] w (Ret (fun v_ w_=>∃ K_,v_=.bool e∧SR K K_ w w_ [] []))
def f21_spec (X:LS→LS→Option Bool):Prop:=∀ {K w a c d b e f g},X a b=some g→GK K→tS K c d a→tS K e f b→ SR K K w w [] []→Calls Tryz.prog 21 #[sl c a d,sl e b f] w (Ret (fun v_ w_=>∃ K_,v_=.bool g∧SR K K_ w w_ [] []))
def f17_spec (X:DProgram→DProgram→Option Bool):Prop:=∀ {K w a b c d e},X a c=some e→GK K→RDProgram K a b→RDProgram K c d→ SR K K w w [] []→Calls Tryz.prog 17 #[.agg b.toArray,.agg d.toArray] w (Ret (fun v_ w_=>∃ K_,v_=.bool e∧SR K K_ w w_ [] []))
def f18_spec (X:Int→Int→Option Int):Prop:=∀ {K w a b c},X a b=some c→GK K→ SR K K w w [] []→Calls Tryz.prog 18 #[iI a,iI b] w (Ret (fun v_ w_=>∃ K_,v_=iI c∧SR K K_ w w_ [] []))
def f1005707_spec (X:DFunc→BA→Option Bool):Prop:=∀ {K w a b g bs s c},X a s=some c→GK K→RDFunc K a b→s.size ≤ mB→ SR K K w w [.box bs g #[.string s] 9] [.box bs g #[.string s] 9]→Calls Tryz.prog 57 #[.agg b.toArray,.pointer (some ⟨g,0,none⟩)] w (Ret (fun v_ w_=>∃ K_,v_=.bool c∧SR K K_ w w_ [.box bs g #[.string s] 9] [.box bs g #[.string s] 9]))
def f1005676_spec (X:LF→BA→Option Int):Prop:=∀ {K w a b c g bs s d},X a s=some d→GK K→tF K b c a→s.size ≤ mB→ SR K K w w [.box bs g #[.string s] 9] [.box bs g #[.string s] 9]→Calls Tryz.prog 56 #[sl b a c,.func (.func 57) #[] #[.pointer (some ⟨g,0,none⟩)]] w (Ret (fun v_ w_=>∃ K_,v_=iI d∧SR K K_ w w_ [.box bs g #[.string s] 9] [.box bs g #[.string s] 9]))
def f129_spec (X:DExpr→Option Int):Prop:=∀ {K w a b c},X a=some c→GK K→RDExpr K a b→ SR K K w w [] []→Calls Tryz.prog 129 #[.agg b.toArray] w (Ret (fun v_ w_=>∃ K_,v_=iI c∧SR K K_ w w_ [] []))
def f1013115_spec (X:LE→Option LE):Prop:=∀ {K w a c d b},X a=some b→GK K→tE K c d a→ SR K K w w [] []→Calls Tryz.prog 131 #[sl c a d,.func (.func 129) #[] #[]] w (Ret (fun v_ w_=>∃ K_ Ar0 cr0,v_=sl Ar0 b cr0∧SR K K_ w w_ [] []∧tE K_ Ar0 cr0 b))
def f1014215_spec (X:DExpr→Option DExpr):Prop:=∀ {K w a b c},X a=some c→GK K→RDExpr K a b→ SR K K w w [] []→Calls Tryz.prog 142 #[.agg b.toArray,.func (.func 129) #[] #[]] w (Ret (fun v_ w_=>∃ K_ csr0,v_=.agg csr0.toArray∧SR K K_ w w_ [] []∧RDExpr K_ c csr0))
def f130_spec (X:DExpr→Option Int):Prop:=∀ {K w a b c},X a=some c→GK K→RDExpr K a b→ SR K K w w [] []→Calls Tryz.prog 130 #[.agg b.toArray] w (Ret (fun v_ w_=>∃ K_,v_=iI c∧SR K K_ w w_ [] []))
def f1013118_spec (X:LE→Option LE):Prop:=∀ {K w a c d b},X a=some b→GK K→tE K c d a→ SR K K w w [] []→Calls Tryz.prog 131 #[sl c a d,.func (.func 130) #[] #[]] w (Ret (fun v_ w_=>∃ K_ Ar0 cr0,v_=sl Ar0 b cr0∧SR K K_ w w_ [] []∧tE K_ Ar0 cr0 b))
def f1014218_spec (X:DExpr→Option DExpr):Prop:=∀ {K w a b c},X a=some c→GK K→RDExpr K a b→ SR K K w w [] []→Calls Tryz.prog 142 #[.agg b.toArray,.func (.func 130) #[] #[]] w (Ret (fun v_ w_=>∃ K_ csr0,v_=.agg csr0.toArray∧SR K K_ w w_ [] []∧RDExpr K_ c csr0))
def f108_spec (X:LS→Bool→Option LS):Prop:=∀ {K w a c d e b},X a e=some b→GK K→tS K c d a→ SR K K w w [] []→Calls Tryz.prog 108 #[sl c a d,.bool e] w (Ret (fun v_ w_=>∃ K_ Ar0 cr0,v_=sl Ar0 b cr0∧SR K K_ w w_ [] []∧tS K_ Ar0 cr0 b))
def f88_spec (X:DProgram→Bool→Option DProgram):Prop:=∀ {K w a b c d},X a c=some d→GK K→RDProgram K a b→ SR K K w w [] []→Calls Tryz.prog 88 #[.agg b.toArray,.bool c] w (Ret (fun v_ w_=>∃ K_ csr0,v_=.agg csr0.toArray∧SR K K_ w w_ [] []∧RDProgram K_ d csr0))
def f50_spec (X:DProgram→Option (Except Int DProgram)):Prop:=∀ {K w a b res_},X a=some res_→GK K→RDProgram K a b→ SR K K w w [] []→Calls Tryz.prog 50 #[.agg b.toArray] w (RetP (fun v_ w_=>∃ c K_ csr0,res_=.ok c∧v_=.agg csr0.toArray∧SR K K_ w w_ [] []∧RDProgram K_ c csr0) (fun v_ w_=>∃ c_ K_,res_=.error c_∧v_=.iface 109 (.agg #[iI c_])∧SR K K_ w w_ [] []))
def f1005554_spec (X:DProgram→BA→Int→Option (Except Int (DProgram × BA × Int))):Prop:=∀ {K w g bs a b c gA bsA sA gB bsB sB res_},X (DProgram.mk a) sA sB=some res_→GK K→tF K b c a→sA.size ≤ mB→ SR K K w w [.box bs g #[sl b a c] 24,.box bsA gA #[.string sA] 9,.box bsB gB #[iI sB] 3] [.box bs g #[sl b a c] 24,.box bsA gA #[.string sA] 9,.box bsB gB #[iI sB] 3]→Calls Tryz.prog 55 #[.pointer (some ⟨g,0,none⟩),.pointer (some ⟨gA,0,none⟩),.pointer (some ⟨gB,0,none⟩)] w (RetP (fun v_ w_=>∃ d zA zB K_ Az_0 cz_0,res_=.ok ((DProgram.mk d),zA,zB)∧v_=.tuple #[]∧SR K K_ w w_ [.box bs g #[sl b a c] 24,.box bsA gA #[.string sA] 9,.box bsB gB #[iI sB] 3] [.box bs g #[sl Az_0 d cz_0] 24,.box bsA gA #[.string zA] 9,.box bsB gB #[iI zB] 3]∧tF K_ Az_0 cz_0 d∧zA.size ≤ mB) (fun v_ w_=>∃ c_ K_,res_=.error c_∧v_=.iface 109 (.agg #[iI c_])∧SR K K_ w w_ [.box bs g #[sl b a c] 24,.box bsA gA #[.string sA] 9,.box bsB gB #[iI sB] 3] [.box bs g #[sl b a c] 24,.box bsA gA #[.string sA] 9,.box bsB gB #[iI sB] 3]))
def f1004292_spec (X:DProgram→BA→Int→Option (DProgram × BA × Int × Int)):Prop:=∀ {K w g bs a b c gA bsA sA gB bsB sB d zA zB e},X (DProgram.mk a) sA sB=some ((DProgram.mk d),zA,zB,e)→GK K→tF K b c a→sA.size ≤ mB→ SR K K w w [.box bs g #[sl b a c] 24,.box bsA gA #[.string sA] 9,.box bsB gB #[iI sB] 3] [.box bs g #[sl b a c] 24,.box bsA gA #[.string sA] 9,.box bsB gB #[iI sB] 3]→Calls Tryz.prog 42 #[.func (.func 55) #[] #[.pointer (some ⟨g,0,none⟩),.pointer (some ⟨gA,0,none⟩),.pointer (some ⟨gB,0,none⟩)]] w (Ret (fun v_ w_=>∃ K_ Az_0 cz_0,v_=iI e∧SR K K_ w w_ [.box bs g #[sl b a c] 24,.box bsA gA #[.string sA] 9,.box bsB gB #[iI sB] 3] [.box bs g #[sl Az_0 d cz_0] 24,.box bsA gA #[.string zA] 9,.box bsB gB #[iI zB] 3]∧tF K_ Az_0 cz_0 d∧zA.size ≤ mB))
def f30_spec (X:DProgram→BA→Option (Int × Int)):Prop:=∀ {K w b c a d e},X b a=some (d,e)→GK K→RDProgram K b c→a.size ≤ mB→ SR K K w w [] []→Calls Tryz.prog 30 #[.agg c.toArray,.string a] w (Ret (fun v_ w_=>∃ K_,v_=.tuple #[iI d,iI e]∧SR K K_ w w_ [] []))
def f45_spec (X:LF→BA→Option Int):Prop:=∀ {K w a c d b e},X a b=some e→GK K→tF K c d a→b.size ≤ mB→ SR K K w w [] []→Calls Tryz.prog 45 #[sl c a d,.string b] w (Ret (fun v_ w_=>∃ K_,v_=iI e∧SR K K_ w w_ [] []))
def f31_spec (X:DProgram→BA→Option Int):Prop:=∀ {K w b c a d},X b a=some d→GK K→RDProgram K b c→a.size ≤ mB→ SR K K w w [] []→Calls Tryz.prog 31 #[.agg c.toArray,.string a] w (Ret (fun v_ w_=>∃ K_,v_=iI d∧SR K K_ w w_ [] []))
def f66_spec (X:Int→Option Bool):Prop:=∀ {K w a b},X a=some b→GK K→ SR K K w w [] []→Calls Tryz.prog 66 #[.int .u8 a] w (Ret (fun v_ w_=>∃ K_,v_=.bool b∧SR K K_ w w_ [] []))
def f67_spec (X:Int→Option Bool):Prop:=∀ {K w a b},X a=some b→GK K→ SR K K w w [] []→Calls Tryz.prog 67 #[.int .u8 a] w (Ret (fun v_ w_=>∃ K_,v_=.bool b∧SR K K_ w w_ [] []))
def f97_spec (X:Option LB):Prop:=∀ {K w a},X =some a→GK K→ SR K K w w [] []→Calls Tryz.prog 97 #[] w (Ret (fun v_ w_=>∃ K_ Ar0 cr0,v_=sl Ar0 a cr0∧SR K K_ w w_ [] []∧RSl BA RStr 1 16 K_ Ar0 cr0 a))
def f68_spec (X:BA→Option Bool):Prop:=∀ {K w a b},X a=some b→GK K→a.size ≤ mB→ SR K K w w [] []→Calls Tryz.prog 68 #[.string a] w (Ret (fun v_ w_=>∃ K_,v_=.bool b∧SR K K_ w w_ [] []))
def f34_spec (X:BA→Option Bool):Prop:=∀ {K w a b},X a=some b→GK K→a.size ≤ mB→ SR K K w w [] []→Calls Tryz.prog 34 #[.string a] w (Ret (fun v_ w_=>∃ K_,v_=.bool b∧SR K K_ w w_ [] []))
def f59_spec (X:DSize→Bool→Option DSize):Prop:=∀ {K w g bs a b c d e f h},X (DSize.mk a b c) d=some (DSize.mk e f h)→GK K→ SR K K w w [.box bs g #[iI a,iI b,.bool c] 56] [.box bs g #[iI a,iI b,.bool c] 56]→Calls Tryz.prog 59 #[.pointer (some ⟨g,0,none⟩),.bool d] w (Ret (fun v_ w_=>∃ K_,v_=.tuple #[]∧SR K K_ w w_ [.box bs g #[iI a,iI b,.bool c] 56] [.box bs g #[iI e,iI f,.bool h] 56]))
def f60_spec (X:DSize→Int→Option DSize):Prop:=∀ {K w g bs a b c d e f h},X (DSize.mk a b c) d=some (DSize.mk e f h)→GK K→ SR K K w w [.box bs g #[iI a,iI b,.bool c] 56] [.box bs g #[iI a,iI b,.bool c] 56]→Calls Tryz.prog 60 #[.pointer (some ⟨g,0,none⟩),iI d] w (Ret (fun v_ w_=>∃ K_,v_=.tuple #[]∧SR K K_ w w_ [.box bs g #[iI a,iI b,.bool c] 56] [.box bs g #[iI e,iI f,.bool h] 56]))
def f109_spec (X:Int→Option (DShape × Bool)):Prop:=∀ {K w a b c},X a=some (b,c)→GK K→ SR K K w w [] []→Calls Tryz.prog 109 #[iI a] w (Ret (fun v_ w_=>∃ K_ csr0,v_=.tuple #[.agg csr0.toArray,.bool c]∧SR K K_ w w_ [] []∧RDShape K_ b csr0))
def f132_spec (X:BA→Option Bool):Prop:=∀ {K w a b},X a=some b→GK K→a.size ≤ mB→ SR K K w w [] []→Calls Tryz.prog 132 #[.string a] w (Ret (fun v_ w_=>∃ K_,v_=.bool b∧SR K K_ w w_ [] []))
def f110_spec (X:DSize→DExpr→Int→Bool→Option DSize):Prop:=∀ {K w g bs a b c d e f h i j k},X (DSize.mk a b c) d f h=some (DSize.mk i j k)→GK K→RDExpr K d e→ SR K K w w [.box bs g #[iI a,iI b,.bool c] 56] [.box bs g #[iI a,iI b,.bool c] 56]→Calls Tryz.prog 110 #[.pointer (some ⟨g,0,none⟩),.agg e.toArray,iI f,.bool h] w (Ret (fun v_ w_=>∃ K_,v_=.tuple #[]∧SR K K_ w w_ [.box bs g #[iI a,iI b,.bool c] 56] [.box bs g #[iI i,iI j,.bool k] 56]))
def f61_spec (X:DSize→LS→Int→Option DSize):Prop:=∀ {K w g bs a b c d e f h i j k},X (DSize.mk a b c) d h=some (DSize.mk i j k)→GK K→tS K e f d→ SR K K w w [.box bs g #[iI a,iI b,.bool c] 56] [.box bs g #[iI a,iI b,.bool c] 56]→Calls Tryz.prog 61 #[.pointer (some ⟨g,0,none⟩),sl e d f,iI h] w (Ret (fun v_ w_=>∃ K_,v_=.tuple #[]∧SR K K_ w w_ [.box bs g #[iI a,iI b,.bool c] 56] [.box bs g #[iI i,iI j,.bool k] 56]))
def f90_spec (X:DSize→DStmt→Int→Option DSize):Prop:=∀ {K w g bs a b c d e f h i j},X (DSize.mk a b c) d f=some (DSize.mk h i j)→GK K→RDStmt K d e→ SR K K w w [.box bs g #[iI a,iI b,.bool c] 56] [.box bs g #[iI a,iI b,.bool c] 56]→Calls Tryz.prog 90 #[.pointer (some ⟨g,0,none⟩),.agg e.toArray,iI f] w (Ret (fun v_ w_=>∃ K_,v_=.tuple #[]∧SR K K_ w w_ [.box bs g #[iI a,iI b,.bool c] 56] [.box bs g #[iI h,iI i,.bool j] 56]))
def f111_spec (X:DSize→DCase→Int→Option DSize):Prop:=∀ {K w g bs a b c d e f h i j},X (DSize.mk a b c) d f=some (DSize.mk h i j)→GK K→RDCase K d e→ SR K K w w [.box bs g #[iI a,iI b,.bool c] 56] [.box bs g #[iI a,iI b,.bool c] 56]→Calls Tryz.prog 111 #[.pointer (some ⟨g,0,none⟩),.agg e.toArray,iI f] w (Ret (fun v_ w_=>∃ K_,v_=.tuple #[]∧SR K K_ w w_ [.box bs g #[iI a,iI b,.bool c] 56] [.box bs g #[iI h,iI i,.bool j] 56]))
def f32_spec (X:DProgram→Option DSize):Prop:=∀ {K w a b c},X a=some c→GK K→RDProgram K a b→ SR K K w w [] []→Calls Tryz.prog 32 #[.agg b.toArray] w (Ret (fun v_ w_=>∃ K_ csr0,v_=.agg csr0.toArray∧SR K K_ w w_ [] []∧RDSize K_ c csr0))
def f9_spec (X:DProgram→Int→Option Bool):Prop:=∀ {K w a b c d},X a c=some d→GK K→RDProgram K a b→ SR K K w w [] []→Calls Tryz.prog 9 #[.agg b.toArray,iI c] w (Ret (fun v_ w_=>∃ K_,v_=.bool d∧SR K K_ w w_ [] []))
end Go.Proofs.YtoajecnoffhlbaaGreatDoor
set_option maxRecDepth 100000
set_option maxHeartbeats 4000000
namespace Go.Proofs.YtoajecnoffhlbaaGreatDoor
open Go
theorem f100_b_ok (k:Nat) (F:Fam100) (IH100:f100_spec F.f100):f100_spec (f100_b k F):=by
 unfold f100_spec
 intro K wi e s t f ad h hG A B
 obtain ⟨r_,hr_,h⟩:=rz h
 refine enter Tryz.func100 rfl (n:=31) rfl ?_
 unfold f100_b at h
 refine sr (m2 (iI 0) (wt (wp_seq (sr (m1 (iI f) (c0 (decide (f > 60)) (wt (cd h (fun x h=>?_) (fun x h=>?_)))))))))
 ·refine cT x (sr (m2 (iI 4000) (wt (wp_ret (thenR ?_)))))
  cases (oi h).trans hr_
  exact retA1 rfl (resT rfl) ⟨K,rfl,B⟩
 ·refine cF x (wp_skip (thenN (sr (m2 (iI 0) (wt (wp_cut (fun a w=>∃ C u m,a=fr 31 (updL C [(5,iI m)])∧KH.sub K u∧SR K u wi w [] []∧f100_j1 k F m=some r_) ?_ ?_))))))
  ·refine sr (m2 (iI 0) (wt (wp_block (wp_loopG (fun g_ a w=>∃ D p g,∃ (c:Nat),∃ d,g_=g.length∧a=fr 31 (updL D [(0,sl s e t),(1,iI f),(5,iI d),(6,iI (c:Int))])∧KH.sub K p∧SR K p wi w [] []∧e.drop c=g∧f100_l1 k F f g c d=some r_) e.length ?_ ?_))))
   ·exact ⟨_,K,e,0,0,rfl,fR,kr,B,List.drop_zero,h⟩
   ·rintro _ _ ae ⟨D,p,g,c,d,rfl,rfl,j,q,l,h⟩
    rcases g with _ | ⟨⟨af,ag,ah,ai,G⟩,g⟩
    ·unfold f100_l1 at h
     exact wp_seq (sr (m1 (iI (c:Int)) (m1 (sl s e t) (lS e.length Tye39 (bcm (r:=false) rfl rfl (congrArg some (drop_nil_lt l)) (m1 vN (o0 13 (o0 13 (m3 false vN rfl (wt (cndF rfl (wp_exit (thenX (thenX (blkX (thenN (⟨_,p,d,fR,j,q,h⟩)))))))))))))))))
    ·unfold f100_l1 at h
     refine wp_seq (sr (m1 (iI (c:Int)) (m1 (sl s e t) (lS e.length Tye39 (bcm (r:=true) rfl rfl (congrArg some (drop_cons_t l)) (m1 vT (n0 13 (m1 (iI d) (n0 13 (c0 (decide (d ≤ 2000)) (m3 true (.bool (decide (d ≤ 2000))) rfl (wt (cd h (fun y h=>?_) (fun y h=>?_))))))))))))))
     ·refine cT y (wp_skip (thenN (wp_seq (wp_block (wp_region_lit (m1 (iI d) (bar (r:=(w64 (d + 1))) rfl rfl rfl (m1 (sl s e t) (m1 (iI (c:Int)) ?_)))))))))
      obtain ⟨S,I,aj,U,ak,V,W⟩:=((me A j)).row.at_ (drop_cons_at l)
      obtain ⟨J,N,rfl,al,X⟩:=RDExpr.open W
      refine idxN (b:=S) (o:=I) (i:=c) Tye39 Tys107 rfl U rfl (drop_cons_lt l) (fd (I + c * 5 + 4) Tyf107_4 rfl (ld1 (v:=sl J G N) Tya39 rfl (q.cell (kr.cell (V 4 _ rfl))) (m1 (iI f) (bar (r:=(w64 (f + 1))) rfl rfl rfl ?_))))
      obtain ⟨z,Y,h⟩:=ob h
      refine cv ([sl J G N,iI (w64 (f + 1))]) Tyb100 (IH100 Y (hG.mono j) X (pt q)) ?_
      rintro _ am ⟨Z,rfl,O⟩
      have ab:=ca O q
      exact bar (r:=(w64 ((w64 (d + 1)) + z))) rfl rfl rfl (m2 (iI (w64 ((w64 (d + 1)) + z))) (wpList_nil (blkN (thenN (wp_region_lit (m1 (iI (c:Int)) (bar (r:=((c + 1:Nat):Int)) rfl rfl (inc_ok (le_big (((me A j)).len) (by decide) (drop_cons_lt l))) (m2 (iI ((c + 1:Nat):Int)) (wt (⟨_,Nat.lt_succ_self _,_,Z,g,c + 1,(w64 ((w64 (d + 1)) + z)),rfl,fR,(j.trans O.sub),ab,drop_cons_next l,h⟩))))))))))
     ·exact cF y (wp_exit (thenX (thenX (blkX (thenN (⟨_,p,d,fR,j,q,h⟩))))))
  ·rintro _ an ⟨C,u,m,rfl,ao,ac,h⟩
   unfold f100_j1 at h
   refine sr (m1 (iI m) (m2 (iI m) (wt (wp_ret ?_))))
   cases (oi h).trans hr_
   exact retA1 rfl (resT rfl) ⟨u,rfl,ac⟩
theorem fam100_ok (k0:Nat) : ∀ k,f100_spec (fam100 k0 k).f100:=by
 intro k
 induction k with
 | zero=>exact (by unfold f100_spec; intro _ _ _ _ _ _ _ h_; cases h_)
 | succ k ih=>exact f100_b_ok k0 (fam100 k0 k) ih
theorem f100_ok (k:Nat):f100_spec (f100 k):=(fam100_ok k k)
theorem f76_b_ok (k:Nat) (F:Fam76) (IH76:f76_spec F.f76):f76_spec (f76_b k F):=by
 unfold f76_spec
 intro K wi y ak al c bC h hG aY aZ
 obtain ⟨r_,hr_,h⟩:=rz h
 refine enter Tryz.func76 rfl (n:=85) rfl ?_
 unfold f76_b at h
 refine sr (m2 (iI 0) (wt (wp_seq (sr (m1 (iI c) (c0 (decide (c > 40)) (wt (cd h (fun aP h=>?_) (fun aP h=>?_)))))))))
 ·refine cT aP (sr (m2 (iI 4000) (wt (wp_ret (thenR ?_)))))
  cases (oi h).trans hr_
  exact retA1 rfl (resT rfl) ⟨K,rfl,aZ⟩
 ·refine cF aP (wp_skip (thenN (sr (m2 (iI 0) (wt (wp_cut (fun a w=>∃ a2 aE ax,a=fr 85 (updL a2 [(5,iI ax)])∧KH.sub K aE∧SR K aE wi w [] []∧f76_j1 k F ax=some r_) ?_ ?_))))))
  ·refine sr (m2 (iI 0) (wt (wp_block (wp_loopG (fun g_ a w=>∃ a3 ae D,∃ (s:Nat),∃ d,g_=D.length∧a=fr 85 (updL a3 [(0,sl ak y al),(1,iI c),(5,iI d),(6,iI (s:Int))])∧KH.sub K ae∧SR K ae wi w [] []∧y.drop s=D∧f76_l1 k F c D s d=some r_) y.length ?_ ?_))))
   ·exact ⟨_,K,y,0,0,rfl,fR,kr,aZ,List.drop_zero,h⟩
   ·rintro _ _ B ⟨a3,ae,D,s,d,rfl,rfl,z,aF,am,h⟩
    rcases D with _ | ⟨⟨an,ao,ap,aq,ar,au,G,I,J,N,q⟩,D⟩
    ·unfold f76_l1 at h
     exact wp_seq (sr (m1 (iI (s:Int)) (m1 (sl ak y al) (lS y.length Tye36 (bcm (r:=false) rfl rfl (congrArg some (drop_nil_lt am)) (m1 vN (o0 15 (o0 15 (m3 false vN rfl (wt (cndF rfl (wp_exit (thenX (thenX (blkX (thenN (⟨_,ae,d,fR,z,aF,h⟩)))))))))))))))))
    ·unfold f76_l1 at h
     refine wp_seq (sr (m1 (iI (s:Int)) (m1 (sl ak y al) (lS y.length Tye36 (bcm (r:=true) rfl rfl (congrArg some (drop_cons_t am)) (m1 vT (n0 15 (m1 (iI d) (n0 15 (c0 (decide (d ≤ 2000)) (m3 true (.bool (decide (d ≤ 2000))) rfl (wt (cd h (fun aQ h=>?_) (fun aQ h=>?_))))))))))))))
     ·refine cT aQ (wp_skip (thenN (wp_cut (fun a w=>∃ a4 aG aH,a=fr 85 (updL a4 [(0,sl ak y al),(1,iI c),(5,iI aH),(6,iI (s:Int))])∧KH.sub ae aG∧SR K aG wi w [] []∧f76_j2 k F s aH (f76_l1 k F c D)=some r_) ?_ ?_)))
      ·refine wp_block (sr (m1 (sl ak y al) (m1 (iI (s:Int)) ?_)))
       obtain ⟨ba,bb,bD,bd,bE,be,bf⟩:=((ms aY z)).row.at_ (drop_cons_at am)
       obtain ⟨O,S,U,V,W,X,Y,Z,u,x,rfl,bF,bG,bg,bh,bi,bj,a5⟩:=RDStmt.open bf
       refine idxN (b:=ba) (o:=bb) (i:=s) Tye36 Tys42 rfl bd rfl (drop_cons_lt am) (lD (vS an ao ap aq ar au O G S U I V W J X Y N Z u q x) Tya42 Tys42 rfl (fun j v hj=>aF.cell (kr.cell (be j v hj))) (aC zS.toArray aF Tyz42 (fun bH bk=>(sI 0 (.agg (vS an ao ap aq ar au O G S U I V W J X Y N Z u q x).toArray) ((vS an ao ap aq ar au O G S U I V W J X Y N Z u q x).toArray) bk Tys42 rfl rfl (fun bI bm=>(wt (wp_seq (have g:=bm.drew;(regAny (E:=[]) (F:=FW ae [.box (zz wi) (zz B) (vS an ao ap aq ar au O G S U I V W J X Y N Z u q x).toArray 42]) (L:=(lb 27 0)) ymx rfl rfl (tk 0 (iI d) (lb 27 1) rfl (fun w=>mv_r (v:=iI d) rfl) (heldF (fq [0] g)) (tk 1 (iI (w64 (d + 1))) (lb 27 3) rfl (fun w=>bar_r (r:=(w64 (d + 1))) rfl rfl rfl) (heldF (fq [0] g)) (tk 2 (pp (zz B) 6) (lb 27 7) rfl (fun w=>fld_r (o':=6) Tyf42_6 rfl rfl) (heldF (fq [0] g)) (tf 3 (sl O G S) ([]) (lb 27 15) rfl (fq [0] g) (fun w hF=>lb1_r (i:=0) (v:=sl O G S) hF rfl Tya39 rfl rfl) (tk 4 (iI c) (lb 27 31) rfl (fun w=>mv_r (v:=iI c) rfl) (heldF (fq [0] g)) (tk 5 (iI (w64 (c + 1))) (lb 27 63) rfl (fun w=>bar_r (r:=(w64 (c + 1))) rfl rfl rfl) (heldF (fq [0] g)) (tk 8 (pp (zz B) 7) (lb 27 319) rfl (fun w=>fld_r (o':=7) Tyf42_7 rfl rfl) (heldF (fq [0] g)) (tf 9 (sl U I V) ([]) (lb 27 831) rfl (fq [0] g) (fun w hF=>lb1_r (i:=0) (v:=sl U I V) hF rfl Tya36 rfl rfl) (tk 10 (iI c) (lb 27 1855) rfl (fun w=>mv_r (v:=iI c) rfl) (heldF (fq [0] g)) (tk 11 (iI (w64 (c + 1))) (lb 27 3903) rfl (fun w=>bar_r (r:=(w64 (c + 1))) rfl rfl rfl) (heldF (fq [0] g)) (tk 14 (pp (zz B) 8) (lb 27 20287) rfl (fun w=>fld_r (o':=8) Tyf42_8 rfl rfl) (heldF (fq [0] g)) (tf 15 (sl W J X) ([]) (lb 27 53055) rfl (fq [0] g) (fun w hF=>lb1_r (i:=0) (v:=sl W J X) hF rfl Tya36 rfl rfl) (tk 16 (iI c) (lb 27 118591) rfl (fun w=>mv_r (v:=iI c) rfl) (heldF (fq [0] g)) (tk 17 (iI (w64 (c + 1))) (lb 27 249663) rfl (fun w=>bar_r (r:=(w64 (c + 1))) rfl rfl rfl) (heldF (fq [0] g)) (tk 20 (pp (zz B) 9) (lb 27 1298239) rfl (fun w=>fld_r (o':=9) Tyf42_9 rfl rfl) (heldF (fq [0] g)) (tf 21 (sl Y N Z) ([]) (lb 27 3395391) rfl (fq [0] g) (fun w hF=>lb1_r (i:=0) (v:=sl Y N Z) hF rfl Tya36 rfl rfl) (tk 22 (iI c) (lb 27 7589695) rfl (fun w=>mv_r (v:=iI c) rfl) (heldF (fq [0] g)) (tk 23 (iI (w64 (c + 1))) (lb 27 15978303) rfl (fun w=>bar_r (r:=(w64 (c + 1))) rfl rfl rfl) (heldF (fq [0] g)) (aO 6 rfl ?_))))))))))))))))))))))))))))
       obtain ⟨A,bn,h⟩:=ob h
       refine cv ([sl O G S,iI (w64 (c + 1))]) Tyb100 ((f100_ok k) bn (hG.mono z) bg (pt g)) ?_
       rintro _ bJ ⟨bK,rfl,e⟩
       have aI:=ca e g
       refine wt ⟨heldF (fwOf (is:=[0]) aI e.sub rfl),tk 7 (iI (w64 ((w64 (d + 1)) + A))) (lb 27 15978495) rfl (fun w=>bar_r (r:=(w64 ((w64 (d + 1)) + A))) rfl rfl rfl) (heldF (fwOf (is:=[0]) aI e.sub rfl)) (aO 12 rfl ?_)⟩
       obtain ⟨ab,bo,h⟩:=ob h
       refine cv ([sl U I V,iI (w64 (c + 1))]) Tyb76 (IH76 bo (hG.mono (z.trans e.sub)) (ms bh e.sub) (pt aI)) ?_
       rintro _ bL ⟨bM,rfl,p⟩
       have aJ:=ca p aI
       refine wt ⟨heldF (fwOf (is:=[0]) aJ (e.sub.trans p.sub) rfl),tk 13 (iI (w64 ((w64 ((w64 (d + 1)) + A)) + ab))) (lb 27 15990783) rfl (fun w=>bar_r (r:=(w64 ((w64 ((w64 (d + 1)) + A)) + ab))) rfl rfl rfl) (heldF (fwOf (is:=[0]) aJ (e.sub.trans p.sub) rfl)) (aO 18 rfl ?_)⟩
       obtain ⟨af,bp,h⟩:=ob h
       refine cv ([sl W J X,iI (w64 (c + 1))]) Tyb76 (IH76 bp (hG.mono ((z.trans e.sub).trans p.sub)) (ms bi (e.sub.trans p.sub)) (pt aJ)) ?_
       rintro _ bN ⟨bO,rfl,t⟩
       have aK:=ca t aJ
       refine wt ⟨heldF (fwOf (is:=[0]) aK ((e.sub.trans p.sub).trans t.sub) rfl),tk 19 (iI (w64 ((w64 ((w64 ((w64 (d + 1)) + A)) + ab)) + af))) (lb 27 16777215) rfl (fun w=>bar_r (r:=(w64 ((w64 ((w64 ((w64 (d + 1)) + A)) + ab)) + af))) rfl rfl rfl) (heldF (fwOf (is:=[0]) aK ((e.sub.trans p.sub).trans t.sub) rfl)) (aO 24 rfl ?_)⟩
       obtain ⟨ay,bq,h⟩:=ob h
       refine cv ([sl Y N Z,iI (w64 (c + 1))]) Tyb76 (IH76 bq (hG.mono (((z.trans e.sub).trans p.sub).trans t.sub)) (ms bj ((e.sub.trans p.sub).trans t.sub)) (pt aK)) ?_
       rintro _ bP ⟨a6,rfl,C⟩
       have aL:=ca C aK
       refine wt ⟨heldF (fwOf (is:=[0]) aL (((e.sub.trans p.sub).trans t.sub).trans C.sub) rfl),tk 25 (iI (w64 ((w64 ((w64 ((w64 ((w64 (d + 1)) + A)) + ab)) + af)) + ay))) (lb 27 67108863) rfl (fun w=>bar_r (r:=(w64 ((w64 ((w64 ((w64 ((w64 (d + 1)) + A)) + ab)) + af)) + ay))) rfl rfl rfl) (heldF (fwOf (is:=[0]) aL (((e.sub.trans p.sub).trans t.sub).trans C.sub) rfl)) (tk 26 (iI (w64 ((w64 ((w64 ((w64 ((w64 (d + 1)) + A)) + ab)) + af)) + ay))) (lb 27 134217727) rfl (fun w=>asg_r (v:=iI (w64 ((w64 ((w64 ((w64 ((w64 (d + 1)) + A)) + ab)) + af)) + ay))) rfl) (heldF (fwOf (is:=[0]) aL (((e.sub.trans p.sub).trans t.sub).trans C.sub) rfl)) (aD (thenN (sr (m2 (iI 0) (wt (wp_block (wp_loopG (fun g_ a w=>∃ a7 av ag,∃ (f:Nat),∃ m,g_=ag.length∧a=fr 85 (updL a7 [(0,sl ak y al),(1,iI c),(5,iI m),(6,iI (s:Int)),(7,pp (zz B) 0),(8,iI (f:Int))])∧KH.sub a6 av∧SR K av wi w [] [.box (zz wi) (zz B) (vS an ao ap aq ar au O G S U I V W J X Y N Z u q x).toArray 42]∧q.drop f=ag∧f76_l2 k F c s (f76_l1 k F c D) ag f m=some r_) q.length ?_ ?_))))))))⟩
       ·exact ⟨_,a6,q,0,(w64 ((w64 ((w64 ((w64 ((w64 (d + 1)) + A)) + ab)) + af)) + ay)),rfl,fR,kr,aL,List.drop_zero,h⟩
       ·rintro _ _ bQ ⟨a7,av,ag,f,m,rfl,rfl,ah,az,ai,h⟩
        rcases ag with _ | ⟨⟨bR,bS,bT,aR,aS⟩,ag⟩
        ·unfold f76_l2 at h
         exact wp_seq (sr (m1 (iI (f:Int)) (fd 10 Tyf42_10 rfl (l1 0 (sl u q x) az Tya40 (lS q.length Tye40 (bcm (r:=false) rfl rfl (congrArg some (drop_nil_lt ai)) (m1 vN (o0 56 (o0 56 (m3 false vN rfl (wt (cndF rfl (wp_exit (thenX (thenX (blkX (blkN (thenN (⟨_,av,m,fR,((((e.sub.trans p.sub).trans t.sub).trans C.sub).trans ah),(az.sel []),h⟩)))))))))))))))))))
        ·unfold f76_l2 at h
         refine wp_seq (sr (m1 (iI (f:Int)) (fd 10 Tyf42_10 rfl (l1 0 (sl u q x) az Tya40 (lS q.length Tye40 (bcm (r:=true) rfl rfl (congrArg some (drop_cons_t ai)) (m1 vT (n0 56 (m1 (iI m) (n0 56 (c0 (decide (m ≤ 2000)) (m3 true (.bool (decide (m ≤ 2000))) rfl (wt (cd h (fun aT h=>?_) (fun aT h=>?_)))))))))))))))
         ·refine cT aT (wp_skip (thenN (wp_seq (wp_block (have l:=az.drew;(regAny (E:=[]) (F:=FW av [.box (zz wi) (zz B) (vS an ao ap aq ar au O G S U I V W J X Y N Z u q x).toArray 42]) (L:=(lb 23 0)) ymx rfl rfl (tk 0 (iI m) (lb 23 1) rfl (fun w=>mv_r (v:=iI m) rfl) (heldF (fq [0] l)) (tk 1 (iI (w64 (m + 1))) (lb 23 3) rfl (fun w=>bar_r (r:=(w64 (m + 1))) rfl rfl rfl) (heldF (fq [0] l)) (tk 2 (pp (zz B) 10) (lb 23 7) rfl (fun w=>fld_r (o':=10) Tyf42_10 rfl rfl) (heldF (fq [0] l)) (tf 3 (sl u q x) ([]) (lb 23 15) rfl (fq [0] l) (fun w hF=>lb1_r (i:=0) (v:=sl u q x) hF rfl Tya40 rfl rfl) (tk 4 (iI (f:Int)) (lb 23 31) rfl (fun w=>mv_r (v:=iI (f:Int)) rfl) (heldF (fq [0] l)) ?_)))))))))))
          obtain ⟨aw,ad,bU,a8,bV,a9,br⟩:=((mc a5 ((((e.sub.trans p.sub).trans t.sub).trans C.sub).trans ah))).row.at_ (drop_cons_at ai)
          obtain ⟨aU,aV,aW,aX,rfl,bW,bs,bu⟩:=RDCase.open br
          refine tk 5 (pp aw (ad + f * 5)) (lb 23 63) rfl (fun w=>idxN_r (b:=aw) (o:=ad) (i:=f) Tye40 Tys87 rfl a8 rfl (drop_cons_lt ai)) (heldF (fq [0] l)) (tk 6 (pp aw (ad + f * 5 + 3)) (lb 23 127) rfl (fun w=>fld_r (o':=ad + f * 5 + 3) Tyf87_3 rfl rfl) (heldF (fq [0] l)) (tf 7 (sl aU aR aV) ([]) (lb 23 255) rfl (fq [0] l) (fun w hF=>ld1_r (v:=sl aU aR aV) Tya39 rfl (hF.cell (kr.cell (a9 3 _ rfl)))) (tk 8 (iI c) (lb 23 511) rfl (fun w=>mv_r (v:=iI c) rfl) (heldF (fq [0] l)) (tk 9 (iI (w64 (c + 1))) (lb 23 1023) rfl (fun w=>bar_r (r:=(w64 (c + 1))) rfl rfl rfl) (heldF (fq [0] l)) (tk 12 (pp (zz B) 10) (lb 23 5119) rfl (fun w=>fld_r (o':=10) Tyf42_10 rfl rfl) (heldF (fq [0] l)) (tf 13 (sl u q x) ([]) (lb 23 13311) rfl (fq [0] l) (fun w hF=>lb1_r (i:=0) (v:=sl u q x) hF rfl Tya40 rfl rfl) (tk 14 (iI (f:Int)) (lb 23 29695) rfl (fun w=>mv_r (v:=iI (f:Int)) rfl) (heldF (fq [0] l)) (tk 15 (pp aw (ad + f * 5)) (lb 23 62463) rfl (fun w=>idxN_r (b:=aw) (o:=ad) (i:=f) Tye40 Tys87 rfl a8 rfl (drop_cons_lt ai)) (heldF (fq [0] l)) (tk 16 (pp aw (ad + f * 5 + 4)) (lb 23 127999) rfl (fun w=>fld_r (o':=ad + f * 5 + 4) Tyf87_4 rfl rfl) (heldF (fq [0] l)) (tf 17 (sl aW aS aX) ([]) (lb 23 259071) rfl (fq [0] l) (fun w hF=>ld1_r (v:=sl aW aS aX) Tya36 rfl (hF.cell (kr.cell (a9 4 _ rfl)))) (tk 18 (iI c) (lb 23 521215) rfl (fun w=>mv_r (v:=iI c) rfl) (heldF (fq [0] l)) (tk 19 (iI (w64 (c + 1))) (lb 23 1045503) rfl (fun w=>bar_r (r:=(w64 (c + 1))) rfl rfl rfl) (heldF (fq [0] l)) (aO 10 rfl ?_)))))))))))))
          obtain ⟨aj,bv,h⟩:=ob h
          refine cv ([sl aU aR aV,iI (w64 (c + 1))]) Tyb100 ((f100_ok k) bv (hG.mono (((((z.trans e.sub).trans p.sub).trans t.sub).trans C.sub).trans ah)) bs (pt l)) ?_
          rintro _ bX ⟨bY,rfl,ac⟩
          have aM:=ca ac l
          refine wt ⟨heldF (fwOf (is:=[0]) aM ac.sub rfl),tk 11 (iI (w64 ((w64 (m + 1)) + aj))) (lb 23 1048575) rfl (fun w=>bar_r (r:=(w64 ((w64 (m + 1)) + aj))) rfl rfl rfl) (heldF (fwOf (is:=[0]) aM ac.sub rfl)) (aO 20 rfl ?_)⟩
          obtain ⟨aA,bw,h⟩:=ob h
          refine cv ([sl aW aS aX,iI (w64 (c + 1))]) Tyb76 (IH76 bw (hG.mono ((((((z.trans e.sub).trans p.sub).trans t.sub).trans C.sub).trans ah).trans ac.sub)) (ms bu ac.sub) (pt aM)) ?_
          rintro _ bZ ⟨bx,rfl,aB⟩
          have aN:=ca aB aM
          exact wt ⟨heldF (fwOf (is:=[0]) aN (ac.sub.trans aB.sub) rfl),tk 21 (iI (w64 ((w64 ((w64 (m + 1)) + aj)) + aA))) (lb 23 4194303) rfl (fun w=>bar_r (r:=(w64 ((w64 ((w64 (m + 1)) + aj)) + aA))) rfl rfl rfl) (heldF (fwOf (is:=[0]) aN (ac.sub.trans aB.sub) rfl)) (tk 22 (iI (w64 ((w64 ((w64 (m + 1)) + aj)) + aA))) (lb 23 8388607) rfl (fun w=>asg_r (v:=iI (w64 ((w64 ((w64 (m + 1)) + aj)) + aA))) rfl) (heldF (fwOf (is:=[0]) aN (ac.sub.trans aB.sub) rfl)) (aD (blkN (thenN (wp_region_lit (m1 (iI (f:Int)) (bar (r:=((f + 1:Nat):Int)) rfl rfl (inc_ok (le_big (((mc a5 ((((e.sub.trans p.sub).trans t.sub).trans C.sub).trans ah))).len) (by decide) (drop_cons_lt ai))) (m2 (iI ((f + 1:Nat):Int)) (wt (⟨_,Nat.lt_succ_self _,_,bx,ag,f + 1,(w64 ((w64 ((w64 (m + 1)) + aj)) + aA)),rfl,fR,((ah.trans ac.sub).trans aB.sub),aN,drop_cons_next ai,h⟩))))))))))⟩
         ·exact cF aT (wp_exit (thenX (thenX (blkX (blkN (thenN (⟨_,av,m,fR,((((e.sub.trans p.sub).trans t.sub).trans C.sub).trans ah),(az.sel []),h⟩)))))))
      ·rintro _ b0 ⟨a4,aG,aH,rfl,bz,bA,h⟩
       unfold f76_j2 at h
       exact wp_region_lit (m1 (iI (s:Int)) (bar (r:=((s + 1:Nat):Int)) rfl rfl (inc_ok (le_big (((ms aY z)).len) (by decide) (drop_cons_lt am))) (m2 (iI ((s + 1:Nat):Int)) (wt (⟨_,Nat.lt_succ_self _,_,aG,D,s + 1,aH,rfl,fR,(z.trans bz),bA,drop_cons_next am,h⟩)))))
     ·exact cF aQ (wp_exit (thenX (thenX (blkX (thenN (⟨_,ae,d,fR,z,aF,h⟩))))))
  ·rintro _ b1 ⟨a2,aE,ax,rfl,b2,bB,h⟩
   unfold f76_j1 at h
   refine sr (m1 (iI ax) (m2 (iI ax) (wt (wp_ret ?_))))
   cases (oi h).trans hr_
   exact retA1 rfl (resT rfl) ⟨aE,rfl,bB⟩
theorem fam76_ok (k0:Nat) : ∀ k,f76_spec (fam76 k0 k).f76:=by
 intro k
 induction k with
 | zero=>exact (by unfold f76_spec; intro _ _ _ _ _ _ _ h_; cases h_)
 | succ k ih=>exact f76_b_ok k0 (fam76 k0 k) ih
theorem f76_ok (k:Nat):f76_spec (f76 k):=(fam76_ok k k)
theorem f40_b_ok (k:Nat):f40_spec (f40_b k):=by
 unfold f40_spec
 intro K wi I ad ae h hG J N
 obtain ⟨r_,hr_,h⟩:=rz h
 obtain ⟨e⟩:=I
 obtain ⟨p,c1,rfl,x⟩:=RDProgram.open J
 refine enter Tryz.func40 rfl (n:=28) rfl ?_
 unfold f40_b at h
 refine sr (bxoC (cs:=#[sl p e c1]) N rfl rfl (fun af O=>(m2 vN (wt (sr (m2 (iI 0) (wt (wp_cut (fun a w=>∃ y s j,a=fr 28 (updL y [(3,iI j)])∧KH.sub K s∧SR K s wi w [] []∧f40_j1 k j=some r_) ?_ ?_))))))))
 ·refine sr (m2 (iI 0) (wt (wp_block (wp_loopG (fun g_ a w=>∃ z q g,∃ (c:Nat),∃ d,g_=g.length∧a=fr 28 (updL z [(1,pp (zz wi) 0),(3,iI d),(4,iI (c:Int))])∧KH.sub K q∧SR K q wi w [] [.box (zz wi) (zz wi) #[sl p e c1] 24]∧e.drop c=g∧f40_l1 k g c d=some r_) e.length ?_ ?_))))
  ·exact ⟨_,K,e,0,0,rfl,fR,kr,O,List.drop_zero,h⟩
  ·rintro _ _ ag ⟨z,q,g,c,d,rfl,rfl,l,f,m,h⟩
   rcases g with _ | ⟨⟨ah,ai,aj,ak,al,A⟩,g⟩
   ·unfold f40_l1 at h
    exact wp_seq (sr (m1 (iI (c:Int)) (fd 0 Tyf24_0 rfl (l1 0 (sl p e c1) f Tya22 (lS e.length Tye22 (bcm (r:=false) rfl rfl (congrArg some (drop_nil_lt m)) (m1 vN (o0 10 (o0 10 (m3 false vN rfl (wt (cndF rfl (wp_exit (thenX (thenX (blkX (thenN (⟨_,q,d,fR,l,(f.sel []),h⟩))))))))))))))))))
   ·unfold f40_l1 at h
    refine wp_seq (sr (m1 (iI (c:Int)) (fd 0 Tyf24_0 rfl (l1 0 (sl p e c1) f Tya22 (lS e.length Tye22 (bcm (r:=true) rfl rfl (congrArg some (drop_cons_t m)) (m1 vT (n0 10 (m1 (iI d) (n0 10 (c0 (decide (d ≤ 2000)) (m3 true (.bool (decide (d ≤ 2000))) rfl (wt (cd h (fun t h=>?_) (fun t h=>?_)))))))))))))))
    ·refine cT t (wp_skip (thenN (wp_seq (wp_block (wp_region_lit (m1 (iI d) (bar (r:=(w64 (d + 1))) rfl rfl rfl (fd 0 Tyf24_0 rfl (l1 0 (sl p e c1) f Tya22 (m1 (iI (c:Int)) ?_))))))))))
     obtain ⟨S,B,am,U,an,V,W⟩:=((mf x l)).row.at_ (drop_cons_at m)
     obtain ⟨ao,ap,C,D,rfl,aq,ar,X⟩:=RDFunc.open W
     refine idxN (b:=S) (o:=B) (i:=c) Tye22 Tys38 rfl U rfl (drop_cons_lt m) (fd (B + c * 6 + 5) Tyf38_5 rfl (ld1 (v:=sl C A D) Tya36 rfl (f.cell (kr.cell (V 5 _ rfl))) ?_))
     obtain ⟨u,Y,h⟩:=ob h
     refine cv ([sl C A D,iI 0]) Tyb76 ((f76_ok k) Y (hG.mono l) X (pt f)) ?_
     rintro _ au ⟨Z,rfl,G⟩
     have ab:=ca G f
     exact bar (r:=(w64 ((w64 (d + 1)) + u))) rfl rfl rfl (m2 (iI (w64 ((w64 (d + 1)) + u))) (wpList_nil (blkN (thenN (wp_region_lit (m1 (iI (c:Int)) (bar (r:=((c + 1:Nat):Int)) rfl rfl (inc_ok (le_big (((mf x l)).len) (by decide) (drop_cons_lt m))) (m2 (iI ((c + 1:Nat):Int)) (wt (⟨_,Nat.lt_succ_self _,_,Z,g,c + 1,(w64 ((w64 (d + 1)) + u)),rfl,fR,(l.trans G.sub),ab,drop_cons_next m,h⟩))))))))))
    ·exact cF t (wp_exit (thenX (thenX (blkX (thenN (⟨_,q,d,fR,l,(f.sel []),h⟩))))))
 ·rintro _ av ⟨y,s,j,rfl,aw,ac,h⟩
  unfold f40_j1 at h
  refine sr (m1 (iI j) (c0 (decide (j ≤ 2000)) (m2 (.bool (decide (j ≤ 2000))) (wt (wp_ret ?_)))))
  cases (oi h).trans hr_
  exact retA1 rfl (resT rfl) ⟨s,rfl,ac⟩
theorem f40_ok (k:Nat):f40_spec (f40 k):=f40_b_ok k
theorem f13_b_ok (k:Nat):f13_spec (f13_b k):=by
 unfold f13_spec
 intro K wi d p q h hG e f
 obtain ⟨r_,hr_,h⟩:=rz h
 obtain ⟨a⟩:=d
 obtain ⟨b,c1,rfl,g⟩:=RDProgram.open e
 refine enter Tryz.func13 rfl (n:=5) rfl ?_
 unfold f13_b at h
 refine sr (bxoC (cs:=#[sl b a c1]) f rfl rfl (fun r c=>(m2 vN (wt (sr (lN 0 ([sl b a c1]) c Tya24 Tys24 ?_))))))
 obtain ⟨i,j,h⟩:=ob h
 refine cv ([.agg #[sl b a c1]]) Tyb40 ((f40_ok k) j (hG.mono kr) (RDProgram.intro g) (pt c)) ?_
 rintro _ s ⟨l,rfl,m⟩
 have o:=ca m c
 refine m2 (.bool i) (wt (wp_ret ?_))
 cases (oi h).trans hr_
 exact retA1 rfl (resT rfl) ⟨l,rfl,(o.sel [])⟩
theorem f13_ok (k:Nat):f13_spec (f13 k):=f13_b_ok k
theorem f1008100_b_ok (k:Nat):f1008100_spec (f1008100_b k):=by
 unfold f1008100_spec
 intro K wi d u g bs b v w x y z A B C D G h hG e I J N f
 obtain ⟨r_,hr_,h⟩:=rz h
 obtain ⟨a,i,j,l,m,o⟩:=d
 obtain ⟨p,q,s,t,rfl,O,S,U⟩:=RDFunc.open e
 refine enter Tryz.func81 rfl (n:=9) rfl ?_
 unfold f1008100_b at h
 refine sr (bxoC (cs:=(vF a p i q j l m s o t).toArray) f rfl rfl (fun V c=>(m2 vN (wt (sr (fd 0 Tyf38_0 rfl (l1 1 (.string b) c Tya9 (fd 0 Tyf38_0 rfl (l1 0 (.string a) c Tya9 (bsc (r:=(seq b a)) rfl rfl rfl (m2 (.bool (seq b a)) (wt (wp_ret ?_)))))))))))))
 cases (oi h).trans hr_
 exact retA1 rfl (resT rfl) ⟨K,rfl,(c.sel [1])⟩
theorem f1008100_ok (k:Nat):f1008100_spec (f1008100 k):=f1008100_b_ok k
theorem f1005656_b_ok (k:Nat):f1005656_spec (f1005656_b k):=by
 unfold f1005656_spec
 intro K wi d q s g bs t u C D x y z A G I aq h hG J ah ai aj ak
 obtain ⟨r_,hr_,h⟩:=rz h
 refine enter Tryz.func56 rfl (n:=19) rfl ?_
 unfold f1005656_b at h
 refine sr (m2 (iI 0) (wt (wp_seq (sr (m1 (sl q d s) (lS d.length Tye22 (m1 (iI 0) (wt (wp_block (wp_loopG (fun g_ a w=>∃ N m e,∃ (c:Nat),g_=e.length∧a=fr 19 (updL N [(0,sl q d s),(1,.func (.func 81) #[] #[pp g 0]),(7,iI (d.length:Int)),(8,iI (c:Int))])∧KH.sub K m∧SR K m wi w [.box bs g (vF t C u D x y z G A I).toArray 38] [.box bs g (vF t C u D x y z G A I).toArray 38]∧d.drop c=e∧f1005656_l1 k t u x y z A e c=some r_) d.length ?_ ?_))))))))))
 ·exact ⟨_,K,d,0,rfl,fR,kr,ak,List.drop_zero,h⟩
 ·rintro _ _ ar ⟨N,m,e,c,rfl,rfl,f,p,l,h⟩
  rcases e with _ | ⟨⟨O,S,U,V,W,X⟩,e⟩
  ·unfold f1005656_l1 at h
   refine sr (bcm (r:=false) rfl rfl (congrArg some (drop_nil_lt l)) (wt (wp_seq (cndF rfl (wp_exit (thenX (thenX (blkX (thenN (sr (m2 (iI (-1)) (wt (wp_ret ?_)))))))))))))
   cases (oi h).trans hr_
   exact retA1 rfl (resT rfl) ⟨m,rfl,p⟩
  ·unfold f1005656_l1 at h
   refine sr (bcm (r:=true) rfl rfl (congrArg some (drop_cons_t l)) (wt (wp_seq (cndT rfl (wp_skip (thenN (wp_seq (wp_block (sr (m1 (iI (c:Int)) (m2 (iI (c:Int)) (wt (sr (m1 (.func (.func 81) #[] #[pp g 0]) (m1 (sl q d s) (m1 (iI (c:Int)) ?_))))))))))))))))
   obtain ⟨al,am,au,an,av,ao,Y⟩:=((mf J f)).row.at_ (drop_cons_at l)
   obtain ⟨Z,ab,ac,ad,rfl,aw,ax,ay⟩:=RDFunc.open Y
   refine idxN (b:=al) (o:=am) (i:=c) Tye22 Tys38 rfl an rfl (drop_cons_lt l) (lD (vF O Z S ab U V W ac X ad) Tya38 Tys38 rfl (fun j v hj=>p.cell (kr.cell (ao j v hj))) ?_)
   obtain ⟨az,ap,h⟩:=ob h
   refine clV (caps:=#[pp g 0]) (vs:=[.agg (vF O Z S ab U V W ac X ad).toArray,pp g 0]) rfl Tyb81 rfl ((f1008100_ok k) ap (hG.mono f) Y ah (mp ai f) (ms aj f) (pt p)) ?_
   rintro _ aA ⟨ae,rfl,af⟩
   have ag:=ca af p
   refine wt (cd h (fun B h=>?_) (fun B h=>?_))
   ·refine cT B (sr (m1 (iI (c:Int)) (m2 (iI (c:Int)) (wt (wp_ret (blkR (thenR (thenR (blkR (thenR ?_))))))))))
    cases (oi h).trans hr_
    exact retA1 rfl (resT rfl) ⟨ae,rfl,ag⟩
   ·exact cF B (wp_skip (blkN (thenN (wp_region_lit (bar (r:=((c + 1:Nat):Int)) rfl rfl (inc_ok (le_big (((mf J f)).len) (by decide) (drop_cons_lt l))) (m1 (iI ((c + 1:Nat):Int)) (wt (⟨_,Nat.lt_succ_self _,_,ae,e,c + 1,rfl,fR,(f.trans af.sub),ag,drop_cons_next l,h⟩))))))))
theorem f1005656_ok (k:Nat):f1005656_spec (f1005656 k):=f1005656_b_ok k
theorem f1008056_b_ok (k:Nat):f1008056_spec (f1008056_b k):=by
 unfold f1008056_spec
 intro K wi b c d g bs r s t u v w x y z A a h hG f i j l e
 obtain ⟨r_,hr_,h⟩:=rz h
 refine enter Tryz.func80 rfl (n:=9) rfl ?_
 unfold f1008056_b at h
 refine sr (m2 vN (wt (sr (m1 (sl c b d) (m1 (.func (.func 81) #[] #[pp g 0]) ?_)))))
 obtain ⟨a,m,h⟩:=ob h
 refine cv ([sl c b d,.func (.func 81) #[] #[pp g 0]]) Tyb56 ((f1005656_ok k) m (hG.mono kr) f i j l (pt e)) ?_
 rintro _ B ⟨o,rfl,p⟩
 have q:=ca p e
 refine c0 (decide (a ≥ 0)) (m2 (.bool (decide (a ≥ 0))) (wt (wp_ret ?_)))
 cases (oi h).trans hr_
 exact retA1 rfl (resT rfl) ⟨o,rfl,q⟩
theorem f1008056_ok (k:Nat):f1008056_spec (f1008056 k):=f1008056_b_ok k
theorem f58_b_ok (k:Nat):f58_spec (f58_b k):=by
 unfold f58_spec
 intro K wi c a r_ h hG d
 refine enter Tryz.func58 rfl (n:=9) rfl ?_
 unfold f58_b at h
 refine sr (m1 (.bool c) (uN c (wt (cd h (fun b h=>?_) (fun b h=>?_)))))
 ·exact cT b (wp_region_lit (m1 (iI a) (bld (cells:=#[iI a]) (vs:=[(0,iI a)]) rfl (fun w=>by kernel_rfl) (mki (v:=.agg #[iI a]) Tyc109 rfl (pnc rfl (panE (.inr ⟨_,rfl,a,K,(oi h).symm,rfl,d.sel []⟩)))))))
 ·exact cF b (wp_skip (retP (end0 rfl ⟨K,(oi h).symm,rfl,d⟩)))
theorem f58_ok (k:Nat):f58_spec (f58 k):=f58_b_ok k
theorem f116_b_ok (k:Nat):f116_spec (f116_b k):=by
 unfold f116_spec
 intro K wi c e d l h hG g
 obtain ⟨r_,hr_,h⟩:=rz h
 refine enter Tryz.func116 rfl (n:=15) rfl ?_
 unfold f116_b at h
 refine sr (m2 vN (wt (wp_cut (fun a w=>∃ i f,a=fr 15 (updL i [(6,.bool f)])∧SR K K wi w [] []∧f116_j1 k f=some r_) ?_ ?_)))
 ·refine wp_region_lit (m1 (iI c) (m1 (iI e) (c0 (decide (c ≥ e)) (m1 (.bool (decide (c ≥ e))) (cd h (fun b h=>?_) (fun b h=>?_))))))
  ·exact n1 10 b (m1 (iI c) (n1 10 b (m1 (iI d) (n1 10 b (c0 (decide (c ≤ d)) (m3 true (.bool (decide (c ≤ d))) (cg b) (m2 (.bool (decide (c ≤ d))) (wt (⟨_,(decide (c ≤ d)),fR,g,h⟩)))))))))
  ·exact o1 10 b (o1 10 b (o1 10 b (m3 false vN (cg b) (m2 vN (wt (⟨_,false,fR,g,h⟩))))))
 ·rintro _ m ⟨i,f,rfl,j,h⟩
  unfold f116_j1 at h
  refine wp_ret ?_
  cases (oi h).trans hr_
  exact retA1 rfl (resT rfl) ⟨K,rfl,j⟩
theorem f116_ok (k:Nat):f116_spec (f116 k):=f116_b_ok k
theorem f117_b_ok (k:Nat):f117_spec (f117_b k):=by
 unfold f117_spec
 intro K wi g bs c e i d x y z A h hG j
 obtain ⟨r_,hr_,h⟩:=rz h
 refine enter Tryz.func117 rfl (n:=30) rfl ?_
 unfold f117_b at h
 refine sr (m2 vN (wt (sr (m1 (pp g 0) (nilc rfl (fd 0 Tyf132_0 rfl (l1 0 (iI c) j Tya3 (bar (r:=(w64 (c + 1))) rfl rfl rfl (nilc rfl (fd 0 Tyf132_0 rfl (sI 0 (iI (w64 (c + 1))) #[iI (w64 (c + 1)),iI e,.bool i] j Tys3 rfl rfl (fun B j=>(wt (sr (m1 (pp g 0) (m1 (pp g 0) (nilc rfl (fd 1 Tyf132_1 rfl (l1 0 (iI e) j Tya3 (m1 (iI d) (mxb (a:=e) (b:=d) rfl rfl (nilc rfl (fd 1 Tyf132_1 rfl (sI 0 (iI (imax e d)) #[iI (w64 (c + 1)),iI (imax e d),.bool i] j Tys3 rfl rfl (fun C l=>(wt (wp_cut (fun a w=>∃ o m,a=fr 30 (updL o [(4,.bool m)])∧SR K K wi w [.box bs g #[iI c,iI e,.bool i] 132] [.box bs g #[iI (w64 (c + 1)),iI (imax e d),.bool i] 132]∧f117_j1 k c e i d m=some r_) ?_ ?_)))))))))))))))))))))))))))
 ·refine wp_region_lit (m1 (pp g 0) (nilc rfl (fd 0 Tyf132_0 rfl (l1 0 (iI (w64 (c + 1))) l Tya3 (c0 (decide ((w64 (c + 1)) ≤ 600)) (m1 (.bool (decide ((w64 (c + 1)) ≤ 600))) (cd h (fun f h=>?_) (fun f h=>?_))))))))
  ·exact n1 26 f (m1 (iI d) (n1 26 f (c0 (decide (d ≤ 16)) (m3 true (.bool (decide (d ≤ 16))) (cg f) (m2 (.bool (decide (d ≤ 16))) (wt (⟨_,(decide (d ≤ 16)),fR,l,h⟩)))))))
  ·exact o1 26 f (o1 26 f (m3 false vN (cg f) (m2 vN (wt (⟨_,false,fR,l,h⟩)))))
 ·rintro _ D ⟨o,m,rfl,p,h⟩
  unfold f117_j1 at h
  refine wp_ret ?_
  have e_:=(Option.some.inj h).trans hr_
  obtain ⟨q,s⟩:=Prod.mk.inj e_
  obtain ⟨t,u,v⟩:=Dcounter.mk.inj q
  subst t
  subst u
  subst v
  subst s
  exact retA1 rfl (resT rfl) ⟨K,rfl,p⟩
theorem f117_ok (k:Nat):f117_spec (f117 k):=f117_b_ok k
theorem f150_b_ok (k:Nat):f150_spec (f150_b k):=by
 unfold f150_spec
 intro K wi bh h hG a
 obtain ⟨r_,hr_,h⟩:=rz h
 refine enter Tryz.func150 rfl (n:=32) rfl ?_
 unfold f150_b at h
 refine sr (m2 (.map none) (wt (sr (mkm a (fun bi a=>(bld (cells:=#[iI 1,vN,iI 1,iI 1,vN]) (vs:=[(0,iI 1),(1,vN),(2,iI 1),(3,iI 1),(4,vN)]) rfl (fun w=>by kernel_rfl) (mup_ (kv:=kI) (q:=qI) (R:=(VAgg (RDshape K))) (xs:=([]:List (Int × Dshape))) (k:=1) (u:=(Dshape.mk 1 false 1 1 false)) (uv:=.agg #[iI 1,vN,iI 1,iI 1,vN]) (i:=0) (.inl rfl) a rfl Tym187 (und_i64 Tyk3) keI (mapr0 (kv:=kI) (R:=(VAgg (RDshape K)))) rfl rfl rfl ⟨[iI 1,vN,iI 1,iI 1,vN],rfl,.mk⟩ (fun bj bk bm b c=>(bld (cells:=#[iI 1,vN,iI 1,iI 1,vN]) (vs:=[(0,iI 1),(1,vN),(2,iI 1),(3,iI 1),(4,vN)]) rfl (fun w=>by kernel_rfl) (mup_ (kv:=kI) (q:=qI) (R:=(VAgg (RDshape K))) (k:=2) (u:=(Dshape.mk 1 false 1 1 false)) (uv:=.agg #[iI 1,vN,iI 1,iI 1,vN]) (i:=0) (.inl rfl) b rfl Tym187 (und_i64 Tyk3) keI c rfl rfl rfl ⟨[iI 1,vN,iI 1,iI 1,vN],rfl,.mk⟩ (fun bn bo bp d e=>(bld (cells:=#[iI 2,vT,iI 0,iI 601,vN]) (vs:=[(0,iI 2),(1,vT),(2,iI 0),(3,iI 601),(4,vN)]) rfl (fun w=>by kernel_rfl) (mup_ (kv:=kI) (q:=qI) (R:=(VAgg (RDshape K))) (k:=3) (u:=(Dshape.mk 2 true 0 601 false)) (uv:=.agg #[iI 2,vT,iI 0,iI 601,vN]) (i:=0) (.inl rfl) d rfl Tym187 (und_i64 Tyk3) keI e rfl rfl rfl ⟨[iI 2,vT,iI 0,iI 601,vN],rfl,.mk⟩ (fun f g j l m=>?_))))))))))))))
 have o:SR K K wi j [] [.mp (zz wi) (zz wi) f g]:=l
 refine bld (cells:=#[iI 2,vT,iI 0,iI 601,vN]) (vs:=[(0,iI 2),(1,vT),(2,iI 0),(3,iI 601),(4,vN)]) rfl (fun w=>by kernel_rfl) (mup_ (kv:=kI) (q:=qI) (R:=(VAgg (RDshape K))) (k:=4) (u:=(Dshape.mk 2 true 0 601 false)) (uv:=.agg #[iI 2,vT,iI 0,iI 601,vN]) (i:=0) (.inl rfl) o rfl Tym187 (und_i64 Tyk3) keI m rfl rfl rfl ⟨[iI 2,vT,iI 0,iI 601,vN],rfl,.mk⟩ (fun bq br bs p r=>(bld (cells:=#[iI 2,vN,iI 1,iI 1,vN]) (vs:=[(0,iI 2),(1,vN),(2,iI 1),(3,iI 1),(4,vN)]) rfl (fun w=>by kernel_rfl) (mup_ (kv:=kI) (q:=qI) (R:=(VAgg (RDshape K))) (k:=5) (u:=(Dshape.mk 2 false 1 1 false)) (uv:=.agg #[iI 2,vN,iI 1,iI 1,vN]) (i:=0) (.inl rfl) p rfl Tym187 (und_i64 Tyk3) keI r rfl rfl rfl ⟨[iI 2,vN,iI 1,iI 1,vN],rfl,.mk⟩ (fun bu bv bw s t=>(bld (cells:=#[iI 2,vN,iI 1,iI 1,vN]) (vs:=[(0,iI 2),(1,vN),(2,iI 1),(3,iI 1),(4,vN)]) rfl (fun w=>by kernel_rfl) (mup_ (kv:=kI) (q:=qI) (R:=(VAgg (RDshape K))) (k:=6) (u:=(Dshape.mk 2 false 1 1 false)) (uv:=.agg #[iI 2,vN,iI 1,iI 1,vN]) (i:=0) (.inl rfl) s rfl Tym187 (und_i64 Tyk3) keI t rfl rfl rfl ⟨[iI 2,vN,iI 1,iI 1,vN],rfl,.mk⟩ (fun v x y z A=>?_))))))))
 have B:SR K K wi y [] [.mp (zz wi) (zz wi) v x]:=z
 refine bld (cells:=#[iI 1,vN,iI 1,iI 1,vN]) (vs:=[(0,iI 1),(1,vN),(2,iI 1),(3,iI 1),(4,vN)]) rfl (fun w=>by kernel_rfl) (mup_ (kv:=kI) (q:=qI) (R:=(VAgg (RDshape K))) (k:=7) (u:=(Dshape.mk 1 false 1 1 false)) (uv:=.agg #[iI 1,vN,iI 1,iI 1,vN]) (i:=0) (.inl rfl) B rfl Tym187 (und_i64 Tyk3) keI A rfl rfl rfl ⟨[iI 1,vN,iI 1,iI 1,vN],rfl,.mk⟩ (fun bx bz bA C D=>(bld (cells:=#[iI 1,vN,iI 1,iI 1,vN]) (vs:=[(0,iI 1),(1,vN),(2,iI 1),(3,iI 1),(4,vN)]) rfl (fun w=>by kernel_rfl) (mup_ (kv:=kI) (q:=qI) (R:=(VAgg (RDshape K))) (k:=8) (u:=(Dshape.mk 1 false 1 1 false)) (uv:=.agg #[iI 1,vN,iI 1,iI 1,vN]) (i:=0) (.inl rfl) C rfl Tym187 (und_i64 Tyk3) keI D rfl rfl rfl ⟨[iI 1,vN,iI 1,iI 1,vN],rfl,.mk⟩ (fun bB bC bD G I=>(bld (cells:=#[iI 1,vN,iI 0,iI 0,vN]) (vs:=[(0,iI 1),(1,vN),(2,iI 0),(3,iI 0),(4,vN)]) rfl (fun w=>by kernel_rfl) (mup_ (kv:=kI) (q:=qI) (R:=(VAgg (RDshape K))) (k:=9) (u:=(Dshape.mk 1 false 0 0 false)) (uv:=.agg #[iI 1,vN,iI 0,iI 0,vN]) (i:=0) (.inl rfl) G rfl Tym187 (und_i64 Tyk3) keI I rfl rfl rfl ⟨[iI 1,vN,iI 0,iI 0,vN],rfl,.mk⟩ (fun J N O S U=>?_))))))))
 have V:SR K K wi O [] [.mp (zz wi) (zz wi) J N]:=S
 refine bld (cells:=#[iI 0,vN,iI 2,iI 2,vN]) (vs:=[(0,iI 0),(1,vN),(2,iI 2),(3,iI 2),(4,vN)]) rfl (fun w=>by kernel_rfl) (mup_ (kv:=kI) (q:=qI) (R:=(VAgg (RDshape K))) (k:=10) (u:=(Dshape.mk 0 false 2 2 false)) (uv:=.agg #[iI 0,vN,iI 2,iI 2,vN]) (i:=0) (.inl rfl) V rfl Tym187 (und_i64 Tyk3) keI U rfl rfl rfl ⟨[iI 0,vN,iI 2,iI 2,vN],rfl,.mk⟩ (fun bE bF bG W X=>(bld (cells:=#[iI 0,vN,iI 1,iI 1,vN]) (vs:=[(0,iI 0),(1,vN),(2,iI 1),(3,iI 1),(4,vN)]) rfl (fun w=>by kernel_rfl) (mup_ (kv:=kI) (q:=qI) (R:=(VAgg (RDshape K))) (k:=11) (u:=(Dshape.mk 0 false 1 1 false)) (uv:=.agg #[iI 0,vN,iI 1,iI 1,vN]) (i:=0) (.inl rfl) W rfl Tym187 (und_i64 Tyk3) keI X rfl rfl rfl ⟨[iI 0,vN,iI 1,iI 1,vN],rfl,.mk⟩ (fun bH bI bJ Y Z=>(bld (cells:=#[iI 0,vN,iI 1,iI 1,vN]) (vs:=[(0,iI 0),(1,vN),(2,iI 1),(3,iI 1),(4,vN)]) rfl (fun w=>by kernel_rfl) (mup_ (kv:=kI) (q:=qI) (R:=(VAgg (RDshape K))) (k:=12) (u:=(Dshape.mk 0 false 1 1 false)) (uv:=.agg #[iI 0,vN,iI 1,iI 1,vN]) (i:=0) (.inl rfl) Y rfl Tym187 (und_i64 Tyk3) keI Z rfl rfl rfl ⟨[iI 0,vN,iI 1,iI 1,vN],rfl,.mk⟩ (fun ab ac ad ae af=>?_))))))))
 have ag:SR K K wi ad [] [.mp (zz wi) (zz wi) ab ac]:=ae
 refine bld (cells:=#[iI 0,vN,iI 0,iI 0,vN]) (vs:=[]) rfl (fun w=>by kernel_rfl) (mup_ (kv:=kI) (q:=qI) (R:=(VAgg (RDshape K))) (k:=13) (u:=(Dshape.mk 0 false 0 0 false)) (uv:=.agg #[iI 0,vN,iI 0,iI 0,vN]) (i:=0) (.inl rfl) ag rfl Tym187 (und_i64 Tyk3) keI af rfl rfl rfl ⟨[iI 0,vN,iI 0,iI 0,vN],rfl,.mk⟩ (fun bK bL bM ah ai=>(bld (cells:=#[iI 0,vN,iI 1,iI 1,vN]) (vs:=[(0,iI 0),(1,vN),(2,iI 1),(3,iI 1),(4,vN)]) rfl (fun w=>by kernel_rfl) (mup_ (kv:=kI) (q:=qI) (R:=(VAgg (RDshape K))) (k:=14) (u:=(Dshape.mk 0 false 1 1 false)) (uv:=.agg #[iI 0,vN,iI 1,iI 1,vN]) (i:=0) (.inl rfl) ah rfl Tym187 (und_i64 Tyk3) keI ai rfl rfl rfl ⟨[iI 0,vN,iI 1,iI 1,vN],rfl,.mk⟩ (fun bN bO bP aj ak=>(bld (cells:=#[iI 0,vN,iI 1,iI 1,vN]) (vs:=[(0,iI 0),(1,vN),(2,iI 1),(3,iI 1),(4,vN)]) rfl (fun w=>by kernel_rfl) (mup_ (kv:=kI) (q:=qI) (R:=(VAgg (RDshape K))) (k:=15) (u:=(Dshape.mk 0 false 1 1 false)) (uv:=.agg #[iI 0,vN,iI 1,iI 1,vN]) (i:=0) (.inl rfl) aj rfl Tym187 (und_i64 Tyk3) keI ak rfl rfl rfl ⟨[iI 0,vN,iI 1,iI 1,vN],rfl,.mk⟩ (fun al am an ao ap=>?_))))))))
 have aq:SR K K wi an [] [.mp (zz wi) (zz wi) al am]:=ao
 refine bld (cells:=#[iI 0,vN,iI 1,iI 1,vN]) (vs:=[(0,iI 0),(1,vN),(2,iI 1),(3,iI 1),(4,vN)]) rfl (fun w=>by kernel_rfl) (mup_ (kv:=kI) (q:=qI) (R:=(VAgg (RDshape K))) (k:=16) (u:=(Dshape.mk 0 false 1 1 false)) (uv:=.agg #[iI 0,vN,iI 1,iI 1,vN]) (i:=0) (.inl rfl) aq rfl Tym187 (und_i64 Tyk3) keI ap rfl rfl rfl ⟨[iI 0,vN,iI 1,iI 1,vN],rfl,.mk⟩ (fun bQ bR bS ar au=>(bld (cells:=#[iI 0,vN,iI 0,iI 1,vN]) (vs:=[(0,iI 0),(1,vN),(2,iI 0),(3,iI 1),(4,vN)]) rfl (fun w=>by kernel_rfl) (mup_ (kv:=kI) (q:=qI) (R:=(VAgg (RDshape K))) (k:=17) (u:=(Dshape.mk 0 false 0 1 false)) (uv:=.agg #[iI 0,vN,iI 0,iI 1,vN]) (i:=0) (.inl rfl) ar rfl Tym187 (und_i64 Tyk3) keI au rfl rfl rfl ⟨[iI 0,vN,iI 0,iI 1,vN],rfl,.mk⟩ (fun bT bU bV av aw=>(bld (cells:=#[iI 0,vN,iI 0,iI 0,vN]) (vs:=[]) rfl (fun w=>by kernel_rfl) (mup_ (kv:=kI) (q:=qI) (R:=(VAgg (RDshape K))) (k:=18) (u:=(Dshape.mk 0 false 0 0 false)) (uv:=.agg #[iI 0,vN,iI 0,iI 0,vN]) (i:=0) (.inl rfl) av rfl Tym187 (und_i64 Tyk3) keI aw rfl rfl rfl ⟨[iI 0,vN,iI 0,iI 0,vN],rfl,.mk⟩ (fun ax ay az aA aB=>?_))))))))
 have aE:SR K K wi az [] [.mp (zz wi) (zz wi) ax ay]:=aA
 refine bld (cells:=#[iI 0,vN,iI 0,iI 0,vN]) (vs:=[]) rfl (fun w=>by kernel_rfl) (mup_ (kv:=kI) (q:=qI) (R:=(VAgg (RDshape K))) (k:=19) (u:=(Dshape.mk 0 false 0 0 false)) (uv:=.agg #[iI 0,vN,iI 0,iI 0,vN]) (i:=0) (.inl rfl) aE rfl Tym187 (und_i64 Tyk3) keI aB rfl rfl rfl ⟨[iI 0,vN,iI 0,iI 0,vN],rfl,.mk⟩ (fun bW bX bY aF aG=>(bld (cells:=#[iI 0,vN,iI 1,iI 1,vT]) (vs:=[(0,iI 0),(1,vN),(2,iI 1),(3,iI 1),(4,vT)]) rfl (fun w=>by kernel_rfl) (mup_ (kv:=kI) (q:=qI) (R:=(VAgg (RDshape K))) (k:=20) (u:=(Dshape.mk 0 false 1 1 true)) (uv:=.agg #[iI 0,vN,iI 1,iI 1,vT]) (i:=0) (.inl rfl) aF rfl Tym187 (und_i64 Tyk3) keI aG rfl rfl rfl ⟨[iI 0,vN,iI 1,iI 1,vT],rfl,.mk⟩ (fun bZ b0 b1 aH aI=>(bld (cells:=#[iI 0,vN,iI 1,iI 1,vT]) (vs:=[(0,iI 0),(1,vN),(2,iI 1),(3,iI 1),(4,vT)]) rfl (fun w=>by kernel_rfl) (mup_ (kv:=kI) (q:=qI) (R:=(VAgg (RDshape K))) (k:=21) (u:=(Dshape.mk 0 false 1 1 true)) (uv:=.agg #[iI 0,vN,iI 1,iI 1,vT]) (i:=0) (.inl rfl) aH rfl Tym187 (und_i64 Tyk3) keI aI rfl rfl rfl ⟨[iI 0,vN,iI 1,iI 1,vT],rfl,.mk⟩ (fun aJ aK aL aM aN=>?_))))))))
 have aP:SR K K wi aL [] [.mp (zz wi) (zz wi) aJ aK]:=aM
 refine bld (cells:=#[iI 0,vN,iI 0,iI 1,vT]) (vs:=[(0,iI 0),(1,vN),(2,iI 0),(3,iI 1),(4,vT)]) rfl (fun w=>by kernel_rfl) (mup_ (kv:=kI) (q:=qI) (R:=(VAgg (RDshape K))) (k:=22) (u:=(Dshape.mk 0 false 0 1 true)) (uv:=.agg #[iI 0,vN,iI 0,iI 1,vT]) (i:=0) (.inl rfl) aP rfl Tym187 (und_i64 Tyk3) keI aN rfl rfl rfl ⟨[iI 0,vN,iI 0,iI 1,vT],rfl,.mk⟩ (fun b2 b3 b4 aQ aR=>(bld (cells:=#[iI 0,vN,iI 0,iI 0,vT]) (vs:=[(0,iI 0),(1,vN),(2,iI 0),(3,iI 0),(4,vT)]) rfl (fun w=>by kernel_rfl) (mup_ (kv:=kI) (q:=qI) (R:=(VAgg (RDshape K))) (k:=23) (u:=(Dshape.mk 0 false 0 0 true)) (uv:=.agg #[iI 0,vN,iI 0,iI 0,vT]) (i:=0) (.inl rfl) aQ rfl Tym187 (und_i64 Tyk3) keI aR rfl rfl rfl ⟨[iI 0,vN,iI 0,iI 0,vT],rfl,.mk⟩ (fun b5 b6 b7 aS aT=>(bld (cells:=#[iI 2,vN,iI 0,iI 0,vT]) (vs:=[(0,iI 2),(1,vN),(2,iI 0),(3,iI 0),(4,vT)]) rfl (fun w=>by kernel_rfl) (mup_ (kv:=kI) (q:=qI) (R:=(VAgg (RDshape K))) (k:=24) (u:=(Dshape.mk 2 false 0 0 true)) (uv:=.agg #[iI 2,vN,iI 0,iI 0,vT]) (i:=0) (.inl rfl) aS rfl Tym187 (und_i64 Tyk3) keI aT rfl rfl rfl ⟨[iI 2,vN,iI 0,iI 0,vT],rfl,.mk⟩ (fun aU aV aW aX aY=>?_))))))))
 have aZ:SR K K wi aW [] [.mp (zz wi) (zz wi) aU aV]:=aX
 refine bld (cells:=#[iI 1,vN,iI 1,iI 1,vT]) (vs:=[(0,iI 1),(1,vN),(2,iI 1),(3,iI 1),(4,vT)]) rfl (fun w=>by kernel_rfl) (mup_ (kv:=kI) (q:=qI) (R:=(VAgg (RDshape K))) (k:=25) (u:=(Dshape.mk 1 false 1 1 true)) (uv:=.agg #[iI 1,vN,iI 1,iI 1,vT]) (i:=0) (.inl rfl) aZ rfl Tym187 (und_i64 Tyk3) keI aY rfl rfl rfl ⟨[iI 1,vN,iI 1,iI 1,vT],rfl,.mk⟩ (fun b8 b9 cb a0 a1=>(bld (cells:=#[iI 0,vN,iI 1,iI 1,vT]) (vs:=[(0,iI 0),(1,vN),(2,iI 1),(3,iI 1),(4,vT)]) rfl (fun w=>by kernel_rfl) (mup_ (kv:=kI) (q:=qI) (R:=(VAgg (RDshape K))) (k:=26) (u:=(Dshape.mk 0 false 1 1 true)) (uv:=.agg #[iI 0,vN,iI 1,iI 1,vT]) (i:=0) (.inl rfl) a0 rfl Tym187 (und_i64 Tyk3) keI a1 rfl rfl rfl ⟨[iI 0,vN,iI 1,iI 1,vT],rfl,.mk⟩ (fun cc ce cf a2 a3=>(bld (cells:=#[iI 0,vN,iI 0,iI 0,vN]) (vs:=[]) rfl (fun w=>by kernel_rfl) (mup_ (kv:=kI) (q:=qI) (R:=(VAgg (RDshape K))) (k:=27) (u:=(Dshape.mk 0 false 0 0 false)) (uv:=.agg #[iI 0,vN,iI 0,iI 0,vN]) (i:=0) (.inl rfl) a2 rfl Tym187 (und_i64 Tyk3) keI a3 rfl rfl rfl ⟨[iI 0,vN,iI 0,iI 0,vN],rfl,.mk⟩ (fun a4 a5 a6 a7 a8=>?_))))))))
 have a9:SR K K wi a6 [] [.mp (zz wi) (zz wi) a4 a5]:=a7
 refine bld (cells:=#[iI 1,vT,iI 0,iI 601,vT]) (vs:=[(0,iI 1),(1,vT),(2,iI 0),(3,iI 601),(4,vT)]) rfl (fun w=>by kernel_rfl) (mup_ (kv:=kI) (q:=qI) (R:=(VAgg (RDshape K))) (k:=28) (u:=(Dshape.mk 1 true 0 601 true)) (uv:=.agg #[iI 1,vT,iI 0,iI 601,vT]) (i:=0) (.inl rfl) a9 rfl Tym187 (und_i64 Tyk3) keI a8 rfl rfl rfl ⟨[iI 1,vT,iI 0,iI 601,vT],rfl,.mk⟩ (fun ch ci cj ba bb=>(bld (cells:=#[iI 0,vN,iI 1,iI 1,vN]) (vs:=[(0,iI 0),(1,vN),(2,iI 1),(3,iI 1),(4,vN)]) rfl (fun w=>by kernel_rfl) (mup_ (kv:=kI) (q:=qI) (R:=(VAgg (RDshape K))) (k:=29) (u:=(Dshape.mk 0 false 1 1 false)) (uv:=.agg #[iI 0,vN,iI 1,iI 1,vN]) (i:=0) (.inl rfl) ba rfl Tym187 (und_i64 Tyk3) keI bb rfl rfl rfl ⟨[iI 0,vN,iI 1,iI 1,vN],rfl,.mk⟩ (fun bd be ck bf bg=>(m1 (.map (some (zz wi))) (m2 (.map (some (zz wi))) (wt (wp_ret ?_)))))))))
 cases (oi h).trans hr_
 exact retA1 rfl (resT rfl) ⟨K,(zz wi),bd,be,rfl,bf,bg⟩
theorem f150_ok (k:Nat):f150_spec (f150 k):=f150_b_ok k
theorem f151_b_ok (k:Nat):f151_spec (f151_b k):=by
 unfold f151_spec
 intro K wi aI a3 a4 h hG aJ aK
 obtain ⟨r_,hr_,h⟩:=rz h
 obtain ⟨f,g,S,U,V,b,W,X,j,d,Y⟩:=aI
 obtain ⟨Z,ab,ac,ad,D,G,x,y,ae,af,rfl,a5,a6,a7,a8,a9,ba,bb⟩:=RDStmt.open aJ
 refine enter Tryz.func151 rfl (n:=97) rfl ?_
 unfold f151_b at h
 refine sr (bxoC (cs:=(vS f g S U V b Z W ab ac X ad D j G x d y ae Y af).toArray) aK rfl rfl (fun bd c=>(m2 vN (wt (sr (m2 vN (m2 vN (wt (sr (fd 5 Tyf42_5 rfl (l1 0 (iI b) c Tya3 (c0 (b == 0) (m2 (.bool (b == 0)) (wt (wp_cut (fun a w=>∃ au z A v B,a=fr 97 (updL au [(1,pp (zz wi) 0),(3,.bool A),(4,.bool v),(5,.bool B)])∧KH.sub K z∧SR K z wi w [] [.box (zz wi) (zz wi) (vS f g S U V b Z W ab ac X ad D j G x d y ae Y af).toArray 42]∧f151_j1 k j d A v B=some r_) ?_ ?_)))))))))))))))
 ·refine sr (fd 0 Tyf42_0 rfl (l1 0 (iI f) c Tya3 (wt (wp_block (sr (c0 (f == 6) (m2 (.bool (f == 6)) (wt (cd h (fun ag h=>?_) (fun ag h=>?_))))))))))
  ·refine cT ag (wp_region_lit (fd 5 Tyf42_5 rfl (l1 0 (iI b) c Tya3 ?_)))
   obtain ⟨aL,aM,h⟩:=ob h
   refine cv ([iI b,iI 0,iI 1]) Tyb116 ((f116_ok k) aM (hG.mono kr) (pt c)) ?_
   rintro _ be ⟨ah,rfl,I⟩
   have C:=ca I c
   refine m1 (.bool aL) (cd h (fun i h=>?_) (fun i h=>?_))
   ·refine n1 16 i (fd 5 Tyf42_5 rfl (n1 16 i (l1 0 (iI b) C Tya3 (n1 16 i (c0 (b == 0) (n1 16 i (m1 (.bool (b == 0)) (cd h (fun t h=>?_) (fun t h=>?_)))))))))
    ·exact o1 20 t (o1 20 t (o1 20 t (n1 16 i (m3 true vT (cg t) (m3 true vT (cg i) (m2 vT (wpList_nil (blkN (thenN (⟨_,ah,false,false,true,fR,I.sub,C,h⟩))))))))))
    ·exact n1 20 t (fd 1 Tyf42_1 rfl (n1 20 t (l1 0 (.string g) C Tya9 (n1 20 t (bsc (r:=(!seq g ⟨#[]⟩)) rfl rfl rfl (n1 16 i (m3 false (.bool (!seq g ⟨#[]⟩)) (cg t) (m3 true (.bool (!seq g ⟨#[]⟩)) (cg i) (m2 (.bool (!seq g ⟨#[]⟩)) (wpList_nil (blkN (thenN (⟨_,ah,false,false,(!seq g ⟨#[]⟩),fR,I.sub,C,h⟩)))))))))))))
   ·exact o1 16 i (o1 16 i (o1 16 i (o1 16 i (ou 20 (ou 20 (ou 20 (o1 16 i (m3 false vN (cg i) (m2 vN (wpList_nil (blkN (thenN (⟨_,ah,false,false,false,fR,I.sub,C,h⟩)))))))))))))
  ·refine cF ag (sr (c0 (f == 7) (m2 (.bool (f == 7)) (wt (cd h (fun ai h=>?_) (fun ai h=>?_))))))
   ·refine cT ai (wp_region_lit (fd 5 Tyf42_5 rfl (l1 0 (iI b) c Tya3 ?_)))
    obtain ⟨av,aN,h⟩:=ob h
    refine cv ([iI b,iI 0,iI 2]) Tyb116 ((f116_ok k) aN (hG.mono kr) (pt c)) ?_
    rintro _ bf ⟨aP,rfl,aw⟩
    have aQ:=ca aw c
    exact m2 (.bool av) (wpList_nil (blkN (thenN (⟨_,aP,false,false,av,fR,aw.sub,aQ,h⟩))))
   ·refine cF ai (sr (c0 (f == 22) (m2 (.bool (f == 22)) (wt (cd h (fun aj h=>?_) (fun aj h=>?_))))))
    ·refine cT aj (wp_region_lit (fd 5 Tyf42_5 rfl (l1 0 (iI b) c Tya3 ?_)))
     obtain ⟨ax,aR,h⟩:=ob h
     refine cv ([iI b,iI 0,iI 1]) Tyb116 ((f116_ok k) aR (hG.mono kr) (pt c)) ?_
     rintro _ bg ⟨aS,rfl,ay⟩
     have aT:=ca ay c
     exact m2 (.bool ax) (wpList_nil (blkN (thenN (⟨_,aS,false,false,ax,fR,ay.sub,aT,h⟩))))
    ·refine cF aj (sr (c0 (f == 20) (m2 (.bool (f == 20)) (wt (cd h (fun ak h=>?_) (fun ak h=>?_))))))
     ·refine cT ak (sr (fd 5 Tyf42_5 rfl (l1 0 (iI b) c Tya3 ?_)))
      obtain ⟨az,aU,h⟩:=ob h
      refine cv ([iI b,iI 0,iI 1]) Tyb116 ((f116_ok k) aU (hG.mono kr) (pt c)) ?_
      rintro _ bh ⟨aV,rfl,aA⟩
      have aB:=ca aA c
      exact m2 (.bool az) (wt (wp_region_lit (fd 5 Tyf42_5 rfl (l1 0 (iI b) aB Tya3 (c0 (b == 1) (m2 (.bool (b == 1)) (wpList_nil (blkN (thenN (⟨_,aV,(b == 1),false,az,fR,aA.sub,aB,h⟩))))))))))
     ·refine cF ak (sr (c0 (f == 24) (m2 (.bool (f == 24)) (wt (cd h (fun al h=>?_) (fun al h=>?_))))))
      ·refine cT al (wp_cut (fun a w=>∃ aE J N,a=fr 97 (updL aE [(1,pp (zz wi) 0),(5,.bool N)])∧KH.sub K J∧SR K J wi w [] [.box (zz wi) (zz wi) (vS f g S U V b Z W ab ac X ad D j G x d y ae Y af).toArray 42]∧f151_j3 k b j d N=some r_) ?_ ?_)
       ·refine wp_region_lit (fd 5 Tyf42_5 rfl (l1 0 (iI b) c Tya3 ?_))
        obtain ⟨aW,aX,h⟩:=ob h
        refine cv ([iI b,iI 1,iI 3]) Tyb116 ((f116_ok k) aX (hG.mono kr) (pt c)) ?_
        rintro _ bi ⟨aF,rfl,am⟩
        have O:=ca am c
        refine m1 (.bool aW) (cd h (fun e h=>?_) (fun e h=>?_))
        ·exact n1 49 e (fd 1 Tyf42_1 rfl (n1 49 e (l1 0 (.string g) O Tya9 (n1 49 e (bsc (r:=(!seq g ⟨#[]⟩)) rfl rfl rfl (n1 49 e (fd 5 Tyf42_5 rfl (n1 49 e (l1 0 (iI b) O Tya3 (n1 49 e (bbt (r:=(IntKind.i64.wrap (BitVec.ofInt IntKind.i64.bits b &&& BitVec.ofInt IntKind.i64.bits 1).toNat)) rfl rfl rfl (n1 49 e (c0 ((IntKind.i64.wrap (BitVec.ofInt IntKind.i64.bits b &&& BitVec.ofInt IntKind.i64.bits 1).toNat) == 1) (n1 49 e (bbo (r:=((!seq g ⟨#[]⟩) == ((IntKind.i64.wrap (BitVec.ofInt IntKind.i64.bits b &&& BitVec.ofInt IntKind.i64.bits 1).toNat) == 1))) Tyo4 rfl rfl rfl (m3 true (.bool ((!seq g ⟨#[]⟩) == ((IntKind.i64.wrap (BitVec.ofInt IntKind.i64.bits b &&& BitVec.ofInt IntKind.i64.bits 1).toNat) == 1))) (cg e) (m2 (.bool ((!seq g ⟨#[]⟩) == ((IntKind.i64.wrap (BitVec.ofInt IntKind.i64.bits b &&& BitVec.ofInt IntKind.i64.bits 1).toNat) == 1))) (wt (⟨_,aF,((!seq g ⟨#[]⟩) == ((IntKind.i64.wrap (BitVec.ofInt IntKind.i64.bits b &&& BitVec.ofInt IntKind.i64.bits 1).toNat) == 1)),fR,am.sub,O,h⟩)))))))))))))))))))
        ·exact o1 49 e (o1 49 e (o1 49 e (o1 49 e (o1 49 e (o1 49 e (o1 49 e (o1 49 e (m3 false vN (cg e) (m2 vN (wt (⟨_,aF,false,fR,am.sub,O,h⟩)))))))))))
       ·rintro _ bj ⟨aE,J,N,rfl,aY,an,h⟩
        unfold f151_j3 at h
        exact sr (fd 5 Tyf42_5 rfl (l1 0 (iI b) an Tya3 (bbt (r:=(IntKind.i64.wrap (BitVec.ofInt IntKind.i64.bits b &&& BitVec.ofInt IntKind.i64.bits 1).toNat)) rfl rfl rfl (c0 ((IntKind.i64.wrap (BitVec.ofInt IntKind.i64.bits b &&& BitVec.ofInt IntKind.i64.bits 1).toNat) == 1) (m2 (.bool ((IntKind.i64.wrap (BitVec.ofInt IntKind.i64.bits b &&& BitVec.ofInt IntKind.i64.bits 1).toNat) == 1)) (wt (wp_region_lit (fd 5 Tyf42_5 rfl (l1 0 (iI b) an Tya3 (bbt (r:=(IntKind.i64.wrap (BitVec.ofInt IntKind.i64.bits b &&& BitVec.ofInt IntKind.i64.bits 2).toNat)) rfl rfl rfl (c0 ((IntKind.i64.wrap (BitVec.ofInt IntKind.i64.bits b &&& BitVec.ofInt IntKind.i64.bits 2).toNat) == 2) (m2 (.bool ((IntKind.i64.wrap (BitVec.ofInt IntKind.i64.bits b &&& BitVec.ofInt IntKind.i64.bits 2).toNat) == 2)) (wpList_nil (blkN (thenN (⟨_,J,((IntKind.i64.wrap (BitVec.ofInt IntKind.i64.bits b &&& BitVec.ofInt IntKind.i64.bits 1).toNat) == 1),((IntKind.i64.wrap (BitVec.ofInt IntKind.i64.bits b &&& BitVec.ofInt IntKind.i64.bits 2).toNat) == 2),N,fR,aY,an,h⟩))))))))))))))))
      ·refine cF al (sr (c0 (f == 28) (m2 (.bool (f == 28)) (wt (cd h (fun ao h=>?_) (fun ao h=>?_))))))
       ·refine cT ao (wp_region_lit (fd 5 Tyf42_5 rfl (l1 0 (iI b) c Tya3 ?_)))
        obtain ⟨aZ,a1,h⟩:=ob h
        refine cv ([iI b,iI 0,iI 66]) Tyb116 ((f116_ok k) a1 (hG.mono kr) (pt c)) ?_
        rintro _ bk ⟨aG,rfl,ap⟩
        have aq:=ca ap c
        refine m1 (.bool aZ) (cd h (fun l h=>?_) (fun l h=>?_))
        ·exact n1 72 l (fd 5 Tyf42_5 rfl (n1 72 l (l1 0 (iI b) aq Tya3 (n1 72 l (bdv (r:=(b.tmod 4)) rfl rfl (by decide) rfl (n1 72 l (c0 (decide ((b.tmod 4) < 3)) (m3 true (.bool (decide ((b.tmod 4) < 3))) (cg l) (m2 (.bool (decide ((b.tmod 4) < 3))) (wpList_nil (blkN (thenN (⟨_,aG,false,false,(decide ((b.tmod 4) < 3)),fR,ap.sub,aq,h⟩)))))))))))))
        ·exact o1 72 l (o1 72 l (o1 72 l (o1 72 l (m3 false vN (cg l) (m2 vN (wpList_nil (blkN (thenN (⟨_,aG,false,false,false,fR,ap.sub,aq,h⟩)))))))))
       ·exact cF ao (wp_skip (blkN (thenN (⟨_,K,false,false,(b == 0),fR,kr,c,h⟩))))
 ·rintro _ bm ⟨au,z,A,v,B,rfl,bn,u,h⟩
  unfold f151_j1 at h
  refine wp_cut (fun a w=>∃ aH ar,a=fr 97 (updL aH [(2,.bool ar)])∧SR K z wi w [] []∧f151_j2 k ar=some r_) ?_ ?_
  ·refine wp_region_lit (m1 (.bool B) (m1 (.bool B) (cd h (fun m h=>?_) (fun m h=>?_))))
   ·refine n1 79 m (m1 (.bool A) (n1 79 m (m1 (.bool A) (cd h (fun o h=>?_) (fun o h=>?_)))))
    ·refine o1 81 o (o1 81 o (o1 81 o (o1 81 o (n1 79 m (m3 true vT (cg o) (m3 true vT (cg m) (m1 vT (n0 88 (m1 (.bool v) (n0 88 (m1 (.bool v) (cd h (fun p h=>?_) (fun p h=>?_)))))))))))))
     ·exact o1 90 p (o1 90 p (o1 90 p (o1 90 p (n0 88 (m3 true vT (cg p) (m3 true vT rfl (m2 vT (wt (⟨_,true,fR,(u.sel []),h⟩)))))))))
     ·exact n1 90 p (fd 9 Tyf42_9 rfl (n1 90 p (l1 0 (sl x d y) u Tya36 (n1 90 p (lS d.length Tye36 (n1 90 p (c0 ((d.length:Int) == 0) (n0 88 (m3 false (.bool ((d.length:Int) == 0)) (cg p) (m3 true (.bool ((d.length:Int) == 0)) rfl (m2 (.bool ((d.length:Int) == 0)) (wt (⟨_,((d.length:Int) == 0),fR,(u.sel []),h⟩)))))))))))))
    ·refine n1 81 o (fd 8 Tyf42_8 rfl (n1 81 o (l1 0 (sl D j G) u Tya36 (n1 81 o (lS j.length Tye36 (n1 81 o (c0 ((j.length:Int) == 0) (n1 79 m (m3 false (.bool ((j.length:Int) == 0)) (cg o) (m3 true (.bool ((j.length:Int) == 0)) (cg m) (m1 (.bool ((j.length:Int) == 0)) (cd h (fun q h=>?_) (fun q h=>?_)))))))))))))
     ·refine n1 88 q (m1 (.bool v) (n1 88 q (m1 (.bool v) (cd h (fun s h=>?_) (fun s h=>?_)))))
      ·exact o1 90 s (o1 90 s (o1 90 s (o1 90 s (n1 88 q (m3 true vT (cg s) (m3 true vT (cg q) (m2 vT (wt (⟨_,true,fR,(u.sel []),h⟩)))))))))
      ·exact n1 90 s (fd 9 Tyf42_9 rfl (n1 90 s (l1 0 (sl x d y) u Tya36 (n1 90 s (lS d.length Tye36 (n1 90 s (c0 ((d.length:Int) == 0) (n1 88 q (m3 false (.bool ((d.length:Int) == 0)) (cg s) (m3 true (.bool ((d.length:Int) == 0)) (cg q) (m2 (.bool ((d.length:Int) == 0)) (wt (⟨_,((d.length:Int) == 0),fR,(u.sel []),h⟩)))))))))))))
     ·exact o1 88 q (o1 88 q (ou 90 (ou 90 (ou 90 (ou 90 (o1 88 q (m3 false vN (cg q) (m2 vN (wt (⟨_,false,fR,(u.sel []),h⟩))))))))))
   ·exact o1 79 m (o1 79 m (ou 81 (ou 81 (ou 81 (ou 81 (o1 79 m (m3 false vN (cg m) (m1 vN (o0 88 (o0 88 (ou 90 (ou 90 (ou 90 (ou 90 (o0 88 (m3 false vN rfl (m2 vN (wt (⟨_,false,fR,(u.sel []),h⟩)))))))))))))))))))
  ·rintro _ bo ⟨aH,ar,rfl,a2,h⟩
   unfold f151_j2 at h
   refine wp_ret ?_
   cases (oi h).trans hr_
   exact retA1 rfl (resT rfl) ⟨z,rfl,a2⟩
theorem f151_ok (k:Nat):f151_spec (f151 k):=f151_b_ok k
theorem f162_b_ok (k:Nat):f162_spec (f162_b k):=by
 unfold f162_spec
 intro K wi b t h hG q s
 obtain ⟨r_,hr_,h⟩:=rz h
 refine enter Tryz.func162 rfl (n:=23) rfl ?_
 unfold f162_b at h
 refine sr (m2 vN (wt (wp_seq (sr (m1 (.string b) (lnT (a:=b) Tyt9 rfl (m1 (iI 0) (wt (wp_block (wp_loopG (fun g_ a w=>∃ m e,∃ (c:Nat),g_=e.length∧a=fr 23 (updL m [(0,.string b),(5,iI (b.size:Int)),(6,iI (c:Int))])∧SR K K wi w [] []∧b.data.toList.drop c=e∧f162_l1 k b e c=some r_) b.data.toList.length ?_ ?_))))))))))
 ·exact ⟨_,b.data.toList,0,rfl,fR,s,List.drop_zero,h⟩
 ·rintro _ _ u ⟨m,e,c,rfl,rfl,i,f,h⟩
  rcases e with _ | ⟨g,e⟩
  ·unfold f162_l1 at h
   refine sr (bcm (r:=false) rfl rfl (congrArg some (drop_nil_ls f)) (wt (wp_seq (cndF rfl (wp_exit (thenX (thenX (blkX (thenN (sr (m1 (.string b) (lnT (a:=b) Tyt9 rfl (c0 (decide ((b.size:Int) ≤ 60)) (m2 (.bool (decide ((b.size:Int) ≤ 60))) (wt (wp_ret ?_))))))))))))))))
   cases (oi h).trans hr_
   exact retA1 rfl (resT rfl) ⟨K,rfl,i⟩
  ·unfold f162_l1 at h
   refine sr (bcm (r:=true) rfl rfl (congrArg some (drop_cons_ts f)) (wt (wp_seq (cndT rfl (wp_skip (thenN (wp_seq (wp_block (sr (m1 (iI (c:Int)) (m2 (iI (c:Int)) (wt (wp_cut (fun a w=>∃ o j,a=fr 23 (updL o [(0,.string b),(5,iI (b.size:Int)),(6,iI (c:Int)),(18,.bool j)])∧SR K K wi w [] []∧f162_j1 k c j (f162_l1 k b e)=some r_) ?_ ?_)))))))))))))
   ·refine wp_region_lit (m1 (.string b) (m1 (iI (c:Int)) (ixN Tyt9 rfl rfl f (c0 (decide ((g.toNat:Int) < 32)) (m1 (.bool (decide ((g.toNat:Int) < 32))) (cd h (fun d h=>?_) (fun d h=>?_)))))))
    ·exact o1 13 d (o1 13 d (o1 13 d (o1 13 d (m3 true vT (cg d) (wt (⟨_,true,fR,i,h⟩))))))
    ·exact n1 13 d (m1 (.string b) (n1 13 d (m1 (iI (c:Int)) (n1 13 d (ixN Tyt9 rfl rfl f (n1 13 d (c0 (decide ((g.toNat:Int) > 126)) (m3 false (.bool (decide ((g.toNat:Int) > 126))) (cg d) (wt (⟨_,(decide ((g.toNat:Int) > 126)),fR,i,h⟩))))))))))
   ·rintro _ v ⟨o,j,rfl,p,h⟩
    unfold f162_j1 at h
    refine cd h (fun l h=>?_) (fun l h=>?_)
    ·refine cT l (sr (m2 vN (wt (wp_ret (blkR (thenR (thenR (blkR (thenR ?_)))))))))
     cases (oi h).trans hr_
     exact retA1 rfl (resT rfl) ⟨K,rfl,p⟩
    ·exact cF l (wp_skip (blkN (thenN (wp_region_lit (bar (r:=((c + 1:Nat):Int)) rfl rfl (inc_ok (le_bigs q f)) (m1 (iI ((c + 1:Nat):Int)) (wt (⟨_,Nat.lt_succ_self _,_,e,c + 1,rfl,fR,p,drop_cons_next f,h⟩))))))))
theorem f162_ok (k:Nat):f162_spec (f162 k):=f162_b_ok k
theorem isText_short (k:Nat) (a:ByteArray) : ∀ (l:List UInt8) (i:Nat),f162_l1 k a l i=some true→a.size≤60
 | [],i,h=>by
  unfold f162_l1 at h
  have:=of_decide_eq_true (Option.some.inj h)
  omega
 | e :: l,i,h=>by
  unfold f162_l1 at h
  rcases Bool.eq_false_or_eq_true (decide ((e.toNat:Int) < 32)) with h1 | h1
  ·rw [h1] at h
   simp [f162_j1] at h
  ·rw [h1] at h
   simp only [cond_false,f162_j1] at h
   rcases Bool.eq_false_or_eq_true (decide ((e.toNat:Int) > 126)) with h2 | h2
   ·rw [h2] at h
    simp at h
   ·rw [h2] at h
    exact isText_short k a l _ h
theorem quote_ok (k:Nat) (h162:f162_spec (f162 k)) {K:KH} {wi:World} {a:ByteArray} {r:Bool} (h:f162 k a=some r) (hG:GK K) (ha:a.size≤mB) (S0:Sx K K wi wi (fun b=>b ∈ Ents.blks []) []) :
  Calls Tryz.prog 161 #[.string a] wi (Ret fun v w'=>∃ (K' : KH) (s:ByteArray),v=.tuple #[.string s,.int .i64 (cond r 0 2)]∧Sx K K' wi w' (fun b=>b ∈ Ents.blks []) []):=by
 refine enter Tryz.func161 rfl (n:=12) rfl ?_
 refine wp_seq ?_
 refine wp_region_lit ?_
 refine asg (v:=.string ⟨#[]⟩) rfl ?_
 refine asg (v:=.int .i64 0) rfl ?_
 refine wpList_nil ?_
 refine thenN ?_
 refine wp_seq ?_
 refine wp_seq ?_
 refine wp_region_lit ?_
 refine mv (v:=.string a) rfl ?_
 refine clV (caps:=#[]) (vs:=[.string a]) rfl (by kernel_rfl) rfl (h162 h hG ha S0) ?_
 rintro _ w1 ⟨K1,rfl,T1⟩
 refine unot (a:=r) rfl ?_
 refine wpList_nil ?_
 refine thenN ?_
 rcases r with _ | _
 ·refine cndT rfl ?_
  refine wp_seq ?_
  refine wp_region_lit ?_
  refine asg (v:=.string ⟨#[]⟩) rfl ?_
  refine asg (v:=.int .i64 2) rfl ?_
  refine wpList_nil ?_
  refine thenN ?_
  refine wp_ret ?_
  refine thenR ?_
  exact retA2 rfl (resT rfl) (resT rfl) ⟨K1,_,rfl,T1⟩
 ·have hsh:a.size≤60:=isText_short k a _ _ h
  refine cndF rfl ?_
  refine wp_skip ?_
  refine thenN ?_
  refine wp_seq ?_
  refine wp_region_lit ?_
  refine mv (v:=.string a) rfl ?_
  have hG1:=hG.mono T1.sub
  refine clV (caps:=#[]) (vs:=[.string a,.string ⟨#[92]⟩,.string ⟨#[92,92]⟩]) rfl (by kernel_rfl) rfl (replAll T1 hG1 a ⟨#[92]⟩ ⟨#[92,92]⟩ (by omega) (by decide) (by decide)) ?_
  rintro _ w2 ⟨s2,rfl,hs2,T2⟩
  refine clV (caps:=#[]) (vs:=[.string s2,.string ⟨#[34]⟩,.string ⟨#[92,34]⟩]) rfl (by kernel_rfl) rfl (replAll T2 hG1 s2 ⟨#[34]⟩ ⟨#[92,34]⟩ (by omega) (by decide) (by decide)) ?_
  rintro _ w3 ⟨s3,rfl,hs3,T3⟩
  refine bsa (a:=⟨#[34]⟩) (b:=s3) rfl rfl (by have:(⟨#[34]⟩:ByteArray).size=1:=rfl; omega) ?_
  refine bsa (a:=⟨#[34]⟩ ++ s3) (b:=⟨#[34]⟩) rfl rfl (by have:(⟨#[34]⟩:ByteArray).size=1:=rfl; rw [ByteArray.size_append]; omega) ?_
  refine asg (v:=.string (⟨#[34]⟩ ++ s3 ++ ⟨#[34]⟩)) rfl ?_
  refine asg (v:=.int .i64 0) rfl ?_
  refine wpList_nil ?_
  refine thenN ?_
  refine wp_ret ?_
  exact retA2 rfl (resT rfl) (resT rfl) ⟨K1,_,rfl,T3⟩
theorem f160_ok (k:Nat):f160_spec (f160 k):=by
 unfold f160_spec
 intro K wi a0 r0 h hG ha0 S0
 unfold f160 at h
 refine enter Tryz.func160 rfl (n:=12) rfl ?_
 refine wp_seq ?_
 refine wp_region_lit ?_
 refine asg (v:=.bool false) rfl ?_
 refine wpList_nil ?_
 refine thenN ?_
 refine wp_seq ?_
 refine wp_region_lit ?_
 refine mv (v:=.string a0) rfl ?_
 refine clV (caps:=#[]) (vs:=[.string a0]) rfl (by kernel_rfl) rfl (quote_ok k (f162_ok k) h hG ha0 S0) ?_
 rintro _ w1 ⟨K1,s1,rfl,T1⟩
 refine mv (v:=.tuple #[.string s1,.int .i64 (cond r0 0 2)]) rfl ?_
 refine ext (v:=.string s1) rfl rfl ?_
 refine ext (v:=.int .i64 (cond r0 0 2)) rfl rfl ?_
 refine asg (v:=.string s1) rfl ?_
 refine asg (v:=.int .i64 (cond r0 0 2)) rfl ?_
 refine wpList_nil ?_
 refine thenN ?_
 refine wp_seq ?_
 refine wp_region_lit ?_
 refine mv (v:=.int .i64 (cond r0 0 2)) rfl ?_
 refine bcm (r:=decide ((cond r0 0 2:Int)=0)) rfl rfl rfl ?_
 refine asg (v:=.bool (decide ((cond r0 0 2:Int)=0))) rfl ?_
 refine wpList_nil ?_
 refine thenN ?_
 refine wp_ret ?_
 exact retA1 rfl (resT rfl) ⟨K1,by cases r0 <;> rfl,T1⟩
theorem f112_b_ok (k:Nat):f112_spec (f112_b k):=by
 unfold f112_spec
 intro K wi b i h hG e
 obtain ⟨r_,hr_,h⟩:=rz h
 refine enter Tryz.func112 rfl (n:=9) rfl ?_
 unfold f112_b at h
 refine sr (m2 vN (wt (wp_cut (fun a w=>∃ f d,a=fr 9 (updL f [(2,.bool d)])∧SR K K wi w [] []∧f112_j1 k d=some r_) ?_ ?_)))
 ·refine wp_region_lit (m1 (.int .u8 b) (c0 (decide (b ≥ 97)) (m1 (.bool (decide (b ≥ 97))) (cd h (fun c h=>?_) (fun c h=>?_)))))
  ·exact n1 5 c (m1 (.int .u8 b) (n1 5 c (c0 (decide (b ≤ 122)) (m3 true (.bool (decide (b ≤ 122))) (cg c) (m2 (.bool (decide (b ≤ 122))) (wt (⟨_,(decide (b ≤ 122)),fR,e,h⟩)))))))
  ·exact o1 5 c (o1 5 c (m3 false vN (cg c) (m2 vN (wt (⟨_,false,fR,e,h⟩)))))
 ·rintro _ j ⟨f,d,rfl,g,h⟩
  unfold f112_j1 at h
  refine wp_ret ?_
  cases (oi h).trans hr_
  exact retA1 rfl (resT rfl) ⟨K,rfl,g⟩
theorem f112_ok (k:Nat):f112_spec (f112 k):=f112_b_ok k
theorem f113_b_ok (k:Nat):f113_spec (f113_b k):=by
 unfold f113_spec
 intro K wi b i h hG e
 obtain ⟨r_,hr_,h⟩:=rz h
 refine enter Tryz.func113 rfl (n:=9) rfl ?_
 unfold f113_b at h
 refine sr (m2 vN (wt (wp_cut (fun a w=>∃ f d,a=fr 9 (updL f [(2,.bool d)])∧SR K K wi w [] []∧f113_j1 k d=some r_) ?_ ?_)))
 ·refine wp_region_lit (m1 (.int .u8 b) (c0 (decide (b ≥ 48)) (m1 (.bool (decide (b ≥ 48))) (cd h (fun c h=>?_) (fun c h=>?_)))))
  ·exact n1 5 c (m1 (.int .u8 b) (n1 5 c (c0 (decide (b ≤ 57)) (m3 true (.bool (decide (b ≤ 57))) (cg c) (m2 (.bool (decide (b ≤ 57))) (wt (⟨_,(decide (b ≤ 57)),fR,e,h⟩)))))))
  ·exact o1 5 c (o1 5 c (m3 false vN (cg c) (m2 vN (wt (⟨_,false,fR,e,h⟩)))))
 ·rintro _ j ⟨f,d,rfl,g,h⟩
  unfold f113_j1 at h
  refine wp_ret ?_
  cases (oi h).trans hr_
  exact retA1 rfl (resT rfl) ⟨K,rfl,g⟩
theorem f113_ok (k:Nat):f113_spec (f113 k):=f113_b_ok k
theorem f91_b_ok (k:Nat):f91_spec (f91_b k):=by
 unfold f91_spec
 intro K wi b S h hG C D
 obtain ⟨r_,hr_,h⟩:=rz h
 refine enter Tryz.func91 rfl (n:=28) rfl ?_
 unfold f91_b at h
 refine sr (m2 vN (wt (wp_seq (sr (m1 (.string b) (lnT (a:=b) Tyt9 rfl (m1 (iI 0) (wt (wp_block (wp_loopG (fun g_ a w=>∃ u i f,∃ (c:Nat),g_=f.length∧a=fr 28 (updL u [(0,.string b),(5,iI (b.size:Int)),(6,iI (c:Int))])∧KH.sub K i∧SR K i wi w [] []∧b.data.toList.drop c=f∧f91_l1 k b f c=some r_) b.data.toList.length ?_ ?_))))))))))
 ·exact ⟨_,K,b.data.toList,0,rfl,fR,kr,D,List.drop_zero,h⟩
 ·rintro _ _ U ⟨u,i,f,c,rfl,rfl,p,q,g,h⟩
  rcases f with _ | ⟨v,f⟩
  ·unfold f91_l1 at h
   refine sr (bcm (r:=false) rfl rfl (congrArg some (drop_nil_ls g)) (wt (wp_seq (cndF rfl (wp_exit (thenX (thenX (blkX (thenN (sr (m1 (.string b) (bsc (r:=(!seq b ⟨#[]⟩)) rfl rfl rfl (m2 (.bool (!seq b ⟨#[]⟩)) (wt (wp_ret ?_)))))))))))))))
   cases (oi h).trans hr_
   exact retA1 rfl (resT rfl) ⟨i,rfl,q⟩
  ·unfold f91_l1 at h
   refine sr (bcm (r:=true) rfl rfl (congrArg some (drop_cons_ts g)) (wt (wp_seq (cndT rfl (wp_skip (thenN (wp_seq (wp_block (sr (m1 (iI (c:Int)) (m2 (iI (c:Int)) (wt (wp_cut (fun a w=>∃ x j s,a=fr 28 (updL x [(0,.string b),(5,iI (b.size:Int)),(6,iI (c:Int)),(24,.bool s)])∧KH.sub i j∧SR K j wi w [] []∧f91_j1 k c s (f91_l1 k b f)=some r_) ?_ ?_)))))))))))))
   ·refine wp_region_lit (m1 (.string b) (m1 (iI (c:Int)) (ixN Tyt9 rfl rfl g ?_)))
    obtain ⟨y,G,h⟩:=ob h
    refine cv ([.int .u8 (v.toNat:Int)]) Tyb112 ((f112_ok k) G (hG.mono p) (pt q)) ?_
    rintro _ V ⟨z,rfl,l⟩
    have m:=ca l q
    refine uN y (m1 (.bool (!y)) (cd h (fun d h=>?_) (fun d h=>?_)))
    ·refine n1 14 d (m1 (iI (c:Int)) (n1 14 d (c0 ((c:Int) == 0) (n1 14 d (m1 (.bool ((c:Int) == 0)) (cd h (fun e h=>?_) (fun e h=>?_)))))))
     ·exact o1 17 e (o1 17 e (o1 17 e (o1 17 e (o1 17 e (n1 14 d (m3 true vT (cg e) (m3 true vT (cg d) (wt (⟨_,z,true,fR,l.sub,m,h⟩)))))))))
     ·refine n1 17 e (m1 (.string b) (n1 17 e (m1 (iI (c:Int)) (n1 17 e (ixN Tyt9 rfl rfl g (n1 17 e ?_))))))
      obtain ⟨o,I,h⟩:=ob h
      refine cv ([.int .u8 (v.toNat:Int)]) Tyb113 ((f113_ok k) I (hG.mono (p.trans l.sub)) (pt m)) ?_
      rintro _ W ⟨J,rfl,A⟩
      have N:=ca A m
      exact n1 17 e (uN o (n1 14 d (m3 false (.bool (!o)) (cg e) (m3 true (.bool (!o)) (cg d) (wt (⟨_,J,(!o),fR,(l.sub.trans A.sub),N,h⟩))))))
    ·exact o1 14 d (o1 14 d (o1 14 d (ou 17 (ou 17 (ou 17 (ou 17 (ou 17 (o1 14 d (m3 false vN (cg d) (wt (⟨_,z,false,fR,l.sub,m,h⟩)))))))))))
   ·rintro _ X ⟨x,j,s,rfl,O,B,h⟩
    unfold f91_j1 at h
    refine cd h (fun t h=>?_) (fun t h=>?_)
    ·refine cT t (sr (m2 vN (wt (wp_ret (blkR (thenR (thenR (blkR (thenR ?_)))))))))
     cases (oi h).trans hr_
     exact retA1 rfl (resT rfl) ⟨j,rfl,B⟩
    ·exact cF t (wp_skip (blkN (thenN (wp_region_lit (bar (r:=((c + 1:Nat):Int)) rfl rfl (inc_ok (le_bigs C g)) (m1 (iI ((c + 1:Nat):Int)) (wt (⟨_,Nat.lt_succ_self _,_,j,f,c + 1,rfl,fR,(p.trans O),B,drop_cons_next g,h⟩))))))))
theorem f91_ok (k:Nat):f91_spec (f91 k):=f91_b_ok k
set_option maxRecDepth 100000 in
theorem words_fields:(Lib.fields wordsS.data.toList).map (fun l=>(⟨l.toArray⟩:ByteArray))=wordsL:=by kernel_rfl
theorem words_sizes : ∀ x ∈ wordsL,x.size≤mB:=by
 have h:wordsL.all (fun x=>decide (x.size≤mB))=true:=by kernel_rfl
 intro x hx
 simpa using List.all_eq_true.1 h x hx
set_option maxRecDepth 100000 in
theorem f114_ok (k:Nat):f114_spec (f114 k):=by
 unfold f114_spec
 intro K wi r0 h hG S0
 unfold f114 at h
 obtain rfl:=Option.some.inj h
 refine enter Tryz.func114 rfl (n:=2) rfl ?_
 refine wp_seq ?_
 refine wp_region_lit ?_
 refine asg (v:=.slice none 0 0) rfl ?_
 refine wpList_nil ?_
 refine thenN ?_
 refine wp_seq ?_
 refine wp_region_lit ?_
 have hlen:(Lib.fields wordsS.data.toList).length=wordsL.length:=by rw [← words_fields,List.length_map]
 have hmap:(Lib.fields wordsS.data.toList).map (fun l=>Value.string ⟨l.toArray⟩)=wordsL.map Value.string:=by rw [← words_fields,List.map_map]; rfl
 obtain ⟨K1,S1,hs1,hr1⟩:=S0.texts (xs:=wordsL) 9 words_sizes (by decide)
 refine clV (caps:=#[]) (vs:=[.string wordsS]) (R:=fun v w'=>v=.slice (some ⟨(zz wi),0,none⟩) wordsL.length wordsL.length∧w'=wi.alloc (.cells (wordsL.map Value.string).toArray 9)) rfl (by kernel_rfl) rfl
  ((Any.strings_Fields_core Tryz.lays157 (by kernel_rfl) wordsS wi (by decide) words_ascii (fun c hc=>S0.cell (hG.1 c hc))).mono (fun e w' h=>⟨_,h.1,by rw [hlen],by rw [h.2,hmap]; rfl⟩)) ?_
 rintro _ _ ⟨rfl,rfl⟩
 refine asg (v:=.slice (some ⟨(zz wi),0,none⟩) wordsL.length wordsL.length) rfl ?_
 refine wpList_nil ?_
 refine thenN ?_
 refine wp_ret ?_
 exact retA1 rfl (resT rfl) ⟨K1,_,_,rfl,S1,hr1⟩
theorem f93_b_ok (k:Nat):f93_spec (f93_b k):=by
 unfold f93_spec
 intro K wi d l m g C h hG q D u
 obtain ⟨r_,hr_,h⟩:=rz h
 refine enter Tryz.func93 rfl (n:=19) rfl ?_
 unfold f93_b at h
 refine sr (m2 (iI 0) (wt (wp_seq (sr (m1 (sl l d m) (lS d.length Tye46 (m1 (iI 0) (wt (wp_block (wp_loopG (fun g_ a w=>∃ s e,∃ (c:Nat),g_=e.length∧a=fr 19 (updL s [(0,sl l d m),(1,.string g),(7,iI (d.length:Int)),(8,iI (c:Int))])∧SR K K wi w [] []∧d.drop c=e∧f93_l1 k g e c=some r_) d.length ?_ ?_))))))))))
 ·exact ⟨_,d,0,rfl,fR,u,List.drop_zero,h⟩
 ·rintro _ _ G ⟨s,e,c,rfl,rfl,j,f,h⟩
  rcases e with _ | ⟨t,e⟩
  ·unfold f93_l1 at h
   refine sr (bcm (r:=false) rfl rfl (congrArg some (drop_nil_lt f)) (wt (wp_seq (cndF rfl (wp_exit (thenX (thenX (blkX (thenN (sr (m2 (iI (-1)) (wt (wp_ret ?_)))))))))))))
   cases (oi h).trans hr_
   exact retA1 rfl (resT rfl) ⟨K,rfl,j⟩
  ·unfold f93_l1 at h
   refine sr (bcm (r:=true) rfl rfl (congrArg some (drop_cons_t f)) (wt (wp_seq (cndT rfl (wp_skip (thenN (wp_seq (wp_block (sr (m1 (iI (c:Int)) (m2 (iI (c:Int)) (wt (sr (m1 (.string g) (m1 (sl l d m) (m1 (iI (c:Int)) ?_))))))))))))))))
   obtain ⟨x,y,I,z,J,A,B⟩:=(q).row.at_ (drop_cons_at f)
   obtain ⟨rfl,N⟩:=B
   refine idxN (b:=x) (o:=y) (i:=c) Tye46 Tys9 rfl z rfl (drop_cons_lt f) (ld1 (v:=.string t) Tya9 rfl (j.cell (kr.cell (A 0 _ rfl))) (bsc (r:=(seq g t)) rfl rfl rfl (wt (cd h (fun p h=>?_) (fun p h=>?_)))))
   ·refine cT p (sr (m1 (iI (c:Int)) (m2 (iI (c:Int)) (wt (wp_ret (blkR (thenR (thenR (blkR (thenR ?_))))))))))
    cases (oi h).trans hr_
    exact retA1 rfl (resT rfl) ⟨K,rfl,j⟩
   ·exact cF p (wp_skip (blkN (thenN (wp_region_lit (bar (r:=((c + 1:Nat):Int)) rfl rfl (inc_ok (le_big ((q).len) (by decide) (drop_cons_lt f))) (m1 (iI ((c + 1:Nat):Int)) (wt (⟨_,Nat.lt_succ_self _,_,e,c + 1,rfl,fR,j,drop_cons_next f,h⟩))))))))
theorem f93_ok (k:Nat):f93_spec (f93 k):=f93_b_ok k
theorem f64_b_ok (k:Nat):f64_spec (f64_b k):=by
 unfold f64_spec
 intro K wi b c d e a h hG g i f
 obtain ⟨r_,hr_,h⟩:=rz h
 refine enter Tryz.func64 rfl (n:=9) rfl ?_
 unfold f64_b at h
 refine sr (m2 vN (wt (sr (m1 (sl c b d) (m1 (.string e) ?_)))))
 obtain ⟨a,j,h⟩:=ob h
 refine cv ([sl c b d,.string e]) Tyb93 ((f93_ok k) j (hG.mono kr) g i (pt f)) ?_
 rintro _ p ⟨l,rfl,m⟩
 have o:=ca m f
 refine c0 (decide (a ≥ 0)) (m2 (.bool (decide (a ≥ 0))) (wt (wp_ret ?_)))
 cases (oi h).trans hr_
 exact retA1 rfl (resT rfl) ⟨l,rfl,o⟩
theorem f64_ok (k:Nat):f64_spec (f64 k):=f64_b_ok k
theorem f92_b_ok (k:Nat):f92_spec (f92_b k):=by
 unfold f92_spec
 intro K wi a b h hG f c
 obtain ⟨r_,hr_,h⟩:=rz h
 refine enter Tryz.func92 rfl (n:=6) rfl ?_
 unfold f92_b at h
 refine sr (m2 vN (wt (sr ?_)))
 obtain ⟨b,g,h⟩:=ob h
 refine cv ([]) Tyb114 ((f114_ok k) g (hG.mono kr) (pt c)) ?_
 rintro _ s ⟨t,i,j,rfl,d,l⟩
 have e:=ca d c
 refine m1 (.string a) ?_
 obtain ⟨m,o,h⟩:=ob h
 refine cv ([sl i b j,.string a]) Tyb64 ((f64_ok k) o (hG.mono d.sub) l f (pt e)) ?_
 rintro _ u ⟨p,rfl,q⟩
 have r:=ca q e
 refine m2 (.bool m) (wt (wp_ret ?_))
 cases (oi h).trans hr_
 exact retA1 rfl (resT rfl) ⟨p,rfl,r⟩
theorem f92_ok (k:Nat):f92_spec (f92 k):=f92_b_ok k
theorem f63_b_ok (k:Nat):f63_spec (f63_b k):=by
 unfold f63_spec
 intro K wi b y h hG l m
 obtain ⟨r_,hr_,h⟩:=rz h
 refine enter Tryz.func63 rfl (n:=15) rfl ?_
 unfold f63_b at h
 refine sr (m2 vN (wt (wp_cut (fun a w=>∃ o f j,a=fr 15 (updL o [(2,.bool j)])∧KH.sub K f∧SR K f wi w [] []∧f63_j1 k j=some r_) ?_ ?_)))
 ·refine wp_region_lit (m1 (.string b) ?_)
  obtain ⟨r,s,h⟩:=ob h
  refine cv ([.string b]) Tyb91 ((f91_ok k) s (hG.mono kr) l (pt m)) ?_
  rintro _ z ⟨p,rfl,e⟩
  have g:=ca e m
  refine m1 (.bool r) (cd h (fun c h=>?_) (fun c h=>?_))
  ·refine n1 5 c (m1 (.string b) (n1 5 c (lnT (a:=b) Tyt9 rfl (n1 5 c (c0 (decide ((b.size:Int) ≤ 12)) (m3 true (.bool (decide ((b.size:Int) ≤ 12))) (cg c) (m1 (.bool (decide ((b.size:Int) ≤ 12))) (cd h (fun d h=>?_) (fun d h=>?_)))))))))
   ·refine n1 10 d (m1 (.string b) (n1 10 d ?_))
    obtain ⟨i,t,h⟩:=ob h
    refine cv ([.string b]) Tyb92 ((f92_ok k) t (hG.mono e.sub) l (pt g)) ?_
    rintro _ A ⟨u,rfl,q⟩
    have v:=ca q g
    exact n1 10 d (uN i (m3 true (.bool (!i)) (cg d) (m2 (.bool (!i)) (wt (⟨_,u,(!i),fR,(e.sub.trans q.sub),v,h⟩)))))
   ·exact o1 10 d (o1 10 d (o1 10 d (m3 false vN (cg d) (m2 vN (wt (⟨_,p,false,fR,e.sub,g,h⟩))))))
  ·exact o1 5 c (o1 5 c (o1 5 c (m3 false vN (cg c) (m1 vN (o0 10 (o0 10 (o0 10 (m3 false vN rfl (m2 vN (wt (⟨_,p,false,fR,e.sub,g,h⟩)))))))))))
 ·rintro _ B ⟨o,f,j,rfl,C,x,h⟩
  unfold f63_j1 at h
  refine wp_ret ?_
  cases (oi h).trans hr_
  exact retA1 rfl (resT rfl) ⟨f,rfl,x⟩
theorem f63_ok (k:Nat):f63_spec (f63 k):=f63_b_ok k
theorem f153_b_ok (k:Nat) (F:Fam153) (IH153:f153_spec F.f153) (IH157:f157_spec F.f157):f153_spec (f153_b k F):=by
 unfold f153_spec
 intro K wi g bs D G I d O S y aG aH aI aJ h hG U ac
 obtain ⟨r_,hr_,h⟩:=rz h
 refine enter Tryz.func153 rfl (n:=21) rfl ?_
 unfold f153_b at h
 refine sr (m2 vN (wt (wp_seq (sr (m1 (sl O d S) (lS d.length Tye39 (m1 (iI 0) (wt (wp_block (wp_loopG (fun g_ a w=>∃ V x e,∃ (c:Nat),∃ z A B,g_=e.length∧a=fr 21 (updL V [(0,pp g 0),(2,iI y),(9,sl O d S),(10,iI (d.length:Int)),(11,iI (c:Int))])∧KH.sub K x∧SR K x wi w [.box bs g #[iI D,iI G,.bool I] 132] [.box bs g #[iI z,iI A,.bool B] 132]∧d.drop c=e∧f153_l1 k F y e c z A B=some r_) d.length ?_ ?_))))))))))
 ·exact ⟨_,K,d,0,D,G,I,rfl,fR,kr,ac,List.drop_zero,h⟩
 ·rintro _ _ ad ⟨V,x,e,c,z,A,B,rfl,rfl,C,J,f,h⟩
  rcases e with _ | ⟨⟨l,m,p,q,s⟩,e⟩
  ·unfold f153_l1 at h
   refine sr (bcm (r:=false) rfl rfl (congrArg some (drop_nil_lt f)) (wt (wp_seq (cndF rfl (wp_exit (thenX (thenX (blkX (thenN (sr (m2 vT (wt (wp_ret ?_)))))))))))))
   have e_:=(Option.some.inj h).trans hr_
   obtain ⟨ae,af⟩:=Prod.mk.inj e_
   obtain ⟨ag,ah,ai⟩:=Dcounter.mk.inj ae
   subst ag
   subst ah
   subst ai
   subst af
   exact retA1 rfl (resT rfl) ⟨x,rfl,J⟩
  ·unfold f153_l1 at h
   refine sr (bcm (r:=true) rfl rfl (congrArg some (drop_cons_t f)) (wt (wp_seq (cndT rfl (wp_skip (thenN (wp_seq (wp_block (sr ?_)))))))))
   obtain ⟨aj,ak,aK,al,aL,am,an⟩:=((me U C)).row.at_ (drop_cons_at f)
   obtain ⟨t,u,rfl,ao,ap⟩:=RDExpr.open an
   refine idxN (b:=aj) (o:=ak) (i:=c) Tye39 Tys107 rfl al rfl (drop_cons_lt f) (lD (vE l m p q t s u) Tya107 Tys107 rfl (fun j v hj=>J.cell (kr.cell (am j v hj))) (aC zE.toArray J Tyz107 (fun aM aq=>(sI 0 (.agg (vE l m p q t s u).toArray) ((vE l m p q t s u).toArray) aq Tys107 rfl rfl (fun ar W=>(wt (sr (m1 (pp g 0) (lN 0 (vE l m p q t s u) W Tya107 Tys107 (m1 (iI y) ?_))))))))))
   have X:=p10 W
   obtain ⟨⟨⟨au,av,aw⟩,ax⟩,ay,h⟩:=ob h
   refine cv ([pp g 0,.agg (vE l m p q t s u).toArray,iI y]) Tyb157 (IH157 ay (hG.mono C) (RDExpr.intro ao ap) (pt X)) ?_
   rintro _ aN ⟨Y,rfl,Z⟩
   have ab:=ca Z X
   refine uN ax (wt (cd h (fun N h=>?_) (fun N h=>?_)))
   ·refine cT N (sr (m2 vN (wt (wp_ret (blkR (thenR (thenR (blkR (thenR ?_)))))))))
    have e_:=(Option.some.inj h).trans hr_
    obtain ⟨az,aA⟩:=Prod.mk.inj e_
    obtain ⟨aB,aE,aF⟩:=Dcounter.mk.inj az
    subst aB
    subst aE
    subst aF
    subst aA
    exact retA1 rfl (resT rfl) ⟨Y,rfl,(ab.sel [0])⟩
   ·exact cF N (wp_skip (blkN (thenN (wp_region_lit (bar (r:=((c + 1:Nat):Int)) rfl rfl (inc_ok (le_big (((me U C)).len) (by decide) (drop_cons_lt f))) (m1 (iI ((c + 1:Nat):Int)) (wt (⟨_,Nat.lt_succ_self _,_,Y,e,c + 1,au,av,aw,rfl,fR,(C.trans Z.sub),(ab.sel [0]),drop_cons_next f,h⟩))))))))
theorem f157_b_ok (k:Nat) (F:Fam153) (IH153:f153_spec F.f153) (IH157:f157_spec F.f157):f157_spec (f157_b k F):=by
 unfold f157_spec
 intro K wi g bs I J N a0 bK i bL bM bN bO h hG a3 a4
 obtain ⟨r_,hr_,h⟩:=rz h
 obtain ⟨c,d,b,u,f⟩:=a0
 obtain ⟨v,x,rfl,aK,a5⟩:=RDExpr.open a3
 refine enter Tryz.func157 rfl (n:=107) rfl ?_
 unfold f157_b at h
 refine sr (bxoC (cs:=(vE c d b u v f x).toArray) a4 rfl rfl (fun a6 a7=>(m2 vN (wt (wp_seq (wp_cut (fun a w=>∃ aL t m o p ai,a=fr 107 (updL aL [(0,pp g 0),(2,iI i),(4,pp (zz wi) 0),(24,.bool ai)])∧KH.sub K t∧SR K t wi w [.box bs g #[iI I,iI J,.bool N] 132] [.box bs g #[iI m,iI o,.bool p] 132,.box (zz wi) (zz wi) (vE c d b u v f x).toArray 107]∧f157_j1 k F c d b f i m o p ai=some r_) ?_ ?_))))))
 ·refine wp_region_lit (m1 (pp g 0) (m1 (iI i) ?_))
  have aM:=p10 a7
  obtain ⟨⟨⟨aj,ak,O⟩,aN⟩,a8,h⟩:=ob h
  refine cv ([pp g 0,iI i]) Tyb117 ((f117_ok k) a8 (hG.mono kr) (pt aM)) ?_
  rintro _ bP ⟨al,rfl,ac⟩
  have Y:=ca ac aM
  refine uN aN (m1 (.bool (!aN)) (cd h (fun j h=>?_) (fun j h=>?_)))
  ·exact o1 13 j (o1 13 j (o1 13 j (o1 13 j (ou 17 (ou 17 (ou 17 (ou 17 (ou 17 (o1 13 j (m3 true vT (cg j) (wt (⟨_,al,aj,ak,O,true,fR,ac.sub,Y,h⟩))))))))))))
  ·refine n1 13 j (fd 3 Tyf107_3 rfl (n1 13 j (l1 1 (iI u) Y Tya3 (n1 13 j (c0 (u != 0) (n1 13 j (m1 (.bool (u != 0)) (cd h (fun q h=>?_) (fun q h=>?_)))))))))
   ·exact n1 17 q (m1 (pp g 0) (n1 17 q (nilc rfl (n1 17 q (fd 2 Tyf132_2 rfl (n1 17 q (l1 0 (.bool O) Y Tya4 (n1 17 q (uN O (n1 13 j (m3 true (.bool (!O)) (cg q) (m3 false (.bool (!O)) (cg j) (wt (⟨_,al,aj,ak,O,(!O),fR,ac.sub,Y,h⟩))))))))))))))
   ·exact o1 17 q (o1 17 q (o1 17 q (o1 17 q (o1 17 q (n1 13 j (m3 false vN (cg q) (m3 false vN (cg j) (wt (⟨_,al,aj,ak,O,false,fR,ac.sub,Y,h⟩)))))))))
 ·rintro _ bQ ⟨aL,t,m,o,p,ai,rfl,S,e,h⟩
  unfold f157_j1 at h
  refine cd h (fun am h=>?_) (fun am h=>?_)
  ·refine cT am (sr (m2 vN (wt (wp_ret (thenR ?_)))))
   have e_:=(Option.some.inj h).trans hr_
   obtain ⟨a9,ba⟩:=Prod.mk.inj e_
   obtain ⟨bb,bd,be⟩:=Dcounter.mk.inj a9
   subst bb
   subst bd
   subst be
   subst ba
   exact retA1 rfl (resT rfl) ⟨t,rfl,(e.sel [0])⟩
  ·refine cF am (wp_skip (thenN (sr (m2 (iI 0) (wt (sr (m2 vN (wt (wp_cut (fun a w=>∃ aP W U Z,a=fr 107 (updL aP [(0,pp g 0),(2,iI i),(4,pp (zz wi) 0),(7,iI U),(8,.bool Z)])∧KH.sub t W∧SR K W wi w [.box bs g #[iI I,iI J,.bool N] 132] [.box bs g #[iI m,iI o,.bool p] 132,.box (zz wi) (zz wi) (vE c d b u v f x).toArray 107]∧f157_j2 k F f i m o p U Z=some r_) ?_ ?_)))))))))
   ·refine sr (fd 0 Tyf107_0 rfl (l1 1 (iI c) e Tya3 (wt (wp_block (sr (c0 (c == 1) (m2 (.bool (c == 1)) (wt (cd h (fun an h=>?_) (fun an h=>?_))))))))))
    ·refine cT an (wp_region_lit (fd 1 Tyf107_1 rfl (l1 1 (iI d) e Tya3 ?_)))
     obtain ⟨bf,bg,h⟩:=ob h
     refine cv ([iI d,iI 0,iI 1000000000000]) Tyb116 ((f116_ok k) bg (hG.mono S) (pt e)) ?_
     rintro _ bR ⟨aQ,rfl,ao⟩
     have ap:=ca ao e
     refine m1 (.bool bf) (cd h (fun y h=>?_) (fun y h=>?_))
     ·exact n1 45 y (fd 2 Tyf107_2 rfl (n1 45 y (l1 1 (.string b) ap Tya9 (n1 45 y (bsc (r:=(seq b ⟨#[]⟩)) rfl rfl rfl (m3 true (.bool (seq b ⟨#[]⟩)) (cg y) (m2 (.bool (seq b ⟨#[]⟩)) (wpList_nil (blkN (thenN (⟨_,aQ,0,(seq b ⟨#[]⟩),fR,ao.sub,ap,h⟩)))))))))))
     ·exact o1 45 y (o1 45 y (o1 45 y (m3 false vN (cg y) (m2 vN (wpList_nil (blkN (thenN (⟨_,aQ,0,false,fR,ao.sub,ap,h⟩))))))))
    ·refine cF an (sr (c0 (c == 2) (m2 (.bool (c == 2)) (wt (cd h (fun aq h=>?_) (fun aq h=>?_))))))
     ·refine cT aq (wp_region_lit (fd 1 Tyf107_1 rfl (l1 1 (iI d) e Tya3 ?_)))
      obtain ⟨bh,bi,h⟩:=ob h
      refine cv ([iI d,iI 0,iI 1]) Tyb116 ((f116_ok k) bi (hG.mono S) (pt e)) ?_
      rintro _ bS ⟨aR,rfl,ar⟩
      have au:=ca ar e
      refine m1 (.bool bh) (cd h (fun z h=>?_) (fun z h=>?_))
      ·exact n1 55 z (fd 2 Tyf107_2 rfl (n1 55 z (l1 1 (.string b) au Tya9 (n1 55 z (bsc (r:=(seq b ⟨#[]⟩)) rfl rfl rfl (m3 true (.bool (seq b ⟨#[]⟩)) (cg z) (m2 (.bool (seq b ⟨#[]⟩)) (wpList_nil (blkN (thenN (⟨_,aR,0,(seq b ⟨#[]⟩),fR,ar.sub,au,h⟩)))))))))))
      ·exact o1 55 z (o1 55 z (o1 55 z (m3 false vN (cg z) (m2 vN (wpList_nil (blkN (thenN (⟨_,aR,0,false,fR,ar.sub,au,h⟩))))))))
     ·refine cF aq (sr (c0 (c == 3) (m2 (.bool (c == 3)) (wt (cd h (fun av h=>?_) (fun av h=>?_))))))
      ·refine cT av (wp_region_lit (fd 1 Tyf107_1 rfl (l1 1 (iI d) e Tya3 (c0 (d == 0) (m1 (.bool (d == 0)) (cd h (fun A h=>?_) (fun A h=>?_)))))))
       ·refine n1 65 A (fd 2 Tyf107_2 rfl (n1 65 A (l1 1 (.string b) e Tya9 (n1 65 A ?_))))
        obtain ⟨aw,bj,h⟩:=ob h
        refine cv ([.string b]) Tyb160 ((f160_ok k) bj (hG.mono S) aK (pt e)) ?_
        rintro _ bT ⟨bk,rfl,aS⟩
        have bm:=ca aS e
        exact m3 true (.bool aw) (cg A) (m2 (.bool aw) (wpList_nil (blkN (thenN (⟨_,bk,0,aw,fR,aS.sub,bm,h⟩)))))
       ·exact o1 65 A (o1 65 A (o1 65 A (m3 false vN (cg A) (m2 vN (wpList_nil (blkN (thenN (⟨_,t,0,false,fR,kr,e,h⟩))))))))
      ·refine cF av (sr (c0 (c == 4) (m2 (.bool (c == 4)) (wt (cd h (fun ax h=>?_) (fun ax h=>?_))))))
       ·refine cT ax (wp_region_lit (fd 1 Tyf107_1 rfl (l1 1 (iI d) e Tya3 (c0 (d == 0) (m1 (.bool (d == 0)) (cd h (fun B h=>?_) (fun B h=>?_)))))))
        ·refine n1 75 B (fd 2 Tyf107_2 rfl (n1 75 B (l1 1 (.string b) e Tya9 (n1 75 B ?_))))
         obtain ⟨ay,bn,h⟩:=ob h
         refine cv ([.string b]) Tyb63 ((f63_ok k) bn (hG.mono S) aK (pt e)) ?_
         rintro _ bU ⟨bo,rfl,aT⟩
         have bp:=ca aT e
         exact m3 true (.bool ay) (cg B) (m2 (.bool ay) (wpList_nil (blkN (thenN (⟨_,bo,0,ay,fR,aT.sub,bp,h⟩)))))
        ·exact o1 75 B (o1 75 B (o1 75 B (m3 false vN (cg B) (m2 vN (wpList_nil (blkN (thenN (⟨_,t,0,false,fR,kr,e,h⟩))))))))
       ·refine cF ax (wp_cut (fun a w=>∃ aU az,a=fr 107 (updL aU [(0,pp g 0),(2,iI i),(4,pp (zz wi) 0),(80,.bool az)])∧SR K t wi w [.box bs g #[iI I,iI J,.bool N] 132] [.box bs g #[iI m,iI o,.bool p] 132,.box (zz wi) (zz wi) (vE c d b u v f x).toArray 107]∧f157_j4 k F c d b f i m o p az=some r_) ?_ ?_)
        ·refine sr (c0 (c == 5) (m2 (.bool (c == 5)) (wt (cd h (fun aA h=>?_) (fun aA h=>?_)))))
         ·exact cT aA (wp_skip (thenN (⟨_,(c == 5),fR,e,h⟩)))
         ·exact cF aA (wp_region_lit (c0 (c == 6) (m2 (.bool (c == 6)) (wt (⟨_,(c == 6),fR,e,h⟩)))))
        ·rintro _ bV ⟨aU,az,rfl,V,h⟩
         unfold f157_j4 at h
         refine cd h (fun aB h=>?_) (fun aB h=>?_)
         ·refine cT aB (wp_cut (fun a w=>∃ aV ad,a=fr 107 (updL aV [(0,pp g 0),(2,iI i),(4,pp (zz wi) 0),(8,.bool ad)])∧SR K t wi w [.box bs g #[iI I,iI J,.bool N] 132] [.box bs g #[iI m,iI o,.bool p] 132,.box (zz wi) (zz wi) (vE c d b u v f x).toArray 107]∧f157_j5 k F f i m o p ad=some r_) ?_ ?_)
          ·refine wp_region_lit (fd 1 Tyf107_1 rfl (l1 1 (iI d) V Tya3 (c0 (d == 0) (m1 (.bool (d == 0)) (cd h (fun C h=>?_) (fun C h=>?_))))))
           ·exact n1 86 C (fd 2 Tyf107_2 rfl (n1 86 C (l1 1 (.string b) V Tya9 (n1 86 C (bsc (r:=(seq b ⟨#[]⟩)) rfl rfl rfl (m3 true (.bool (seq b ⟨#[]⟩)) (cg C) (m2 (.bool (seq b ⟨#[]⟩)) (wt (⟨_,(seq b ⟨#[]⟩),fR,V,h⟩)))))))))
           ·exact o1 86 C (o1 86 C (o1 86 C (m3 false vN (cg C) (m2 vN (wt (⟨_,false,fR,V,h⟩))))))
          ·rintro _ bW ⟨aV,ad,rfl,bq,h⟩
           unfold f157_j5 at h
           exact wp_region_lit (m2 (iI 1) (wpList_nil (blkN (thenN (⟨_,t,1,ad,fR,kr,bq,h⟩)))))
         ·refine cF aB (wp_cut (fun a w=>∃ aW ae af,a=fr 107 (updL aW [(0,pp g 0),(2,iI i),(4,pp (zz wi) 0),(8,.bool af)])∧KH.sub t ae∧SR K ae wi w [.box bs g #[iI I,iI J,.bool N] 132] [.box bs g #[iI m,iI o,.bool p] 132,.box (zz wi) (zz wi) (vE c d b u v f x).toArray 107]∧f157_j6 k F f i m o p af=some r_) ?_ ?_)
          ·refine wp_region_lit (fd 0 Tyf107_0 rfl (l1 1 (iI c) V Tya3 ?_))
           obtain ⟨br,bu,h⟩:=ob h
           refine cv ([iI c,iI 7,iI 19]) Tyb116 ((f116_ok k) bu (hG.mono S) (pt V)) ?_
           rintro _ bX ⟨aE,rfl,ag⟩
           have ab:=ca ag V
           refine m1 (.bool br) (cd h (fun D h=>?_) (fun D h=>?_))
           ·refine n1 30 D (fd 1 Tyf107_1 rfl (n1 30 D (l1 1 (iI d) ab Tya3 (n1 30 D (c0 (d == 0) (m3 true (.bool (d == 0)) (cg D) (m1 (.bool (d == 0)) (cd h (fun G h=>?_) (fun G h=>?_)))))))))
            ·exact n1 35 G (fd 2 Tyf107_2 rfl (n1 35 G (l1 1 (.string b) ab Tya9 (n1 35 G (bsc (r:=(seq b ⟨#[]⟩)) rfl rfl rfl (m3 true (.bool (seq b ⟨#[]⟩)) (cg G) (m2 (.bool (seq b ⟨#[]⟩)) (wt (⟨_,aE,(seq b ⟨#[]⟩),fR,ag.sub,ab,h⟩)))))))))
            ·exact o1 35 G (o1 35 G (o1 35 G (m3 false vN (cg G) (m2 vN (wt (⟨_,aE,false,fR,ag.sub,ab,h⟩))))))
           ·exact o1 30 D (o1 30 D (o1 30 D (m3 false vN (cg D) (m1 vN (o0 35 (o0 35 (o0 35 (m3 false vN rfl (m2 vN (wt (⟨_,aE,false,fR,ag.sub,ab,h⟩)))))))))))
          ·rintro _ bY ⟨aW,ae,af,rfl,bv,bw,h⟩
           unfold f157_j6 at h
           exact wp_region_lit (m2 (iI 2) (wpList_nil (blkN (thenN (⟨_,ae,2,af,fR,bv,bw,h⟩)))))
   ·rintro _ bZ ⟨aP,W,U,Z,rfl,aX,X,h⟩
    unfold f157_j2 at h
    refine wp_cut (fun a w=>∃ aY ah aF aG aH aI,a=fr 107 (updL aY [(6,.bool aF)])∧KH.sub W ah∧SR K ah wi w [.box bs g #[iI I,iI J,.bool N] 132] [.box bs g #[iI aG,iI aH,.bool aI] 132]∧f157_j3 k F aF aG aH aI=some r_) ?_ ?_
    ·refine wp_region_lit (m1 (.bool Z) (m1 (.bool Z) (cd h (fun s h=>?_) (fun s h=>?_))))
     ·refine n1 92 s (fd 4 Tyf107_4 rfl (n1 92 s (l1 1 (sl v f x) X Tya39 (n1 92 s (lS f.length Tye39 (n1 92 s (m1 (iI U) (n1 92 s (c0 ((f.length:Int) == U) (m3 true (.bool ((f.length:Int) == U)) (cg s) (m1 (.bool ((f.length:Int) == U)) (cd h (fun l h=>?_) (fun l h=>?_)))))))))))))
      ·refine n1 99 l (m1 (pp g 0) (n1 99 l (fd 4 Tyf107_4 rfl (n1 99 l (l1 1 (sl v f x) X Tya39 (n1 99 l (m1 (iI i) (n1 99 l (bar (r:=(w64 (i + 1))) rfl rfl rfl (n1 99 l ?_))))))))))
       obtain ⟨⟨⟨bx,bz,bA⟩,aJ⟩,bB,h⟩:=ob h
       refine cv ([pp g 0,sl v f x,iI (w64 (i + 1))]) Tyb153 (IH153 bB (hG.mono (S.trans aX)) (me a5 (S.trans aX)) (pt X)) ?_
       rintro _ b0 ⟨bC,rfl,aZ⟩
       have bD:=ca aZ X
       exact m3 true (.bool aJ) (cg l) (m2 (.bool aJ) (wt (⟨_,bC,aJ,bx,bz,bA,fR,aZ.sub,(bD.sel [0]),h⟩)))
      ·exact o1 99 l (o1 99 l (o1 99 l (o1 99 l (o1 99 l (o1 99 l (m3 false vN (cg l) (m2 vN (wt (⟨_,W,false,m,o,p,fR,kr,(X.sel [0]),h⟩)))))))))
     ·exact o1 92 s (o1 92 s (o1 92 s (o1 92 s (o1 92 s (m3 false vN (cg s) (m1 vN (o0 99 (o0 99 (o0 99 (o0 99 (o0 99 (o0 99 (m3 false vN rfl (m2 vN (wt (⟨_,W,false,m,o,p,fR,kr,(X.sel [0]),h⟩))))))))))))))))
    ·rintro _ b1 ⟨aY,ah,aF,aG,aH,aI,rfl,b2,bE,h⟩
     unfold f157_j3 at h
     refine wp_ret ?_
     have e_:=(Option.some.inj h).trans hr_
     obtain ⟨bF,bG⟩:=Prod.mk.inj e_
     obtain ⟨bH,bI,bJ⟩:=Dcounter.mk.inj bF
     subst bH
     subst bI
     subst bJ
     subst bG
     exact retA1 rfl (resT rfl) ⟨ah,rfl,bE⟩
theorem fam153_ok (k0:Nat) : ∀ k,f153_spec (fam153 k0 k).f153∧f157_spec (fam153 k0 k).f157:=by
 intro k
 induction k with
 | zero=>exact ⟨(by unfold f153_spec; intro _ _ _ _ _ _ _ _ _ _ _ _ _ _ _ h_; cases h_),(by unfold f157_spec; intro _ _ _ _ _ _ _ _ _ _ _ _ _ _ h_; cases h_)⟩
 | succ k ih=>exact ⟨f153_b_ok k0 (fam153 k0 k) ih.1 ih.2,f157_b_ok k0 (fam153 k0 k) ih.1 ih.2⟩
theorem f153_ok (k:Nat):f153_spec (f153 k):=(fam153_ok k k).1
theorem f157_ok (k:Nat):f157_spec (f157 k):=(fam153_ok k k).2
theorem f118_b_ok (k:Nat) (F:Fam118) (IH118:f118_spec F.f118) (IH138:f138_spec F.f138) (IH152:f152_spec F.f152):f118_spec (f118_b k F):=by
 unfold f118_spec
 intro K wi g bs ac ad ae d ah ai W a0 a3 a4 a5 h hG aj aq
 obtain ⟨r_,hr_,h⟩:=rz h
 refine enter Tryz.func118 rfl (n:=21) rfl ?_
 unfold f118_b at h
 refine sr (m2 vN (wt (wp_seq (sr (m1 (sl ah d ai) (lS d.length Tye36 (m1 (iI 0) (wt (wp_block (wp_loopG (fun g_ a w=>∃ ak V e,∃ (c:Nat),∃ X Y Z,g_=e.length∧a=fr 21 (updL ak [(0,pp g 0),(2,iI W),(9,sl ah d ai),(10,iI (d.length:Int)),(11,iI (c:Int))])∧KH.sub K V∧SR K V wi w [.box bs g #[iI ac,iI ad,.bool ae] 132] [.box bs g #[iI X,iI Y,.bool Z] 132]∧d.drop c=e∧f118_l1 k F W e c X Y Z=some r_) d.length ?_ ?_))))))))))
 ·exact ⟨_,K,d,0,ac,ad,ae,rfl,fR,kr,aq,List.drop_zero,h⟩
 ·rintro _ _ ar ⟨ak,V,e,c,X,Y,Z,rfl,rfl,ab,af,f,h⟩
  rcases e with _ | ⟨⟨l,m,p,q,s,t,u,x,y,z,A⟩,e⟩
  ·unfold f118_l1 at h
   refine sr (bcm (r:=false) rfl rfl (congrArg some (drop_nil_lt f)) (wt (wp_seq (cndF rfl (wp_exit (thenX (thenX (blkX (thenN (sr (m2 vT (wt (wp_ret ?_)))))))))))))
   have e_:=(Option.some.inj h).trans hr_
   obtain ⟨au,av⟩:=Prod.mk.inj e_
   obtain ⟨aw,ax,ay⟩:=Dcounter.mk.inj au
   subst aw
   subst ax
   subst ay
   subst av
   exact retA1 rfl (resT rfl) ⟨V,rfl,af⟩
  ·unfold f118_l1 at h
   refine sr (bcm (r:=true) rfl rfl (congrArg some (drop_cons_t f)) (wt (wp_seq (cndT rfl (wp_skip (thenN (wp_seq (wp_block (sr ?_)))))))))
   obtain ⟨az,aA,a6,aB,a7,aE,aF⟩:=((ms aj ab)).row.at_ (drop_cons_at f)
   obtain ⟨B,C,D,G,I,J,N,O,S,U,rfl,aG,aH,aI,aJ,aK,aL,aM⟩:=RDStmt.open aF
   refine idxN (b:=az) (o:=aA) (i:=c) Tye36 Tys42 rfl aB rfl (drop_cons_lt f) (lD (vS l m p q s t B u C D x G I y J N z O S A U) Tya42 Tys42 rfl (fun j v hj=>af.cell (kr.cell (aE j v hj))) (aC zS.toArray af Tyz42 (fun a8 aN=>(sI 0 (.agg (vS l m p q s t B u C D x G I y J N z O S A U).toArray) ((vS l m p q s t B u C D x G I y J N z O S A U).toArray) aN Tys42 rfl rfl (fun aP al=>(wt (sr (m1 (pp g 0) (lN 0 (vS l m p q s t B u C D x G I y J N z O S A U) al Tya42 Tys42 (m1 (iI W) ?_))))))))))
   have am:=p10 al
   obtain ⟨⟨⟨aQ,aR,aS⟩,aT⟩,aU,h⟩:=ob h
   refine cv ([pp g 0,.agg (vS l m p q s t B u C D x G I y J N z O S A U).toArray,iI W]) Tyb138 (IH138 aU (hG.mono ab) (RDStmt.intro aG aH aI aJ aK aL aM) (pt am)) ?_
   rintro _ a9 ⟨an,rfl,ao⟩
   have ap:=ca ao am
   refine uN aT (wt (cd h (fun ag h=>?_) (fun ag h=>?_)))
   ·refine cT ag (sr (m2 vN (wt (wp_ret (blkR (thenR (thenR (blkR (thenR ?_)))))))))
    have e_:=(Option.some.inj h).trans hr_
    obtain ⟨aV,aW⟩:=Prod.mk.inj e_
    obtain ⟨aX,aY,aZ⟩:=Dcounter.mk.inj aV
    subst aX
    subst aY
    subst aZ
    subst aW
    exact retA1 rfl (resT rfl) ⟨an,rfl,(ap.sel [0])⟩
   ·exact cF ag (wp_skip (blkN (thenN (wp_region_lit (bar (r:=((c + 1:Nat):Int)) rfl rfl (inc_ok (le_big (((ms aj ab)).len) (by decide) (drop_cons_lt f))) (m1 (iI ((c + 1:Nat):Int)) (wt (⟨_,Nat.lt_succ_self _,_,an,e,c + 1,aQ,aR,aS,rfl,fR,(ab.trans ao.sub),(ap.sel [0]),drop_cons_next f,h⟩))))))))
theorem f138_b_ok (k:Nat) (F:Fam118) (IH118:f118_spec F.f118) (IH138:f138_spec F.f138) (IH152:f152_spec F.f152):f138_spec (f138_b k F):=by
 unfold f138_spec
 intro K wi g bs aB aE aF dH fF l fG fH fI fJ h hG dI dJ
 obtain ⟨r_,hr_,h⟩:=rz h
 obtain ⟨d,m,V,e,U,ah,u,p,B,C,c⟩:=dH
 obtain ⟨W,X,Y,Z,ad,ae,af,ag,x,y,rfl,b5,bD,b6,b7,b8,b9,bU⟩:=RDStmt.open dI
 refine enter Tryz.func138 rfl (n:=192) rfl ?_
 unfold f138_b at h
 refine sr (bxoC (cs:=(vS d m V e U ah W u X Y p Z ad B ae af C ag x c y).toArray) dJ rfl rfl (fun c4 dK=>(m2 vN (wt (wp_cut (fun a w=>∃ c5 bV bE ab s ba bb a8 bI,a=fr 192 (updL c5 [(0,pp g 0),(2,iI l),(4,pp (zz wi) 0),(7,pp bE 0),(8,.bool bI)])∧KH.sub K bV∧SR K bV wi w [.box bs g #[iI aB,iI aE,.bool aF] 132] [.box bs g #[iI aB,iI aE,.bool aF] 132,.box (zz wi) (zz wi) (vS d m V e U ah W u X Y p Z ad B ae af C ag x c y).toArray 42,.box (zz wi) bE #[iI ab,.bool s,iI ba,iI bb,.bool a8] 185]∧f138_j1 k F aB aE aF d m V e U ah u p B C c l ab s ba bb a8 bI=some r_) ?_ ?_)))))
 ·have bJ:=dK.drew
  refine regAny (E:=[3,8]) (F:=FW K [.box (zz wi) (zz wi) (vS d m V e U ah W u X Y p Z ad B ae af C ag x c y).toArray 42,.box bs g #[iI aB,iI aE,.bool aF] 132]) (L:=(lb 10 0)) ymx rfl rfl (tk 1 (pp (zz wi) 0) (lb 10 2) rfl (fun w=>fld_r (o':=0) Tyf42_0 rfl rfl) (heldF (fq [0,1] bJ)) (tf 2 (iI d) ([[3,2],[8,2]]) (lb 10 6) rfl (fq [0,1] bJ) (fun w hF=>lb1_r (i:=0) (v:=iI d) hF rfl Tya3 rfl rfl) (anyAll (rs:=[0,7]) (by kernel_rfl) (by decide) (allC ?_ (allC ?_ allN)))))
  ·refine opL (i:=0) rfl ?_
   obtain ⟨a9,dL,h⟩:=ob h
   refine cv ([]) Tyb150 ((f150_ok k) dL (hG.mono kr) (pt bJ)) ?_
   rintro _ cb ⟨bu,fK,fL,fM,rfl,bF,cc⟩
   have dM:=ca bF bJ
   have bK:=dM.lowerm_ (i:=0) rfl bJ.size
   refine wt ⟨heldF (fwOf (is:=[1,2]) bK bF.sub rfl),anyAll (rs:=[3,7]) (by kernel_rfl) (by decide) (allC ?_ (allC ?_ allN))⟩
   ·refine opL (i:=3) rfl ?_
    rcases bG:mget qI d a9 with _ | ⟨D,G,I,J,N⟩
    ·have h:=of_mcase_n bG h
     exact lkN (kv:=kI) (q:=qI) (R:=(VAgg (RDshape bu))) (xs:=a9) (k:=d) (bK.entAt (i:=0) rfl).1 Tym187 (und_i64 Tyk3) keI Tyz185 cc rfl rfl bG (wt ⟨heldE (i:=3) rfl rfl,tk 4 (.tuple #[.agg #[iI 0,vN,iI 0,iI 0,vN],vN]) (lb 10 31) rfl (fun w=>mv_r (v:=.tuple #[.agg #[iI 0,vN,iI 0,iI 0,vN],vN]) rfl) (heldE (i:=3) rfl rfl) (tk 5 (.agg #[iI 0,vN,iI 0,iI 0,vN]) (lb 10 63) rfl (fun w=>ext_r (v:=.agg #[iI 0,vN,iI 0,iI 0,vN]) rfl rfl) (heldE (i:=3) rfl rfl) (tk 6 vN (lb 10 127) rfl (fun w=>ext_r (v:=vN) rfl rfl) (heldE (i:=3) rfl rfl) (aO 7 rfl (aC #[iI 0,vN,iI 0,iI 0,vN] bK Tyz185 (fun fN dN=>(wt ⟨heldE (i:=3) rfl rfl,aO 8 rfl (sI 0 (.agg #[iI 0,vN,iI 0,iI 0,vN]) #[iI 0,vN,iI 0,iI 0,vN] dN Tys185 rfl rfl (fun c7 bW=>(wt ⟨heldE (i:=8) rfl rfl,tk 9 vN (lb 10 1023) rfl (fun w=>asg_r (v:=vN) rfl) (heldE (i:=3) rfl rfl) (aD (thenN (⟨_,bu,(zz cb),0,false,0,0,false,false,fR,bF.sub,(bW.sel [3,2,0]),h⟩)))⟩)))⟩))))))⟩)
    ·have h:=of_mcase_s bG h
     refine lkS (kv:=kI) (q:=qI) (R:=(VAgg (RDshape bu))) (xs:=a9) (k:=d) (bK.entAt (i:=0) rfl).1 Tym187 (und_i64 Tyk3) keI cc rfl rfl bG (fun fO dO=>?_)
     obtain ⟨c8,rfl,bX⟩:=dO
     obtain rfl:=RDshape.open bX
     exact wt ⟨heldE (i:=3) rfl rfl,tk 4 (.tuple #[.agg #[iI D,.bool G,iI I,iI J,.bool N],vT]) (lb 10 31) rfl (fun w=>mv_r (v:=.tuple #[.agg #[iI D,.bool G,iI I,iI J,.bool N],vT]) rfl) (heldE (i:=3) rfl rfl) (tk 5 (.agg #[iI D,.bool G,iI I,iI J,.bool N]) (lb 10 63) rfl (fun w=>ext_r (v:=.agg #[iI D,.bool G,iI I,iI J,.bool N]) rfl rfl) (heldE (i:=3) rfl rfl) (tk 6 vT (lb 10 127) rfl (fun w=>ext_r (v:=vT) rfl rfl) (heldE (i:=3) rfl rfl) (aO 7 rfl (aC #[iI 0,vN,iI 0,iI 0,vN] bK Tyz185 (fun da bY=>(wt ⟨heldE (i:=3) rfl rfl,aO 8 rfl (sI 0 (.agg #[iI D,.bool G,iI I,iI J,.bool N]) #[iI D,.bool G,iI I,iI J,.bool N] bY Tys185 rfl rfl (fun fP dP=>(wt ⟨heldE (i:=8) rfl rfl,tk 9 vT (lb 10 1023) rfl (fun w=>asg_r (v:=vT) rfl) (heldE (i:=3) rfl rfl) (aD (thenN (⟨_,bu,(zz cb),D,G,I,J,N,true,fR,bF.sub,(dP.sel [3,2,0]),h⟩)))⟩)))⟩))))))⟩
   ·refine opL (i:=7) rfl (aC #[iI 0,vN,iI 0,iI 0,vN] bK Tyz185 (fun fQ bZ=>(wt ⟨heldF (fwOf (is:=[2,3]) bZ bF.sub rfl),aO 3 rfl ?_⟩)))
    rcases bd:mget qI d a9 with _ | ⟨D,G,I,J,N⟩
    ·have h:=of_mcase_n bd h
     exact lkN (kv:=kI) (q:=qI) (R:=(VAgg (RDshape bu))) (xs:=a9) (k:=d) (bZ.entAt (i:=1) rfl).1 Tym187 (und_i64 Tyk3) keI Tyz185 cc rfl rfl bd (wt ⟨heldE (i:=3) rfl rfl,tk 4 (.tuple #[.agg #[iI 0,vN,iI 0,iI 0,vN],vN]) (lb 10 159) rfl (fun w=>mv_r (v:=.tuple #[.agg #[iI 0,vN,iI 0,iI 0,vN],vN]) rfl) (heldE (i:=3) rfl rfl) (tk 5 (.agg #[iI 0,vN,iI 0,iI 0,vN]) (lb 10 191) rfl (fun w=>ext_r (v:=.agg #[iI 0,vN,iI 0,iI 0,vN]) rfl rfl) (heldE (i:=3) rfl rfl) (tk 6 vN (lb 10 255) rfl (fun w=>ext_r (v:=vN) rfl rfl) (heldE (i:=3) rfl rfl) (aO 8 rfl (sI 0 (.agg #[iI 0,vN,iI 0,iI 0,vN]) #[iI 0,vN,iI 0,iI 0,vN] bZ Tys185 rfl rfl (fun c7 bW=>(wt ⟨heldE (i:=8) rfl rfl,tk 9 vN (lb 10 1023) rfl (fun w=>asg_r (v:=vN) rfl) (heldE (i:=3) rfl rfl) (aD (thenN (⟨_,bu,(zz cb),0,false,0,0,false,false,fR,bF.sub,(bW.sel [3,2,0]),h⟩)))⟩))))))⟩)
    ·have h:=of_mcase_s bd h
     refine lkS (kv:=kI) (q:=qI) (R:=(VAgg (RDshape bu))) (xs:=a9) (k:=d) (bZ.entAt (i:=1) rfl).1 Tym187 (und_i64 Tyk3) keI cc rfl rfl bd (fun dQ cB=>?_)
     obtain ⟨c8,rfl,bX⟩:=cB
     obtain rfl:=RDshape.open bX
     exact wt ⟨heldE (i:=3) rfl rfl,tk 4 (.tuple #[.agg #[iI D,.bool G,iI I,iI J,.bool N],vT]) (lb 10 159) rfl (fun w=>mv_r (v:=.tuple #[.agg #[iI D,.bool G,iI I,iI J,.bool N],vT]) rfl) (heldE (i:=3) rfl rfl) (tk 5 (.agg #[iI D,.bool G,iI I,iI J,.bool N]) (lb 10 191) rfl (fun w=>ext_r (v:=.agg #[iI D,.bool G,iI I,iI J,.bool N]) rfl rfl) (heldE (i:=3) rfl rfl) (tk 6 vT (lb 10 255) rfl (fun w=>ext_r (v:=vT) rfl rfl) (heldE (i:=3) rfl rfl) (aO 8 rfl (sI 0 (.agg #[iI D,.bool G,iI I,iI J,.bool N]) #[iI D,.bool G,iI I,iI J,.bool N] bZ Tys185 rfl rfl (fun da bY=>(wt ⟨heldE (i:=8) rfl rfl,tk 9 vT (lb 10 1023) rfl (fun w=>asg_r (v:=vT) rfl) (heldE (i:=3) rfl rfl) (aD (thenN (⟨_,bu,(zz cb),D,G,I,J,N,true,fR,bF.sub,(bY.sel [3,2,0]),h⟩)))⟩))))))⟩
  ·refine opL (i:=7) rfl (aC #[iI 0,vN,iI 0,iI 0,vN] bJ Tyz185 (fun fS ce=>(wt ⟨heldF (fq [1,2] ce),aO 0 rfl ?_⟩)))
   obtain ⟨a9,dR,h⟩:=ob h
   refine cv ([]) Tyb150 ((f150_ok k) dR (hG.mono kr) (pt ce)) ?_
   rintro _ fT ⟨cf,fU,fV,fW,rfl,ch,bG⟩
   have dS:=ca ch ce
   have b0:=dS.lowerm_ (i:=0) rfl ce.size
   refine wt ⟨heldF (fwOf (is:=[2,3]) b0 ch.sub rfl),aO 3 rfl ?_⟩
   rcases bd:mget qI d a9 with _ | ⟨D,G,I,J,N⟩
   ·have h:=of_mcase_n bd h
    exact lkN (kv:=kI) (q:=qI) (R:=(VAgg (RDshape cf))) (xs:=a9) (k:=d) (b0.entAt (i:=0) rfl).1 Tym187 (und_i64 Tyk3) keI Tyz185 bG rfl rfl bd (wt ⟨heldE (i:=3) rfl rfl,tk 4 (.tuple #[.agg #[iI 0,vN,iI 0,iI 0,vN],vN]) (lb 10 159) rfl (fun w=>mv_r (v:=.tuple #[.agg #[iI 0,vN,iI 0,iI 0,vN],vN]) rfl) (heldE (i:=3) rfl rfl) (tk 5 (.agg #[iI 0,vN,iI 0,iI 0,vN]) (lb 10 191) rfl (fun w=>ext_r (v:=.agg #[iI 0,vN,iI 0,iI 0,vN]) rfl rfl) (heldE (i:=3) rfl rfl) (tk 6 vN (lb 10 255) rfl (fun w=>ext_r (v:=vN) rfl rfl) (heldE (i:=3) rfl rfl) (aO 8 rfl (sI 1 (.agg #[iI 0,vN,iI 0,iI 0,vN]) #[iI 0,vN,iI 0,iI 0,vN] b0 Tys185 rfl rfl (fun c7 bW=>(wt ⟨heldE (i:=8) rfl rfl,tk 9 vN (lb 10 1023) rfl (fun w=>asg_r (v:=vN) rfl) (heldE (i:=3) rfl rfl) (aD (thenN (⟨_,cf,(zz c4.drew),0,false,0,0,false,false,fR,ch.sub,(bW.sel [3,2,1]),h⟩)))⟩))))))⟩)
   ·have h:=of_mcase_s bd h
    refine lkS (kv:=kI) (q:=qI) (R:=(VAgg (RDshape cf))) (xs:=a9) (k:=d) (b0.entAt (i:=0) rfl).1 Tym187 (und_i64 Tyk3) keI bG rfl rfl bd (fun dQ cB=>?_)
    obtain ⟨c8,rfl,bX⟩:=cB
    obtain rfl:=RDshape.open bX
    exact wt ⟨heldE (i:=3) rfl rfl,tk 4 (.tuple #[.agg #[iI D,.bool G,iI I,iI J,.bool N],vT]) (lb 10 159) rfl (fun w=>mv_r (v:=.tuple #[.agg #[iI D,.bool G,iI I,iI J,.bool N],vT]) rfl) (heldE (i:=3) rfl rfl) (tk 5 (.agg #[iI D,.bool G,iI I,iI J,.bool N]) (lb 10 191) rfl (fun w=>ext_r (v:=.agg #[iI D,.bool G,iI I,iI J,.bool N]) rfl rfl) (heldE (i:=3) rfl rfl) (tk 6 vT (lb 10 255) rfl (fun w=>ext_r (v:=vT) rfl rfl) (heldE (i:=3) rfl rfl) (aO 8 rfl (sI 1 (.agg #[iI D,.bool G,iI I,iI J,.bool N]) #[iI D,.bool G,iI I,iI J,.bool N] b0 Tys185 rfl rfl (fun da bY=>(wt ⟨heldE (i:=8) rfl rfl,tk 9 vT (lb 10 1023) rfl (fun w=>asg_r (v:=vT) rfl) (heldE (i:=3) rfl rfl) (aD (thenN (⟨_,cf,(zz c4.drew),D,G,I,J,N,true,fR,ch.sub,(bY.sel [3,2,1]),h⟩)))⟩))))))⟩
 ·rintro _ fX ⟨c5,bV,bE,ab,s,ba,bb,a8,bI,rfl,f,cC,h⟩
  unfold f138_j1 at h
  refine wp_seq (wp_cut (fun a w=>∃ db aU bv bw bx cD,a=fr 192 (updL db [(0,pp g 0),(2,iI l),(4,pp (zz wi) 0),(7,pp bE 0),(48,.bool cD)])∧KH.sub bV aU∧SR K aU wi w [.box bs g #[iI aB,iI aE,.bool aF] 132] [.box bs g #[iI bv,iI bw,.bool bx] 132,.box (zz wi) (zz wi) (vS d m V e U ah W u X Y p Z ad B ae af C ag x c y).toArray 42,.box (zz wi) bE #[iI ab,.bool s,iI ba,iI bb,.bool a8] 185]∧f138_j2 k F d m e u p B C c l ab s ba bb a8 bv bw bx cD=some r_) ?_ ?_)
  ·refine wp_region_lit (m1 (.bool bI) (uN bI (m1 (.bool (!bI)) (cd h (fun aV h=>?_) (fun aV h=>?_)))))
   ·exact o1 21 aV (o1 21 aV (o1 21 aV (o1 21 aV (m3 true vT (cg aV) (m1 vT (o0 27 (o0 27 (o0 27 (o0 27 (ou 31 (ou 31 (ou 31 (o0 27 (o0 27 (ou 36 (ou 36 (ou 36 (ou 36 (ou 36 (o0 27 (m3 true vT rfl (m1 vT (o0 44 (o0 44 (o0 44 (m3 true vT rfl (wt (⟨_,bV,aB,aE,aF,true,fR,kr,cC,h⟩))))))))))))))))))))))))))))
   ·refine n1 21 aV (m1 (pp g 0) (n1 21 aV (m1 (iI l) (n1 21 aV ?_))))
    obtain ⟨⟨⟨bL,bM,ak⟩,cG⟩,dT,h⟩:=ob h
    refine cv ([pp g 0,iI l]) Tyb117 ((f117_ok k) dT (hG.mono f) (pt cC)) ?_
    rintro _ fY ⟨cH,rfl,z⟩
    have al:=ca z cC
    refine n1 21 aV (uN cG (m3 false (.bool (!cG)) (cg aV) (m1 (.bool (!cG)) (cd h (fun O h=>?_) (fun O h=>?_)))))
    ·exact o1 27 O (o1 27 O (o1 27 O (o1 27 O (ou 31 (ou 31 (ou 31 (o1 27 O (o1 27 O (ou 36 (ou 36 (ou 36 (ou 36 (ou 36 (o1 27 O (m3 true vT (cg O) (m1 vT (o0 44 (o0 44 (o0 44 (m3 true vT rfl (wt (⟨_,cH,bL,bM,ak,true,fR,z.sub,al,h⟩))))))))))))))))))))))
    ·refine n1 27 O (fd 2 Tyf42_2 rfl (n1 27 O (l1 1 (iI V) al Tya3 (n1 27 O (c0 (V != 0) (n1 27 O (m1 (.bool (V != 0)) (cd h (fun be h=>?_) (fun be h=>?_)))))))))
     ·refine o1 31 be (o1 31 be (o1 31 be (n1 27 O (m3 true vT (cg be) (n1 27 O (m1 vT (n0 36 (m1 (pp g 0) (n0 36 (nilc rfl (n0 36 (fd 2 Tyf132_2 rfl (n0 36 (l1 0 (.bool ak) al Tya4 (n0 36 (uN ak (n1 27 O (m3 true (.bool (!ak)) rfl (m3 false (.bool (!ak)) (cg O) (m1 (.bool (!ak)) (cd h (fun bf h=>?_) (fun bf h=>?_))))))))))))))))))))))
      ·exact o1 44 bf (o1 44 bf (o1 44 bf (m3 true vT (cg bf) (wt (⟨_,cH,bL,bM,ak,true,fR,z.sub,al,h⟩)))))
      ·refine n1 44 bf (lN 1 (vS d m V e U ah W u X Y p Z ad B ae af C ag x c y) al Tya42 Tys42 (n1 44 bf ?_))
       obtain ⟨cI,dU,h⟩:=ob h
       refine cv ([.agg (vS d m V e U ah W u X Y p Z ad B ae af C ag x c y).toArray]) Tyb151 ((f151_ok k) dU (hG.mono (f.trans z.sub)) (RDStmt.intro b5 bD (me b6 (f.trans z.sub)) (ms b7 (f.trans z.sub)) (ms b8 (f.trans z.sub)) (ms b9 (f.trans z.sub)) (mc bU (f.trans z.sub))) (pt al)) ?_
       rintro _ fZ ⟨dV,rfl,dc⟩
       have dW:=ca dc al
       exact n1 44 bf (uN cI (m3 false (.bool (!cI)) (cg bf) (wt (⟨_,dV,bL,bM,ak,(!cI),fR,(z.sub.trans dc.sub),dW,h⟩))))
     ·refine n1 31 be (fd 4 Tyf42_4 rfl (n1 31 be (l1 1 (iI U) al Tya3 (n1 31 be (c0 (U != 0) (n1 27 O (m3 false (.bool (U != 0)) (cg be) (n1 27 O (m1 (.bool (U != 0)) (cd h (fun aG h=>?_) (fun aG h=>?_)))))))))))
      ·refine n1 36 aG (m1 (pp g 0) (n1 36 aG (nilc rfl (n1 36 aG (fd 2 Tyf132_2 rfl (n1 36 aG (l1 0 (.bool ak) al Tya4 (n1 36 aG (uN ak (n1 27 O (m3 true (.bool (!ak)) (cg aG) (m3 false (.bool (!ak)) (cg O) (m1 (.bool (!ak)) (cd h (fun bg h=>?_) (fun bg h=>?_)))))))))))))))
       ·exact o1 44 bg (o1 44 bg (o1 44 bg (m3 true vT (cg bg) (wt (⟨_,cH,bL,bM,ak,true,fR,z.sub,al,h⟩)))))
       ·refine n1 44 bg (lN 1 (vS d m V e U ah W u X Y p Z ad B ae af C ag x c y) al Tya42 Tys42 (n1 44 bg ?_))
        obtain ⟨cJ,dX,h⟩:=ob h
        refine cv ([.agg (vS d m V e U ah W u X Y p Z ad B ae af C ag x c y).toArray]) Tyb151 ((f151_ok k) dX (hG.mono (f.trans z.sub)) (RDStmt.intro b5 bD (me b6 (f.trans z.sub)) (ms b7 (f.trans z.sub)) (ms b8 (f.trans z.sub)) (ms b9 (f.trans z.sub)) (mc bU (f.trans z.sub))) (pt al)) ?_
        rintro _ f0 ⟨dY,rfl,dd⟩
        have dZ:=ca dd al
        exact n1 44 bg (uN cJ (m3 false (.bool (!cJ)) (cg bg) (wt (⟨_,dY,bL,bM,ak,(!cJ),fR,(z.sub.trans dd.sub),dZ,h⟩))))
      ·refine o1 36 aG (o1 36 aG (o1 36 aG (o1 36 aG (o1 36 aG (n1 27 O (m3 false vN (cg aG) (m3 false vN (cg O) (m1 vN (n0 44 (lN 1 (vS d m V e U ah W u X Y p Z ad B ae af C ag x c y) al Tya42 Tys42 (n0 44 ?_)))))))))))
       obtain ⟨cK,d0,h⟩:=ob h
       refine cv ([.agg (vS d m V e U ah W u X Y p Z ad B ae af C ag x c y).toArray]) Tyb151 ((f151_ok k) d0 (hG.mono (f.trans z.sub)) (RDStmt.intro b5 bD (me b6 (f.trans z.sub)) (ms b7 (f.trans z.sub)) (ms b8 (f.trans z.sub)) (ms b9 (f.trans z.sub)) (mc bU (f.trans z.sub))) (pt al)) ?_
       rintro _ f1 ⟨d1,rfl,de⟩
       have d2:=ca de al
       exact n0 44 (uN cK (m3 false (.bool (!cK)) rfl (wt (⟨_,d1,bL,bM,ak,(!cK),fR,(z.sub.trans de.sub),d2,h⟩))))
  ·rintro _ f2 ⟨db,aU,bv,bw,bx,cD,rfl,S,A,h⟩
   unfold f138_j2 at h
   refine cd h (fun cL h=>?_) (fun cL h=>?_)
   ·refine cT cL (sr (m2 vN (wt (wp_ret (thenR ?_)))))
    have e_:=(Option.some.inj h).trans hr_
    obtain ⟨d3,d4⟩:=Prod.mk.inj e_
    obtain ⟨d5,d6,d7⟩:=Dcounter.mk.inj d3
    subst d5
    subst d6
    subst d7
    subst d4
    exact retA1 rfl (resT rfl) ⟨aU,rfl,(A.sel [0])⟩
   ·refine cF cL (wp_skip (thenN (sr (fd 1 Tyf42_1 rfl (l1 1 (.string m) A Tya9 (bsc (r:=(!seq m ⟨#[]⟩)) rfl rfl rfl (m2 (.bool (!seq m ⟨#[]⟩)) (wt (wp_seq (wp_cut (fun a w=>∃ df b1 cM,a=fr 192 (updL df [(0,pp g 0),(2,iI l),(4,pp (zz wi) 0),(7,pp bE 0),(90,.bool cM)])∧KH.sub aU b1∧SR K b1 wi w [.box bs g #[iI aB,iI aE,.bool aF] 132] [.box bs g #[iI bv,iI bw,.bool bx] 132,.box (zz wi) (zz wi) (vS d m V e U ah W u X Y p Z ad B ae af C ag x c y).toArray 42,.box (zz wi) bE #[iI ab,.bool s,iI ba,iI bb,.bool a8] 185]∧f138_j3 k F d u p B C c l ba bb a8 bv bw bx cM=some r_) ?_ ?_))))))))))
    ·refine wp_region_lit (m1 (.bool (!seq m ⟨#[]⟩)) (m1 (.bool (!seq m ⟨#[]⟩)) (cd h (fun an h=>?_) (fun an h=>?_))))
     ·refine n1 53 an (fd 0 Tyf185_0 rfl (n1 53 an (l1 2 (iI ab) A Tya3 (n1 53 an (c0 (ab == 0) (n1 53 an (m1 (.bool (ab == 0)) (cd h (fun aW h=>?_) (fun aW h=>?_)))))))))
      ·exact o1 57 aW (o1 57 aW (o1 57 aW (o1 57 aW (n1 53 an (m3 true vT (cg aW) (m3 true vT (cg an) (m1 vT (o0 64 (o0 64 (o0 64 (ou 67 (ou 67 (ou 67 (o0 64 (m3 true vT rfl (m1 vT (o0 73 (o0 73 (o0 73 (o0 73 (o0 73 (o0 73 (m3 true vT rfl (m1 vT (o0 81 (o0 81 (o0 81 (ou 84 (ou 84 (ou 84 (ou 84 (o0 81 (m3 true vT rfl (wt (⟨_,aU,true,fR,kr,A,h⟩)))))))))))))))))))))))))))))))))))
      ·refine n1 57 aW (fd 1 Tyf42_1 rfl (n1 57 aW (l1 1 (.string m) A Tya9 (n1 57 aW ?_))))
       obtain ⟨ci,d8,h⟩:=ob h
       refine cv ([.string m]) Tyb63 ((f63_ok k) d8 (hG.mono (f.trans S)) b5 (pt A)) ?_
       rintro _ f3 ⟨bN,rfl,aX⟩
       have ac:=ca aX A
       refine n1 57 aW (uN ci (n1 53 an (m3 false (.bool (!ci)) (cg aW) (m3 true (.bool (!ci)) (cg an) (m1 (.bool (!ci)) (cd h (fun aH h=>?_) (fun aH h=>?_)))))))
       ·exact o1 64 aH (o1 64 aH (o1 64 aH (ou 67 (ou 67 (ou 67 (o1 64 aH (m3 true vT (cg aH) (m1 vT (o0 73 (o0 73 (o0 73 (o0 73 (o0 73 (o0 73 (m3 true vT rfl (m1 vT (o0 81 (o0 81 (o0 81 (ou 84 (ou 84 (ou 84 (ou 84 (o0 81 (m3 true vT rfl (wt (⟨_,bN,true,fR,aX.sub,ac,h⟩)))))))))))))))))))))))))))
       ·refine n1 64 aH (m1 (.bool (!seq m ⟨#[]⟩)) (n1 64 aH (uN (!seq m ⟨#[]⟩) (n1 64 aH (m1 (.bool (!(!seq m ⟨#[]⟩))) (cd h (fun bh h=>?_) (fun bh h=>?_)))))))
        ·refine n1 67 bh (fd 0 Tyf185_0 rfl (n1 67 bh (l1 2 (iI ab) ac Tya3 (n1 67 bh (c0 (ab == 1) (n1 64 aH (m3 true (.bool (ab == 1)) (cg bh) (m3 false (.bool (ab == 1)) (cg aH) (m1 (.bool (ab == 1)) (cd h (fun ao h=>?_) (fun ao h=>?_)))))))))))
         ·exact o1 73 ao (o1 73 ao (o1 73 ao (o1 73 ao (o1 73 ao (o1 73 ao (m3 true vT (cg ao) (m1 vT (o0 81 (o0 81 (o0 81 (ou 84 (ou 84 (ou 84 (ou 84 (o0 81 (m3 true vT rfl (wt (⟨_,bN,true,fR,aX.sub,ac,h⟩))))))))))))))))))
         ·refine n1 73 ao (fd 3 Tyf42_3 rfl (n1 73 ao (l1 1 (.string e) ac Tya9 (n1 73 ao (bsc (r:=(!seq e ⟨#[]⟩)) rfl rfl rfl (n1 73 ao (fd 1 Tyf185_1 rfl (n1 73 ao (l1 2 (.bool s) ac Tya4 (n1 73 ao (bbo (r:=(!((!seq e ⟨#[]⟩) == s))) Tyo4 rfl rfl rfl (m3 false (.bool (!((!seq e ⟨#[]⟩) == s))) (cg ao) (m1 (.bool (!((!seq e ⟨#[]⟩) == s))) (cd h (fun aI h=>?_) (fun aI h=>?_)))))))))))))))
          ·exact o1 81 aI (o1 81 aI (o1 81 aI (ou 84 (ou 84 (ou 84 (ou 84 (o1 81 aI (m3 true vT (cg aI) (wt (⟨_,bN,true,fR,aX.sub,ac,h⟩))))))))))
          ·refine n1 81 aI (fd 1 Tyf185_1 rfl (n1 81 aI (l1 2 (.bool s) ac Tya4 (n1 81 aI (m1 (.bool s) (cd h (fun aY h=>?_) (fun aY h=>?_)))))))
           ·refine n1 84 aY (fd 3 Tyf42_3 rfl (n1 84 aY (l1 1 (.string e) ac Tya9 (n1 84 aY ?_))))
            obtain ⟨cj,d9,h⟩:=ob h
            refine cv ([.string e]) Tyb63 ((f63_ok k) d9 (hG.mono ((f.trans S).trans aX.sub)) bD (pt ac)) ?_
            rintro _ f4 ⟨ea,rfl,dg⟩
            have ec:=ca dg ac
            exact n1 84 aY (uN cj (n1 81 aI (m3 true (.bool (!cj)) (cg aY) (m3 false (.bool (!cj)) (cg aI) (wt (⟨_,ea,(!cj),fR,(aX.sub.trans dg.sub),ec,h⟩))))))
           ·exact o1 84 aY (o1 84 aY (o1 84 aY (o1 84 aY (n1 81 aI (m3 false vN (cg aY) (m3 false vN (cg aI) (wt (⟨_,bN,false,fR,aX.sub,ac,h⟩))))))))
        ·refine o1 67 bh (o1 67 bh (o1 67 bh (n1 64 aH (m3 false vN (cg bh) (m3 false vN (cg aH) (m1 vN (n0 73 (fd 3 Tyf42_3 rfl (n0 73 (l1 1 (.string e) ac Tya9 (n0 73 (bsc (r:=(!seq e ⟨#[]⟩)) rfl rfl rfl (n0 73 (fd 1 Tyf185_1 rfl (n0 73 (l1 2 (.bool s) ac Tya4 (n0 73 (bbo (r:=(!((!seq e ⟨#[]⟩) == s))) Tyo4 rfl rfl rfl (m3 false (.bool (!((!seq e ⟨#[]⟩) == s))) rfl (m1 (.bool (!((!seq e ⟨#[]⟩) == s))) (cd h (fun aJ h=>?_) (fun aJ h=>?_))))))))))))))))))))))
         ·exact o1 81 aJ (o1 81 aJ (o1 81 aJ (ou 84 (ou 84 (ou 84 (ou 84 (o1 81 aJ (m3 true vT (cg aJ) (wt (⟨_,bN,true,fR,aX.sub,ac,h⟩))))))))))
         ·refine n1 81 aJ (fd 1 Tyf185_1 rfl (n1 81 aJ (l1 2 (.bool s) ac Tya4 (n1 81 aJ (m1 (.bool s) (cd h (fun aZ h=>?_) (fun aZ h=>?_)))))))
          ·refine n1 84 aZ (fd 3 Tyf42_3 rfl (n1 84 aZ (l1 1 (.string e) ac Tya9 (n1 84 aZ ?_))))
           obtain ⟨ck,ed,h⟩:=ob h
           refine cv ([.string e]) Tyb63 ((f63_ok k) ed (hG.mono ((f.trans S).trans aX.sub)) bD (pt ac)) ?_
           rintro _ f5 ⟨ee,rfl,dh⟩
           have ef:=ca dh ac
           exact n1 84 aZ (uN ck (n1 81 aJ (m3 true (.bool (!ck)) (cg aZ) (m3 false (.bool (!ck)) (cg aJ) (wt (⟨_,ee,(!ck),fR,(aX.sub.trans dh.sub),ef,h⟩))))))
          ·exact o1 84 aZ (o1 84 aZ (o1 84 aZ (o1 84 aZ (n1 81 aJ (m3 false vN (cg aZ) (m3 false vN (cg aJ) (wt (⟨_,bN,false,fR,aX.sub,ac,h⟩))))))))
     ·refine o1 53 an (o1 53 an (o1 53 an (o1 53 an (ou 57 (ou 57 (ou 57 (ou 57 (o1 53 an (m3 false vN (cg an) (m1 vN (n0 64 (m1 (.bool (!seq m ⟨#[]⟩)) (n0 64 (uN (!seq m ⟨#[]⟩) (n0 64 (m1 (.bool (!(!seq m ⟨#[]⟩))) (cd h (fun bi h=>?_) (fun bi h=>?_))))))))))))))))))
      ·refine n1 67 bi (fd 0 Tyf185_0 rfl (n1 67 bi (l1 2 (iI ab) A Tya3 (n1 67 bi (c0 (ab == 1) (n0 64 (m3 true (.bool (ab == 1)) (cg bi) (m3 false (.bool (ab == 1)) rfl (m1 (.bool (ab == 1)) (cd h (fun ap h=>?_) (fun ap h=>?_)))))))))))
       ·exact o1 73 ap (o1 73 ap (o1 73 ap (o1 73 ap (o1 73 ap (o1 73 ap (m3 true vT (cg ap) (m1 vT (o0 81 (o0 81 (o0 81 (ou 84 (ou 84 (ou 84 (ou 84 (o0 81 (m3 true vT rfl (wt (⟨_,aU,true,fR,kr,A,h⟩))))))))))))))))))
       ·refine n1 73 ap (fd 3 Tyf42_3 rfl (n1 73 ap (l1 1 (.string e) A Tya9 (n1 73 ap (bsc (r:=(!seq e ⟨#[]⟩)) rfl rfl rfl (n1 73 ap (fd 1 Tyf185_1 rfl (n1 73 ap (l1 2 (.bool s) A Tya4 (n1 73 ap (bbo (r:=(!((!seq e ⟨#[]⟩) == s))) Tyo4 rfl rfl rfl (m3 false (.bool (!((!seq e ⟨#[]⟩) == s))) (cg ap) (m1 (.bool (!((!seq e ⟨#[]⟩) == s))) (cd h (fun aK h=>?_) (fun aK h=>?_)))))))))))))))
        ·exact o1 81 aK (o1 81 aK (o1 81 aK (ou 84 (ou 84 (ou 84 (ou 84 (o1 81 aK (m3 true vT (cg aK) (wt (⟨_,aU,true,fR,kr,A,h⟩))))))))))
        ·refine n1 81 aK (fd 1 Tyf185_1 rfl (n1 81 aK (l1 2 (.bool s) A Tya4 (n1 81 aK (m1 (.bool s) (cd h (fun a0 h=>?_) (fun a0 h=>?_)))))))
         ·refine n1 84 a0 (fd 3 Tyf42_3 rfl (n1 84 a0 (l1 1 (.string e) A Tya9 (n1 84 a0 ?_))))
          obtain ⟨cl,eg,h⟩:=ob h
          refine cv ([.string e]) Tyb63 ((f63_ok k) eg (hG.mono (f.trans S)) bD (pt A)) ?_
          rintro _ f6 ⟨eh,rfl,di⟩
          have ei:=ca di A
          exact n1 84 a0 (uN cl (n1 81 aK (m3 true (.bool (!cl)) (cg a0) (m3 false (.bool (!cl)) (cg aK) (wt (⟨_,eh,(!cl),fR,di.sub,ei,h⟩))))))
         ·exact o1 84 a0 (o1 84 a0 (o1 84 a0 (o1 84 a0 (n1 81 aK (m3 false vN (cg a0) (m3 false vN (cg aK) (wt (⟨_,aU,false,fR,kr,A,h⟩))))))))
      ·refine o1 67 bi (o1 67 bi (o1 67 bi (n0 64 (m3 false vN (cg bi) (m3 false vN rfl (m1 vN (n0 73 (fd 3 Tyf42_3 rfl (n0 73 (l1 1 (.string e) A Tya9 (n0 73 (bsc (r:=(!seq e ⟨#[]⟩)) rfl rfl rfl (n0 73 (fd 1 Tyf185_1 rfl (n0 73 (l1 2 (.bool s) A Tya4 (n0 73 (bbo (r:=(!((!seq e ⟨#[]⟩) == s))) Tyo4 rfl rfl rfl (m3 false (.bool (!((!seq e ⟨#[]⟩) == s))) rfl (m1 (.bool (!((!seq e ⟨#[]⟩) == s))) (cd h (fun aL h=>?_) (fun aL h=>?_))))))))))))))))))))))
       ·exact o1 81 aL (o1 81 aL (o1 81 aL (ou 84 (ou 84 (ou 84 (ou 84 (o1 81 aL (m3 true vT (cg aL) (wt (⟨_,aU,true,fR,kr,A,h⟩))))))))))
       ·refine n1 81 aL (fd 1 Tyf185_1 rfl (n1 81 aL (l1 2 (.bool s) A Tya4 (n1 81 aL (m1 (.bool s) (cd h (fun a3 h=>?_) (fun a3 h=>?_)))))))
        ·refine n1 84 a3 (fd 3 Tyf42_3 rfl (n1 84 a3 (l1 1 (.string e) A Tya9 (n1 84 a3 ?_))))
         obtain ⟨cm,ej,h⟩:=ob h
         refine cv ([.string e]) Tyb63 ((f63_ok k) ej (hG.mono (f.trans S)) bD (pt A)) ?_
         rintro _ f7 ⟨ek,rfl,dj⟩
         have el:=ca dj A
         exact n1 84 a3 (uN cm (n1 81 aL (m3 true (.bool (!cm)) (cg a3) (m3 false (.bool (!cm)) (cg aL) (wt (⟨_,ek,(!cm),fR,dj.sub,el,h⟩))))))
        ·exact o1 84 a3 (o1 84 a3 (o1 84 a3 (o1 84 a3 (n1 81 aL (m3 false vN (cg a3) (m3 false vN (cg aL) (wt (⟨_,aU,false,fR,kr,A,h⟩))))))))
    ·rintro _ f8 ⟨df,b1,cM,rfl,ai,bO,h⟩
     unfold f138_j3 at h
     refine cd h (fun cN h=>?_) (fun cN h=>?_)
     ·refine cT cN (sr (m2 vN (wt (wp_ret (thenR ?_)))))
      have e_:=(Option.some.inj h).trans hr_
      obtain ⟨em,en⟩:=Prod.mk.inj e_
      obtain ⟨eo,ep,eq⟩:=Dcounter.mk.inj em
      subst eo
      subst ep
      subst eq
      subst en
      exact retA1 rfl (resT rfl) ⟨b1,rfl,(bO.sel [0])⟩
     ·refine cF cN (wp_skip (thenN (wp_seq (wp_cut (fun a w=>∃ dk bP cO,a=fr 192 (updL dk [(0,pp g 0),(2,iI l),(4,pp (zz wi) 0),(133,.bool cO)])∧KH.sub b1 bP∧SR K bP wi w [.box bs g #[iI aB,iI aE,.bool aF] 132] [.box bs g #[iI bv,iI bw,.bool bx] 132,.box (zz wi) (zz wi) (vS d m V e U ah W u X Y p Z ad B ae af C ag x c y).toArray 42]∧f138_j4 k F u p B C c l bv bw bx cO=some r_) ?_ ?_))))
      ·refine wp_region_lit (fd 6 Tyf42_6 rfl (l1 1 (sl W u X) bO Tya39 (lS u.length Tye39 (fd 2 Tyf185_2 rfl (l1 2 (iI ba) bO Tya3 (fd 3 Tyf185_3 rfl (l1 2 (iI bb) bO Tya3 ?_)))))))
       obtain ⟨dl,es,h⟩:=ob h
       refine cv ([iI (u.length:Int),iI ba,iI bb]) Tyb116 ((f116_ok k) es (hG.mono ((f.trans S).trans ai)) (pt bO)) ?_
       rintro _ ga ⟨bz,rfl,aj⟩
       have t:=ca aj bO
       refine uN dl (m1 (.bool (!dl)) (cd h (fun aq h=>?_) (fun aq h=>?_)))
       ·exact o1 100 aq (o1 100 aq (o1 100 aq (o1 100 aq (ou 104 (ou 104 (ou 104 (ou 104 (o1 100 aq (m3 true vT (cg aq) (m1 vT (o0 111 (o0 111 (o0 111 (o0 111 (ou 115 (ou 115 (ou 115 (ou 115 (o0 111 (m3 true vT rfl (m1 vT (o0 122 (o0 122 (o0 122 (o0 122 (ou 126 (ou 126 (ou 126 (ou 126 (ou 126 (o0 122 (m3 true vT rfl (wt (⟨_,bz,true,fR,aj.sub,(t.sel [0,1]),h⟩))))))))))))))))))))))))))))))))))
       ·refine n1 100 aq (fd 4 Tyf185_4 rfl (n1 100 aq (l1 2 (.bool a8) t Tya4 (n1 100 aq (uN a8 (n1 100 aq (m1 (.bool (!a8)) (cd h (fun a4 h=>?_) (fun a4 h=>?_)))))))))
        ·refine n1 104 a4 (fd 7 Tyf42_7 rfl (n1 104 a4 (l1 1 (sl Y p Z) t Tya36 (n1 104 a4 (lS p.length Tye36 (n1 104 a4 (c0 (decide ((p.length:Int) > 0)) (n1 100 aq (m3 true (.bool (decide ((p.length:Int) > 0))) (cg a4) (m3 false (.bool (decide ((p.length:Int) > 0))) (cg aq) (m1 (.bool (decide ((p.length:Int) > 0))) (cd h (fun ar h=>?_) (fun ar h=>?_)))))))))))))
         ·exact o1 111 ar (o1 111 ar (o1 111 ar (o1 111 ar (ou 115 (ou 115 (ou 115 (ou 115 (o1 111 ar (m3 true vT (cg ar) (m1 vT (o0 122 (o0 122 (o0 122 (o0 122 (ou 126 (ou 126 (ou 126 (ou 126 (ou 126 (o0 122 (m3 true vT rfl (wt (⟨_,bz,true,fR,aj.sub,(t.sel [0,1]),h⟩)))))))))))))))))))))))
         ·refine n1 111 ar (fd 0 Tyf42_0 rfl (n1 111 ar (l1 1 (iI d) t Tya3 (n1 111 ar (c0 (d != 27) (n1 111 ar (m1 (.bool (d != 27)) (cd h (fun a5 h=>?_) (fun a5 h=>?_)))))))))
          ·refine n1 115 a5 (fd 10 Tyf42_10 rfl (n1 115 a5 (l1 1 (sl x c y) t Tya40 (n1 115 a5 (lS c.length Tye40 (n1 115 a5 (c0 (decide ((c.length:Int) > 0)) (n1 111 ar (m3 true (.bool (decide ((c.length:Int) > 0))) (cg a5) (m3 false (.bool (decide ((c.length:Int) > 0))) (cg ar) (m1 (.bool (decide ((c.length:Int) > 0))) (cd h (fun au h=>?_) (fun au h=>?_)))))))))))))
           ·exact o1 122 au (o1 122 au (o1 122 au (o1 122 au (ou 126 (ou 126 (ou 126 (ou 126 (ou 126 (o1 122 au (m3 true vT (cg au) (wt (⟨_,bz,true,fR,aj.sub,(t.sel [0,1]),h⟩))))))))))))
           ·refine n1 122 au (fd 0 Tyf42_0 rfl (n1 122 au (l1 1 (iI d) t Tya3 (n1 122 au (c0 (d == 27) (n1 122 au (m1 (.bool (d == 27)) (cd h (fun aM h=>?_) (fun aM h=>?_)))))))))
            ·refine n1 126 aM (fd 10 Tyf42_10 rfl (n1 126 aM (l1 1 (sl x c y) t Tya40 (n1 126 aM (lS c.length Tye40 (n1 126 aM ?_))))))
             obtain ⟨cn,et,h⟩:=ob h
             refine cv ([iI (c.length:Int),iI 1,iI 4]) Tyb116 ((f116_ok k) et (hG.mono (((f.trans S).trans ai).trans aj.sub)) (pt t)) ?_
             rintro _ gb ⟨eu,rfl,dm⟩
             have ew:=ca dm t
             exact n1 126 aM (uN cn (n1 122 au (m3 true (.bool (!cn)) (cg aM) (m3 false (.bool (!cn)) (cg au) (wt (⟨_,eu,(!cn),fR,(aj.sub.trans dm.sub),(ew.sel [0,1]),h⟩))))))
            ·exact o1 126 aM (o1 126 aM (o1 126 aM (o1 126 aM (o1 126 aM (n1 122 au (m3 false vN (cg aM) (m3 false vN (cg au) (wt (⟨_,bz,false,fR,aj.sub,(t.sel [0,1]),h⟩)))))))))
          ·refine o1 115 a5 (o1 115 a5 (o1 115 a5 (o1 115 a5 (n1 111 ar (m3 false vN (cg a5) (m3 false vN (cg ar) (m1 vN (n0 122 (fd 0 Tyf42_0 rfl (n0 122 (l1 1 (iI d) t Tya3 (n0 122 (c0 (d == 27) (n0 122 (m1 (.bool (d == 27)) (cd h (fun aN h=>?_) (fun aN h=>?_)))))))))))))))))
           ·refine n1 126 aN (fd 10 Tyf42_10 rfl (n1 126 aN (l1 1 (sl x c y) t Tya40 (n1 126 aN (lS c.length Tye40 (n1 126 aN ?_))))))
            obtain ⟨co,ex,h⟩:=ob h
            refine cv ([iI (c.length:Int),iI 1,iI 4]) Tyb116 ((f116_ok k) ex (hG.mono (((f.trans S).trans ai).trans aj.sub)) (pt t)) ?_
            rintro _ gc ⟨ey,rfl,dn⟩
            have ez:=ca dn t
            exact n1 126 aN (uN co (n0 122 (m3 true (.bool (!co)) (cg aN) (m3 false (.bool (!co)) rfl (wt (⟨_,ey,(!co),fR,(aj.sub.trans dn.sub),(ez.sel [0,1]),h⟩))))))
           ·exact o1 126 aN (o1 126 aN (o1 126 aN (o1 126 aN (o1 126 aN (n0 122 (m3 false vN (cg aN) (m3 false vN rfl (wt (⟨_,bz,false,fR,aj.sub,(t.sel [0,1]),h⟩)))))))))
        ·refine o1 104 a4 (o1 104 a4 (o1 104 a4 (o1 104 a4 (n1 100 aq (m3 false vN (cg a4) (m3 false vN (cg aq) (m1 vN (n0 111 (fd 0 Tyf42_0 rfl (n0 111 (l1 1 (iI d) t Tya3 (n0 111 (c0 (d != 27) (n0 111 (m1 (.bool (d != 27)) (cd h (fun a6 h=>?_) (fun a6 h=>?_)))))))))))))))))
         ·refine n1 115 a6 (fd 10 Tyf42_10 rfl (n1 115 a6 (l1 1 (sl x c y) t Tya40 (n1 115 a6 (lS c.length Tye40 (n1 115 a6 (c0 (decide ((c.length:Int) > 0)) (n0 111 (m3 true (.bool (decide ((c.length:Int) > 0))) (cg a6) (m3 false (.bool (decide ((c.length:Int) > 0))) rfl (m1 (.bool (decide ((c.length:Int) > 0))) (cd h (fun av h=>?_) (fun av h=>?_)))))))))))))
          ·exact o1 122 av (o1 122 av (o1 122 av (o1 122 av (ou 126 (ou 126 (ou 126 (ou 126 (ou 126 (o1 122 av (m3 true vT (cg av) (wt (⟨_,bz,true,fR,aj.sub,(t.sel [0,1]),h⟩))))))))))))
          ·refine n1 122 av (fd 0 Tyf42_0 rfl (n1 122 av (l1 1 (iI d) t Tya3 (n1 122 av (c0 (d == 27) (n1 122 av (m1 (.bool (d == 27)) (cd h (fun aP h=>?_) (fun aP h=>?_)))))))))
           ·refine n1 126 aP (fd 10 Tyf42_10 rfl (n1 126 aP (l1 1 (sl x c y) t Tya40 (n1 126 aP (lS c.length Tye40 (n1 126 aP ?_))))))
            obtain ⟨cq,eA,h⟩:=ob h
            refine cv ([iI (c.length:Int),iI 1,iI 4]) Tyb116 ((f116_ok k) eA (hG.mono (((f.trans S).trans ai).trans aj.sub)) (pt t)) ?_
            rintro _ gd ⟨eB,rfl,dp⟩
            have eC:=ca dp t
            exact n1 126 aP (uN cq (n1 122 av (m3 true (.bool (!cq)) (cg aP) (m3 false (.bool (!cq)) (cg av) (wt (⟨_,eB,(!cq),fR,(aj.sub.trans dp.sub),(eC.sel [0,1]),h⟩))))))
           ·exact o1 126 aP (o1 126 aP (o1 126 aP (o1 126 aP (o1 126 aP (n1 122 av (m3 false vN (cg aP) (m3 false vN (cg av) (wt (⟨_,bz,false,fR,aj.sub,(t.sel [0,1]),h⟩)))))))))
         ·refine o1 115 a6 (o1 115 a6 (o1 115 a6 (o1 115 a6 (n0 111 (m3 false vN (cg a6) (m3 false vN rfl (m1 vN (n0 122 (fd 0 Tyf42_0 rfl (n0 122 (l1 1 (iI d) t Tya3 (n0 122 (c0 (d == 27) (n0 122 (m1 (.bool (d == 27)) (cd h (fun aQ h=>?_) (fun aQ h=>?_)))))))))))))))))
          ·refine n1 126 aQ (fd 10 Tyf42_10 rfl (n1 126 aQ (l1 1 (sl x c y) t Tya40 (n1 126 aQ (lS c.length Tye40 (n1 126 aQ ?_))))))
           obtain ⟨cr,eD,h⟩:=ob h
           refine cv ([iI (c.length:Int),iI 1,iI 4]) Tyb116 ((f116_ok k) eD (hG.mono (((f.trans S).trans ai).trans aj.sub)) (pt t)) ?_
           rintro _ ge ⟨eE,rfl,dq⟩
           have eF:=ca dq t
           exact n1 126 aQ (uN cr (n0 122 (m3 true (.bool (!cr)) (cg aQ) (m3 false (.bool (!cr)) rfl (wt (⟨_,eE,(!cr),fR,(aj.sub.trans dq.sub),(eF.sel [0,1]),h⟩))))))
          ·exact o1 126 aQ (o1 126 aQ (o1 126 aQ (o1 126 aQ (o1 126 aQ (n0 122 (m3 false vN (cg aQ) (m3 false vN rfl (wt (⟨_,bz,false,fR,aj.sub,(t.sel [0,1]),h⟩)))))))))
      ·rintro _ gf ⟨dk,bP,cO,rfl,aS,cP,h⟩
       unfold f138_j4 at h
       refine cd h (fun cQ h=>?_) (fun cQ h=>?_)
       ·refine cT cQ (sr (m2 vN (wt (wp_ret (thenR ?_)))))
        have e_:=(Option.some.inj h).trans hr_
        obtain ⟨eG,eH⟩:=Prod.mk.inj e_
        obtain ⟨eI,eJ,eK⟩:=Dcounter.mk.inj eG
        subst eI
        subst eJ
        subst eK
        subst eH
        exact retA1 rfl (resT rfl) ⟨bP,rfl,(cP.sel [0])⟩
       ·refine cF cQ (wp_skip (thenN (wp_seq (sr (fd 10 Tyf42_10 rfl (l1 1 (sl x c y) cP Tya40 (lS c.length Tye40 (m1 (iI 0) (wt (wp_block (wp_loopG (fun g_ a w=>∃ dr bA bB,∃ (am:Nat),∃ bQ bR bS,g_=bB.length∧a=fr 192 (updL dr [(0,pp g 0),(2,iI l),(4,pp (zz wi) 0),(135,sl x c y),(136,iI (c.length:Int)),(137,iI (am:Int))])∧KH.sub bP bA∧SR K bA wi w [.box bs g #[iI aB,iI aE,.bool aF] 132] [.box bs g #[iI bQ,iI bR,.bool bS] 132,.box (zz wi) (zz wi) (vS d m V e U ah W u X Y p Z ad B ae af C ag x c y).toArray 42]∧c.drop am=bB∧f138_l1 k F u p B C c l bB am bQ bR bS=some r_) c.length ?_ ?_)))))))))))
        ·exact ⟨_,bP,c,0,bv,bw,bx,rfl,fR,kr,cP,List.drop_zero,h⟩
        ·rintro _ _ ds ⟨dr,bA,bB,am,bQ,bR,bS,rfl,rfl,aR,b2,bT,h⟩
         rcases bB with _ | ⟨⟨aT,bj,bk,bm,bn⟩,bB⟩
         ·unfold f138_l1 at h
          refine sr (bcm (r:=false) rfl rfl (congrArg some (drop_nil_lt bT)) (wt (wp_seq (cndF rfl (wp_exit (thenX (thenX (blkX (thenN (wp_cut (fun a w=>∃ dt ct cR cS cU cV,a=fr 192 (updL dt [(6,.bool cR)])∧KH.sub bA ct∧SR K ct wi w [.box bs g #[iI aB,iI aE,.bool aF] 132] [.box bs g #[iI cS,iI cU,.bool cV] 132]∧f138_j5 k F cR cS cU cV=some r_) ?_ ?_))))))))))
          ·refine wp_region_lit (m1 (pp g 0) (fd 6 Tyf42_6 rfl (l1 1 (sl W u X) b2 Tya39 (m1 (iI l) (bar (r:=(w64 (l + 1))) rfl rfl rfl ?_)))))
           obtain ⟨⟨⟨eL,eM,eN⟩,eO⟩,eP,h⟩:=ob h
           refine cv ([pp g 0,sl W u X,iI (w64 (l + 1))]) Tyb153 ((f153_ok k) eP (hG.mono ((((f.trans S).trans ai).trans aS).trans aR)) (me b6 ((((f.trans S).trans ai).trans aS).trans aR)) (pt b2)) ?_
           rintro _ gg ⟨eQ,rfl,a7⟩
           have cu:=ca a7 b2
           refine m1 (.bool eO) (cd h (fun aw h=>?_) (fun aw h=>?_))
           ·refine n1 168 aw (m1 (pp g 0) (n1 168 aw (fd 7 Tyf42_7 rfl (n1 168 aw (l1 1 (sl Y p Z) cu Tya36 (n1 168 aw (m1 (iI l) (n1 168 aw (bar (r:=(w64 (l + 1))) rfl rfl rfl (n1 168 aw ?_))))))))))
            obtain ⟨⟨⟨eR,eS,eT⟩,du⟩,eU,h⟩:=ob h
            refine cv ([pp g 0,sl Y p Z,iI (w64 (l + 1))]) Tyb118 (IH118 eU (hG.mono (((((f.trans S).trans ai).trans aS).trans aR).trans a7.sub)) (ms b7 (((((f.trans S).trans ai).trans aS).trans aR).trans a7.sub)) (pt cu)) ?_
            rintro _ gh ⟨eV,rfl,bC⟩
            have cw:=ca bC cu
            refine m3 true (.bool du) (cg aw) (m1 (.bool du) (cd h (fun ax h=>?_) (fun ax h=>?_)))
            ·refine n1 176 ax (m1 (pp g 0) (n1 176 ax (fd 8 Tyf42_8 rfl (n1 176 ax (l1 1 (sl ad B ae) cw Tya36 (n1 176 ax (m1 (iI l) (n1 176 ax (bar (r:=(w64 (l + 1))) rfl rfl rfl (n1 176 ax ?_))))))))))
             obtain ⟨⟨⟨eW,eX,eY⟩,dv⟩,eZ,h⟩:=ob h
             refine cv ([pp g 0,sl ad B ae,iI (w64 (l + 1))]) Tyb118 (IH118 eZ (hG.mono ((((((f.trans S).trans ai).trans aS).trans aR).trans a7.sub).trans bC.sub)) (ms b8 ((((((f.trans S).trans ai).trans aS).trans aR).trans a7.sub).trans bC.sub)) (pt cw)) ?_
             rintro _ gi ⟨e0,rfl,b3⟩
             have cx:=ca b3 cw
             refine m3 true (.bool dv) (cg ax) (m1 (.bool dv) (cd h (fun ay h=>?_) (fun ay h=>?_)))
             ·refine n1 184 ay (m1 (pp g 0) (n1 184 ay (fd 9 Tyf42_9 rfl (n1 184 ay (l1 1 (sl af C ag) cx Tya36 (n1 184 ay (m1 (iI l) (n1 184 ay (bar (r:=(w64 (l + 1))) rfl rfl rfl (n1 184 ay ?_))))))))))
              obtain ⟨⟨⟨e1,e2,e3⟩,cW⟩,e4,h⟩:=ob h
              refine cv ([pp g 0,sl af C ag,iI (w64 (l + 1))]) Tyb118 (IH118 e4 (hG.mono (((((((f.trans S).trans ai).trans aS).trans aR).trans a7.sub).trans bC.sub).trans b3.sub)) (ms b9 (((((((f.trans S).trans ai).trans aS).trans aR).trans a7.sub).trans bC.sub).trans b3.sub)) (pt cx)) ?_
              rintro _ gj ⟨e5,rfl,dw⟩
              have e6:=ca dw cx
              exact m3 true (.bool cW) (cg ay) (m2 (.bool cW) (wt (⟨_,e5,cW,e1,e2,e3,fR,(((a7.sub.trans bC.sub).trans b3.sub).trans dw.sub),(e6.sel [0]),h⟩)))
             ·exact o1 184 ay (o1 184 ay (o1 184 ay (o1 184 ay (o1 184 ay (o1 184 ay (m3 false vN (cg ay) (m2 vN (wt (⟨_,e0,false,eW,eX,eY,fR,((a7.sub.trans bC.sub).trans b3.sub),(cx.sel [0]),h⟩)))))))))
            ·exact o1 176 ax (o1 176 ax (o1 176 ax (o1 176 ax (o1 176 ax (o1 176 ax (m3 false vN (cg ax) (m1 vN (o0 184 (o0 184 (o0 184 (o0 184 (o0 184 (o0 184 (m3 false vN rfl (m2 vN (wt (⟨_,eV,false,eR,eS,eT,fR,(a7.sub.trans bC.sub),(cw.sel [0]),h⟩)))))))))))))))))
           ·exact o1 168 aw (o1 168 aw (o1 168 aw (o1 168 aw (o1 168 aw (o1 168 aw (m3 false vN (cg aw) (m1 vN (o0 176 (o0 176 (o0 176 (o0 176 (o0 176 (o0 176 (m3 false vN rfl (m1 vN (o0 184 (o0 184 (o0 184 (o0 184 (o0 184 (o0 184 (m3 false vN rfl (m2 vN (wt (⟨_,eQ,false,eL,eM,eN,fR,a7.sub,(cu.sel [0]),h⟩)))))))))))))))))))))))))
          ·rintro _ gk ⟨dt,ct,cR,cS,cU,cV,rfl,gl,e7,h⟩
           unfold f138_j5 at h
           refine wp_ret ?_
           have e_:=(Option.some.inj h).trans hr_
           obtain ⟨e8,e9⟩:=Prod.mk.inj e_
           obtain ⟨fa,fb,fc⟩:=Dcounter.mk.inj e8
           subst fa
           subst fb
           subst fc
           subst e9
           exact retA1 rfl (resT rfl) ⟨ct,rfl,e7⟩
         ·unfold f138_l1 at h
          refine sr (bcm (r:=true) rfl rfl (congrArg some (drop_cons_t bT)) (wt (wp_seq (cndT rfl (wp_skip (thenN (wp_seq (wp_block (sr (m1 (iI (am:Int)) ?_))))))))))
          obtain ⟨fe,ff,gm,fg,gn,fh,fi⟩:=((mc bU ((((f.trans S).trans ai).trans aS).trans aR))).row.at_ (drop_cons_at bT)
          obtain ⟨bo,bp,bq,br,rfl,dx,dy,dz⟩:=RDCase.open fi
          refine idxN (b:=fe) (o:=ff) (i:=am) Tye40 Tys87 rfl fg rfl (drop_cons_lt bT) (lD (vC aT bj bk bo bm bp bq bn br) Tya87 Tys87 rfl (fun j v hj=>b2.cell (kr.cell (fh j v hj))) (aC zC.toArray b2 Tyz87 (fun go fj=>(m2 (iI (am:Int)) (sI 0 (.agg (vC aT bj bk bo bm bp bq bn br).toArray) ((vC aT bj bk bo bm bp bq bn br).toArray) fj Tys87 rfl rfl (fun dA bH=>(wt (wp_cut (fun a w=>∃ dB b4 cy cz cA cX,a=fr 192 (updL dB [(0,pp g 0),(2,iI l),(4,pp (zz wi) 0),(135,sl x c y),(136,iI (c.length:Int)),(137,iI (am:Int)),(160,.bool cX)])∧KH.sub bA b4∧SR K b4 wi w [.box bs g #[iI aB,iI aE,.bool aF] 132] [.box bs g #[iI cy,iI cz,.bool cA] 132,.box (zz wi) (zz wi) (vS d m V e U ah W u X Y p Z ad B ae af C ag x c y).toArray 42]∧f138_j6 k F am cy cz cA cX (f138_l1 k F u p B C c l bB)=some r_) ?_ ?_))))))))
          ·refine wp_region_lit (fd 0 Tyf87_0 rfl (l1 0 (iI aT) bH Tya3 (c0 (aT == 4) (m1 (.bool (aT == 4)) (cd h (fun az h=>?_) (fun az h=>?_))))))
           ·refine n1 145 az (m1 (iI (am:Int)) (n1 145 az (fd 10 Tyf42_10 rfl (n1 145 az (l1 2 (sl x c y) bH Tya40 (n1 145 az (lS c.length Tye40 (n1 145 az (bar (r:=(w64 ((c.length:Int) - 1))) rfl rfl rfl (n1 145 az (c0 (decide ((am:Int) < (w64 ((c.length:Int) - 1)))) (m3 true (.bool (decide ((am:Int) < (w64 ((c.length:Int) - 1))))) (cg az) (m1 (.bool (decide ((am:Int) < (w64 ((c.length:Int) - 1))))) (cd h (fun aA h=>?_) (fun aA h=>?_)))))))))))))))
            ·exact o1 153 aA (o1 153 aA (o1 153 aA (o1 153 aA (o1 153 aA (o1 153 aA (m3 true vT (cg aA) (wt (⟨_,bA,bQ,bR,bS,true,fR,kr,(bH.sel [1,2]),h⟩))))))))
            ·refine n1 153 aA (m1 (pp g 0) (n1 153 aA (lN 0 (vC aT bj bk bo bm bp bq bn br) bH Tya87 Tys87 (n1 153 aA (m1 (iI l) (n1 153 aA (bar (r:=(w64 (l + 1))) rfl rfl rfl (n1 153 aA ?_))))))))
             have dC:=p102 bH
             obtain ⟨⟨⟨fk,fl,fm⟩,cY⟩,fn,h⟩:=ob h
             refine cv ([pp g 0,.agg (vC aT bj bk bo bm bp bq bn br).toArray,iI (w64 (l + 1))]) Tyb152 (IH152 fn (hG.mono ((((f.trans S).trans ai).trans aS).trans aR)) (RDCase.intro dx dy dz) (pt dC)) ?_
             rintro _ gp ⟨fo,rfl,dD⟩
             have fp:=ca dD dC
             exact n1 153 aA (uN cY (m3 false (.bool (!cY)) (cg aA) (wt (⟨_,fo,fk,fl,fm,(!cY),fR,dD.sub,(fp.sel [0,2]),h⟩))))
           ·refine o1 145 az (o1 145 az (o1 145 az (o1 145 az (o1 145 az (o1 145 az (m3 false vN (cg az) (m1 vN (n0 153 (m1 (pp g 0) (n0 153 (lN 0 (vC aT bj bk bo bm bp bq bn br) bH Tya87 Tys87 (n0 153 (m1 (iI l) (n0 153 (bar (r:=(w64 (l + 1))) rfl rfl rfl (n0 153 ?_))))))))))))))))
            have dE:=p102 bH
            obtain ⟨⟨⟨fs,ft,fu⟩,cZ⟩,fv,h⟩:=ob h
            refine cv ([pp g 0,.agg (vC aT bj bk bo bm bp bq bn br).toArray,iI (w64 (l + 1))]) Tyb152 (IH152 fv (hG.mono ((((f.trans S).trans ai).trans aS).trans aR)) (RDCase.intro dx dy dz) (pt dE)) ?_
            rintro _ gq ⟨fx,rfl,dF⟩
            have fy:=ca dF dE
            exact n0 153 (uN cZ (m3 false (.bool (!cZ)) rfl (wt (⟨_,fx,fs,ft,fu,(!cZ),fR,dF.sub,(fy.sel [0,2]),h⟩))))
          ·rintro _ gr ⟨dB,b4,cy,cz,cA,cX,rfl,fz,dG,h⟩
           unfold f138_j6 at h
           refine cd h (fun c2 h=>?_) (fun c2 h=>?_)
           ·refine cT c2 (sr (m2 vN (wt (wp_ret (blkR (thenR (thenR (blkR (thenR ?_)))))))))
            have e_:=(Option.some.inj h).trans hr_
            obtain ⟨fA,fB⟩:=Prod.mk.inj e_
            obtain ⟨fC,fD,fE⟩:=Dcounter.mk.inj fA
            subst fC
            subst fD
            subst fE
            subst fB
            exact retA1 rfl (resT rfl) ⟨b4,rfl,(dG.sel [0])⟩
           ·exact cF c2 (wp_skip (blkN (thenN (wp_region_lit (bar (r:=((am + 1:Nat):Int)) rfl rfl (inc_ok (le_big (((mc bU ((((f.trans S).trans ai).trans aS).trans aR))).len) (by decide) (drop_cons_lt bT))) (m1 (iI ((am + 1:Nat):Int)) (wt (⟨_,Nat.lt_succ_self _,_,b4,bB,am + 1,cy,cz,cA,rfl,fR,(aR.trans fz),dG,drop_cons_next bT,h⟩))))))))
theorem f152_b_ok (k:Nat) (F:Fam118) (IH118:f118_spec F.f118) (IH138:f138_spec F.f138) (IH152:f152_spec F.f152):f152_spec (f152_b k F):=by
 unfold f152_spec
 intro K wi g bs U V W aI bK C bL bM bN bO h hG aJ aK
 obtain ⟨r_,hr_,h⟩:=rz h
 obtain ⟨d,b,O,e,S⟩:=aI
 obtain ⟨I,J,X,Y,rfl,ay,aL,aM⟩:=RDCase.open aJ
 refine enter Tryz.func152 rfl (n:=80) rfl ?_
 unfold f152_b at h
 refine sr (bxoC (cs:=(vC d b O I e J X S Y).toArray) aK rfl rfl (fun Z aN=>(m2 vN (wt (sr (mkm aN (fun bP aP=>(mup_ (kv:=kI) (q:=qI) (R:=VInt) (xs:=([]:List (Int × Int))) (k:=1) (u:=1) (uv:=iI 1) (i:=0) (.inl rfl) aP rfl Tym197 (und_i64 Tyk3) keI (mapr0 (kv:=kI) (R:=VInt)) rfl rfl rfl rfl (fun bQ bR bS aQ aR=>(mup_ (kv:=kI) (q:=qI) (R:=VInt) (k:=2) (u:=2) (uv:=iI 2) (i:=0) (.inl rfl) aQ rfl Tym197 (und_i64 Tyk3) keI aR rfl rfl rfl rfl (fun bT bU bV aS aT=>(mup_ (kv:=kI) (q:=qI) (R:=VInt) (k:=3) (u:=1) (uv:=iI 1) (i:=0) (.inl rfl) aS rfl Tym197 (und_i64 Tyk3) keI aT rfl rfl rfl rfl (fun aU aV aW aX aY=>?_)))))))))))))
 have aZ:SR K K wi aW [.box bs g #[iI U,iI V,.bool W] 132] [.mp (zz wi) (zz Z) aU aV,.box (zz wi) (zz wi) (vC d b O I e J X S Y).toArray 87,.box bs g #[iI U,iI V,.bool W] 132]:=aX
 refine mup_ (kv:=kI) (q:=qI) (R:=VInt) (k:=4) (u:=0) (uv:=iI 0) (i:=0) (.inl rfl) aZ rfl Tym197 (und_i64 Tyk3) keI aY rfl rfl rfl rfl (fun a0 a3 a4 ab az=>(m1 (.map (some (zz Z))) (m2 (.map (some (zz Z))) (wt (sr (m1 (.map (some (zz Z))) (fd 0 Tyf87_0 rfl (l1 1 (iI d) ab Tya3 ?_))))))))
 rcases ae:mget qI d (mput qI 4 0 (mput qI 3 1 (mput qI 2 2 (mput qI 1 1 ([]:List (Int × Int)))))) with _ | z
 ·have h:=of_mcase_n ae h
  refine lkN (kv:=kI) (q:=qI) (R:=VInt) (xs:=(mput qI 4 0 (mput qI 3 1 (mput qI 2 2 (mput qI 1 1 ([]:List (Int × Int))))))) (k:=d) (ab.entAt (i:=0) rfl).1 Tym197 (und_i64 Tyk3) keI Tyz3 az rfl rfl ae (m1 (.tuple #[iI 0,vN]) (ext (v:=iI 0) rfl rfl (ext (v:=vN) rfl rfl (m2 (iI 0) (m2 vN (wt (wp_seq (sr (m1 vN (unot rfl (m1 vT (o0 21 (o0 21 (o0 21 (o0 21 (m3 true vT rfl (m1 vT (o0 27 (o0 27 (o0 27 (o0 27 (ou 31 (ou 31 (ou 31 (ou 31 (ou 31 (o0 27 (m3 true vT rfl (m1 vT (o0 39 (o0 39 (o0 39 (o0 39 (o0 39 (m3 true vT rfl (m1 vT (o0 46 (o0 46 (o0 46 (o0 46 (o0 46 (o0 46 (o0 46 (m3 true vT rfl (m1 vT (o0 55 (o0 55 (o0 55 (o0 55 (ou 59 (ou 59 (ou 59 (ou 59 (o0 55 (m3 true vT rfl (wt (cndT rfl (sr (m2 vN (wt (wp_ret (thenR ?_))))))))))))))))))))))))))))))))))))))))))))))))))))))))))))))
  have e_:=(Option.some.inj h).trans hr_
  obtain ⟨a5,a6⟩:=Prod.mk.inj e_
  obtain ⟨a7,a8,a9⟩:=Dcounter.mk.inj a5
  subst a7
  subst a8
  subst a9
  subst a6
  exact retA1 rfl (resT rfl) ⟨K,rfl,(ab.sel [2])⟩
 ·have h:=of_mcase_s ae h
  refine lkS (kv:=kI) (q:=qI) (R:=VInt) (xs:=(mput qI 4 0 (mput qI 3 1 (mput qI 2 2 (mput qI 1 1 ([]:List (Int × Int))))))) (k:=d) (ab.entAt (i:=0) rfl).1 Tym197 (und_i64 Tyk3) keI az rfl rfl ae (fun bW ba=>?_)
  obtain rfl:=ba
  refine m1 (.tuple #[iI z,vT]) (ext (v:=iI z) rfl rfl (ext (v:=vT) rfl rfl (m2 (iI z) (m2 vT (wt (wp_seq (wp_cut (fun a w=>∃ aA ac al am an ao,a=fr 80 (updL aA [(0,pp g 0),(2,iI C),(4,pp (zz wi) 0),(65,.bool ao)])∧KH.sub K ac∧SR K ac wi w [.box bs g #[iI U,iI V,.bool W] 132] [.box bs g #[iI al,iI am,.bool an] 132,.box (zz wi) (zz wi) (vC d b O I e J X S Y).toArray 87]∧f152_j1 k F e S C al am an ao=some r_) ?_ ?_)))))))
  ·refine wp_region_lit (m1 vT (unot rfl (m1 vN (n0 21 (m1 (pp g 0) (n0 21 (m1 (iI C) (n0 21 ?_))))))))
   have aB:=p201 ab
   obtain ⟨⟨⟨D,G,l⟩,ap⟩,bb,h⟩:=ob h
   refine cv ([pp g 0,iI C]) Tyb117 ((f117_ok k) bb (hG.mono kr) (pt aB)) ?_
   rintro _ bX ⟨N,rfl,t⟩
   have c:=ca t aB
   refine n0 21 (uN ap (m3 false (.bool (!ap)) rfl (m1 (.bool (!ap)) (cd h (fun m h=>?_) (fun m h=>?_)))))
   ·exact o1 27 m (o1 27 m (o1 27 m (o1 27 m (ou 31 (ou 31 (ou 31 (ou 31 (ou 31 (o1 27 m (m3 true vT (cg m) (m1 vT (o0 39 (o0 39 (o0 39 (o0 39 (o0 39 (m3 true vT rfl (m1 vT (o0 46 (o0 46 (o0 46 (o0 46 (o0 46 (o0 46 (o0 46 (m3 true vT rfl (m1 vT (o0 55 (o0 55 (o0 55 (o0 55 (ou 59 (ou 59 (ou 59 (ou 59 (o0 55 (m3 true vT rfl (wt (⟨_,N,D,G,l,true,fR,t.sub,(c.sel [0,2]),h⟩)))))))))))))))))))))))))))))))))))))))
   ·refine n1 27 m (fd 2 Tyf87_2 rfl (n1 27 m (l1 2 (iI O) c Tya3 (n1 27 m (c0 (O != 0) (n1 27 m (m1 (.bool (O != 0)) (cd h (fun x h=>?_) (fun x h=>?_)))))))))
    ·refine n1 31 x (m1 (pp g 0) (n1 31 x (nilc rfl (n1 31 x (fd 2 Tyf132_2 rfl (n1 31 x (l1 0 (.bool l) c Tya4 (n1 31 x (uN l (n1 27 m (m3 true (.bool (!l)) (cg x) (m3 false (.bool (!l)) (cg m) (m1 (.bool (!l)) (cd h (fun y h=>?_) (fun y h=>?_)))))))))))))))
     ·exact o1 39 y (o1 39 y (o1 39 y (o1 39 y (o1 39 y (m3 true vT (cg y) (m1 vT (o0 46 (o0 46 (o0 46 (o0 46 (o0 46 (o0 46 (o0 46 (m3 true vT rfl (m1 vT (o0 55 (o0 55 (o0 55 (o0 55 (ou 59 (ou 59 (ou 59 (ou 59 (o0 55 (m3 true vT rfl (wt (⟨_,N,D,G,l,true,fR,t.sub,(c.sel [0,2]),h⟩)))))))))))))))))))))))))))
     ·refine n1 39 y (fd 3 Tyf87_3 rfl (n1 39 y (l1 2 (sl I e J) c Tya39 (n1 39 y (lS e.length Tye39 (n1 39 y (m1 (iI z) (n1 39 y (c0 ((e.length:Int) != z) (m3 false (.bool ((e.length:Int) != z)) (cg y) (m1 (.bool ((e.length:Int) != z)) (cd h (fun f h=>?_) (fun f h=>?_)))))))))))))
      ·exact o1 46 f (o1 46 f (o1 46 f (o1 46 f (o1 46 f (o1 46 f (o1 46 f (m3 true vT (cg f) (m1 vT (o0 55 (o0 55 (o0 55 (o0 55 (ou 59 (ou 59 (ou 59 (ou 59 (o0 55 (m3 true vT rfl (wt (⟨_,N,D,G,l,true,fR,t.sub,(c.sel [0,2]),h⟩))))))))))))))))))))
      ·refine n1 46 f (fd 1 Tyf87_1 rfl (n1 46 f (l1 2 (.string b) c Tya9 (n1 46 f (bsc (r:=(!seq b ⟨#[]⟩)) rfl rfl rfl (n1 46 f (fd 0 Tyf87_0 rfl (n1 46 f (l1 2 (iI d) c Tya3 (n1 46 f (c0 (d == 1) (n1 46 f (bbo (r:=(!((!seq b ⟨#[]⟩) == (d == 1)))) Tyo4 rfl rfl rfl (m3 false (.bool (!((!seq b ⟨#[]⟩) == (d == 1)))) (cg f) (m1 (.bool (!((!seq b ⟨#[]⟩) == (d == 1)))) (cd h (fun o h=>?_) (fun o h=>?_)))))))))))))))))
       ·exact o1 55 o (o1 55 o (o1 55 o (o1 55 o (ou 59 (ou 59 (ou 59 (ou 59 (o1 55 o (m3 true vT (cg o) (wt (⟨_,N,D,G,l,true,fR,t.sub,(c.sel [0,2]),h⟩)))))))))))
       ·refine n1 55 o (fd 1 Tyf87_1 rfl (n1 55 o (l1 2 (.string b) c Tya9 (n1 55 o (bsc (r:=(!seq b ⟨#[]⟩)) rfl rfl rfl (n1 55 o (m1 (.bool (!seq b ⟨#[]⟩)) (cd h (fun A h=>?_) (fun A h=>?_)))))))))
        ·refine n1 59 A (fd 1 Tyf87_1 rfl (n1 59 A (l1 2 (.string b) c Tya9 (n1 59 A ?_))))
         obtain ⟨af,bd,h⟩:=ob h
         refine cv ([.string b]) Tyb63 ((f63_ok k) bd (hG.mono t.sub) ay (pt c)) ?_
         rintro _ bY ⟨be,rfl,aE⟩
         have bf:=ca aE c
         exact n1 59 A (uN af (n1 55 o (m3 true (.bool (!af)) (cg A) (m3 false (.bool (!af)) (cg o) (wt (⟨_,be,D,G,l,(!af),fR,(t.sub.trans aE.sub),(bf.sel [0,2]),h⟩))))))
        ·exact o1 59 A (o1 59 A (o1 59 A (o1 59 A (n1 55 o (m3 false vN (cg A) (m3 false vN (cg o) (wt (⟨_,N,D,G,l,false,fR,t.sub,(c.sel [0,2]),h⟩))))))))
    ·refine o1 31 x (o1 31 x (o1 31 x (o1 31 x (o1 31 x (n1 27 m (m3 false vN (cg x) (m3 false vN (cg m) (m1 vN (n0 39 (fd 3 Tyf87_3 rfl (n0 39 (l1 2 (sl I e J) c Tya39 (n0 39 (lS e.length Tye39 (n0 39 (m1 (iI z) (n0 39 (c0 ((e.length:Int) != z) (m3 false (.bool ((e.length:Int) != z)) rfl (m1 (.bool ((e.length:Int) != z)) (cd h (fun j h=>?_) (fun j h=>?_))))))))))))))))))))))
     ·exact o1 46 j (o1 46 j (o1 46 j (o1 46 j (o1 46 j (o1 46 j (o1 46 j (m3 true vT (cg j) (m1 vT (o0 55 (o0 55 (o0 55 (o0 55 (ou 59 (ou 59 (ou 59 (ou 59 (o0 55 (m3 true vT rfl (wt (⟨_,N,D,G,l,true,fR,t.sub,(c.sel [0,2]),h⟩))))))))))))))))))))
     ·refine n1 46 j (fd 1 Tyf87_1 rfl (n1 46 j (l1 2 (.string b) c Tya9 (n1 46 j (bsc (r:=(!seq b ⟨#[]⟩)) rfl rfl rfl (n1 46 j (fd 0 Tyf87_0 rfl (n1 46 j (l1 2 (iI d) c Tya3 (n1 46 j (c0 (d == 1) (n1 46 j (bbo (r:=(!((!seq b ⟨#[]⟩) == (d == 1)))) Tyo4 rfl rfl rfl (m3 false (.bool (!((!seq b ⟨#[]⟩) == (d == 1)))) (cg j) (m1 (.bool (!((!seq b ⟨#[]⟩) == (d == 1)))) (cd h (fun p h=>?_) (fun p h=>?_)))))))))))))))))
      ·exact o1 55 p (o1 55 p (o1 55 p (o1 55 p (ou 59 (ou 59 (ou 59 (ou 59 (o1 55 p (m3 true vT (cg p) (wt (⟨_,N,D,G,l,true,fR,t.sub,(c.sel [0,2]),h⟩)))))))))))
      ·refine n1 55 p (fd 1 Tyf87_1 rfl (n1 55 p (l1 2 (.string b) c Tya9 (n1 55 p (bsc (r:=(!seq b ⟨#[]⟩)) rfl rfl rfl (n1 55 p (m1 (.bool (!seq b ⟨#[]⟩)) (cd h (fun B h=>?_) (fun B h=>?_)))))))))
       ·refine n1 59 B (fd 1 Tyf87_1 rfl (n1 59 B (l1 2 (.string b) c Tya9 (n1 59 B ?_))))
        obtain ⟨ag,bg,h⟩:=ob h
        refine cv ([.string b]) Tyb63 ((f63_ok k) bg (hG.mono t.sub) ay (pt c)) ?_
        rintro _ bZ ⟨bh,rfl,aF⟩
        have bi:=ca aF c
        exact n1 59 B (uN ag (n1 55 p (m3 true (.bool (!ag)) (cg B) (m3 false (.bool (!ag)) (cg p) (wt (⟨_,bh,D,G,l,(!ag),fR,(t.sub.trans aF.sub),(bi.sel [0,2]),h⟩))))))
       ·exact o1 59 B (o1 59 B (o1 59 B (o1 59 B (n1 55 p (m3 false vN (cg B) (m3 false vN (cg p) (wt (⟨_,N,D,G,l,false,fR,t.sub,(c.sel [0,2]),h⟩))))))))
  ·rintro _ b0 ⟨aA,ac,al,am,an,ao,rfl,ah,ai,h⟩
   unfold f152_j1 at h
   refine cd h (fun aq h=>?_) (fun aq h=>?_)
   ·refine cT aq (sr (m2 vN (wt (wp_ret (thenR ?_)))))
    have e_:=(Option.some.inj h).trans hr_
    obtain ⟨bj,bk⟩:=Prod.mk.inj e_
    obtain ⟨bm,bn,bo⟩:=Dcounter.mk.inj bj
    subst bm
    subst bn
    subst bo
    subst bk
    exact retA1 rfl (resT rfl) ⟨ac,rfl,(ai.sel [0])⟩
   ·refine cF aq (wp_skip (thenN (wp_cut (fun a w=>∃ aG aj ar au av aw,a=fr 80 (updL aG [(6,.bool ar)])∧KH.sub ac aj∧SR K aj wi w [.box bs g #[iI U,iI V,.bool W] 132] [.box bs g #[iI au,iI av,.bool aw] 132]∧f152_j2 k F ar au av aw=some r_) ?_ ?_)))
    ·refine wp_region_lit (m1 (pp g 0) (fd 3 Tyf87_3 rfl (l1 1 (sl I e J) ai Tya39 (m1 (iI C) (bar (r:=(w64 (C + 1))) rfl rfl rfl ?_)))))
     obtain ⟨⟨⟨bp,bq,br⟩,bu⟩,bv,h⟩:=ob h
     refine cv ([pp g 0,sl I e J,iI (w64 (C + 1))]) Tyb153 ((f153_ok k) bv (hG.mono ah) (me aL ah) (pt ai)) ?_
     rintro _ b1 ⟨bw,rfl,ad⟩
     have ak:=ca ad ai
     refine m1 (.bool bu) (cd h (fun s h=>?_) (fun s h=>?_))
     ·refine n1 72 s (m1 (pp g 0) (n1 72 s (fd 4 Tyf87_4 rfl (n1 72 s (l1 1 (sl X S Y) ak Tya36 (n1 72 s (m1 (iI C) (n1 72 s (bar (r:=(w64 (C + 1))) rfl rfl rfl (n1 72 s ?_))))))))))
      obtain ⟨⟨⟨bx,bz,bA⟩,ax⟩,bB,h⟩:=ob h
      refine cv ([pp g 0,sl X S Y,iI (w64 (C + 1))]) Tyb118 (IH118 bB (hG.mono (ah.trans ad.sub)) (ms aM (ah.trans ad.sub)) (pt ak)) ?_
      rintro _ b2 ⟨bC,rfl,aH⟩
      have bD:=ca aH ak
      exact m3 true (.bool ax) (cg s) (m2 (.bool ax) (wt (⟨_,bC,ax,bx,bz,bA,fR,(ad.sub.trans aH.sub),(bD.sel [0]),h⟩)))
     ·exact o1 72 s (o1 72 s (o1 72 s (o1 72 s (o1 72 s (o1 72 s (m3 false vN (cg s) (m2 vN (wt (⟨_,bw,false,bp,bq,br,fR,ad.sub,(ak.sel [0]),h⟩)))))))))
    ·rintro _ b3 ⟨aG,aj,ar,au,av,aw,rfl,b4,bE,h⟩
     unfold f152_j2 at h
     refine wp_ret ?_
     have e_:=(Option.some.inj h).trans hr_
     obtain ⟨bF,bG⟩:=Prod.mk.inj e_
     obtain ⟨bH,bI,bJ⟩:=Dcounter.mk.inj bF
     subst bH
     subst bI
     subst bJ
     subst bG
     exact retA1 rfl (resT rfl) ⟨aj,rfl,bE⟩
theorem fam118_ok (k0:Nat) : ∀ k,f118_spec (fam118 k0 k).f118∧f138_spec (fam118 k0 k).f138∧f152_spec (fam118 k0 k).f152:=by
 intro k
 induction k with
 | zero=>exact ⟨(by unfold f118_spec; intro _ _ _ _ _ _ _ _ _ _ _ _ _ _ _ h_; cases h_),(by unfold f138_spec; intro _ _ _ _ _ _ _ _ _ _ _ _ _ _ h_; cases h_),(by unfold f152_spec; intro _ _ _ _ _ _ _ _ _ _ _ _ _ _ h_; cases h_)⟩
 | succ k ih=>exact ⟨f118_b_ok k0 (fam118 k0 k) ih.1 ih.2.1 ih.2.2,f138_b_ok k0 (fam118 k0 k) ih.1 ih.2.1 ih.2.2,f152_b_ok k0 (fam118 k0 k) ih.1 ih.2.1 ih.2.2⟩
theorem f118_ok (k:Nat):f118_spec (f118 k):=(fam118_ok k k).1
theorem f138_ok (k:Nat):f138_spec (f138 k):=(fam118_ok k k).2.1
theorem f152_ok (k:Nat):f152_spec (f152 k):=(fam118_ok k k).2.2
end Go.Proofs.YtoajecnoffhlbaaGreatDoor
