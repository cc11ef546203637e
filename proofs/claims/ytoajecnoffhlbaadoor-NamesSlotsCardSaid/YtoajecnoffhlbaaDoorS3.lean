/- Words of the same proof, part 3: what the last text needs; nothing is claimed here. -/
import Derived.Test.YtoajecnoffhlbaaDoorS2
set_option linter.unusedVariables false
set_option linter.unusedSimpArgs false
namespace Go.Proofs.YtoajecnoffhlbaaDoor
open Go
structure Fam20 where
 f20:LE→Int→Option Bool
def f20_j1 (k:Nat) (F:Fam20) (a:Nat) (b:Bool) (nx1:Nat→Option Bool):Option Bool:=(cond b (some false) (nx1 (a + 1)))
def f20_l1 (k:Nat) (F:Fam20) (a:Int):LE→Nat→Option Bool
 | [],b=>(some true)
 | (.mk f i j d e) :: c,b=>(cond (f == 4) (cond (decide (d < 0)) (f20_j1 k F b true (f20_l1 k F a c)) (cond (decide (d ≥ a)) (f20_j1 k F b true (f20_l1 k F a c)) ((F.f20 e a).bind fun g=>(f20_j1 k F b (!g) (f20_l1 k F a c))))) ((F.f20 e a).bind fun h=>(f20_j1 k F b (!h) (f20_l1 k F a c))))
def f20_b (k:Nat) (F:Fam20):LE→Int→Option Bool:=fun a b=>(f20_l1 k F b a 0)
def fam20 (k0:Nat):Nat→Fam20
 | 0=>{ f20:=fun _ _=>none }
 | k + 1=>{ f20:=f20_b k0 (fam20 k0 k) }
def f20 (k:Nat):LE→Int→Option Bool:=(fam20 k k).f20
structure Fam10 where
 f10:LS→Int→Option ((List Int) × Bool)
def f10_j1 (k:Nat) (F:Fam10) (a:Nat) (b:List Int) (c:Bool) (nx1:Nat→(List Int)→Bool→Option ((List Int) × Bool)):Option ((List Int) × Bool):=(nx1 (a + 1) b c)
def f10_j5 (k:Nat) (F:Fam10) (a:Nat) (b:List Int) (c:Bool) (nx1:Nat→(List Int)→Bool→Option ((List Int) × Bool)):Option ((List Int) × Bool):=(f10_j1 k F a b c nx1)
def f10_j4 (k:Nat) (F:Fam10) (e:Int) (d:Nat) (f:LS) (g:LS) (h:Bool) (a:List Int) (nx1:Nat→(List Int)→Bool→Option ((List Int) × Bool)):Option ((List Int) × Bool):=((F.f10 f e).bind fun q_=>match q_ with | (b,i)=>((F.f10 g e).bind fun q_=>match q_ with | (c,j)=>(guardB (decide ((a.length + b.length) * 8 ≤ 140737488355328)) (guardB (decide (((a ++ b).length + c.length) * 8 ≤ 140737488355328)) (cond h (cond i (f10_j5 k F d ((a ++ b) ++ c) j nx1) (f10_j5 k F d ((a ++ b) ++ c) false nx1)) (f10_j5 k F d ((a ++ b) ++ c) false nx1))))))
def f10_j3 (k:Nat) (F:Fam10) (b:Int) (c:Nat) (g:BA) (h:Int) (d:LS) (e:LS) (a:List Int) (f:Bool) (nx1:Nat→(List Int)→Bool→Option ((List Int) × Bool)):Option ((List Int) × Bool):=(cond (!seq g ⟨#[]⟩) (guardB (decide ((a.length + 1) * 8 ≤ 140737488355328)) (f10_j4 k F b c d e f (a ++ [h]) nx1)) (f10_j4 k F b c d e f a nx1))
def f10_j8 (k:Nat) (F:Fam10) (a:Nat) (b:List Int) (c:Bool) (nx2:Nat→(List Int)→Bool→Option ((List Int) × Bool)):Option ((List Int) × Bool):=(nx2 (a + 1) b c)
def f10_j9 (k:Nat) (F:Fam10) (d:Int) (e:Bool) (c:Nat) (f:LE) (g:LS) (a:List Int) (nx2:Nat→(List Int)→Bool→Option ((List Int) × Bool)):Option ((List Int) × Bool):=((F.f10 g d).bind fun q_=>match q_ with | (b,h)=>(guardB (decide ((a.length + b.length) * 8 ≤ 140737488355328)) (cond e (cond h ((f20 k f d).bind fun i=>(f10_j8 k F c (a ++ b) i nx2)) (f10_j8 k F c (a ++ b) false nx2)) (f10_j8 k F c (a ++ b) false nx2))))
def f10_l2 (k:Nat) (F:Fam10) (b:Int) (d:Nat) (nx1:Nat→(List Int)→Bool→Option ((List Int) × Bool)):LC→Nat→(List Int)→Bool→Option ((List Int) × Bool)
 | [],e,a,c=>(f10_j1 k F d a c nx1)
 | (.mk l i j f g) :: h,e,a,c=>(cond (!seq i ⟨#[]⟩) (guardB (decide ((a.length + 1) * 8 ≤ 140737488355328)) (f10_j9 k F b c e f g (a ++ [j]) (f10_l2 k F b d nx1 h))) (f10_j9 k F b c e f g a (f10_l2 k F b d nx1 h)))
def f10_j7 (k:Nat) (F:Fam10) (a:Int) (b:Nat) (c:LC) (d:List Int) (e:Bool) (nx1:Nat→(List Int)→Bool→Option ((List Int) × Bool)):Option ((List Int) × Bool):=(f10_l2 k F a b nx1 c 0 d e)
def f10_j6 (k:Nat) (F:Fam10) (a:Int) (e:Nat) (g:LS) (h:LS) (f:LC) (i:Bool) (b:List Int) (nx1:Nat→(List Int)→Bool→Option ((List Int) × Bool)):Option ((List Int) × Bool):=((F.f10 g a).bind fun q_=>match q_ with | (c,j)=>((F.f10 h a).bind fun q_=>match q_ with | (d,l)=>(guardB (decide ((b.length + c.length) * 8 ≤ 140737488355328)) (guardB (decide (((b ++ c).length + d.length) * 8 ≤ 140737488355328)) (cond i (cond j (f10_j7 k F a e f ((b ++ c) ++ d) l nx1) (f10_j7 k F a e f ((b ++ c) ++ d) false nx1)) (f10_j7 k F a e f ((b ++ c) ++ d) false nx1))))))
def f10_j10 (k:Nat) (F:Fam10) (b:Int) (a:List Int) (c:Nat) (h:Int) (d:LS) (e:LS) (f:LC) (g:Bool) (i:Bool) (nx1:Nat→(List Int)→Bool→Option ((List Int) × Bool)):Option ((List Int) × Bool):=(cond i (guardB (decide ((a.length + 1) * 8 ≤ 140737488355328)) (f10_j6 k F b c d e f g (a ++ [h]) nx1)) (f10_j6 k F b c d e f g a nx1))
def f10_j2 (k:Nat) (F:Fam10) (a:Int) (b:List Int) (c:Nat) (j:Int) (f:BA) (d:Int) (g:LS) (e:LS) (l:LS) (m:LC) (h:Bool) (nx1:Nat→(List Int)→Bool→Option ((List Int) × Bool)):Option ((List Int) × Bool):=(cond (j == 24) ((F.f10 g a).bind fun q_=>match q_ with | (i,n)=>(guardB (decide ((b.length + i.length) * 8 ≤ 140737488355328)) (cond h (f10_j3 k F a c f d e l (b ++ i) n nx1) (f10_j3 k F a c f d e l (b ++ i) false nx1)))) (cond (!seq f ⟨#[]⟩) (f10_j10 k F a b c d g e m h (j != 2) nx1) (f10_j10 k F a b c d g e m h false nx1)))
def f10_l1 (k:Nat) (F:Fam10) (a:Int):LS→Nat→(List Int)→Bool→Option ((List Int) × Bool)
 | [],d,c,m=>(some (c,m))
 | (.mk e f b p q r n g h i j) :: l,d,c,m=>(cond m ((f20 k n a).bind fun o=>(cond o (cond (b == 0) (f10_j2 k F a c d e f b g h i j true (f10_l1 k F a l)) (cond (decide (b > 0)) (f10_j2 k F a c d e f b g h i j (decide (b < a)) (f10_l1 k F a l)) (f10_j2 k F a c d e f b g h i j false (f10_l1 k F a l)))) (f10_j2 k F a c d e f b g h i j false (f10_l1 k F a l)))) (f10_j2 k F a c d e f b g h i j false (f10_l1 k F a l)))
def f10_b (k:Nat) (F:Fam10):LS→Int→Option ((List Int) × Bool):=fun a b=>(f10_l1 k F b a 0 ([]:List Int) true)
def fam10 (k0:Nat):Nat→Fam10
 | 0=>{ f10:=fun _ _=>none }
 | k + 1=>{ f10:=f10_b k0 (fam10 k0 k) }
def f10 (k:Nat):LS→Int→Option ((List Int) × Bool):=(fam10 k k).f10
def f1002949_b (k:Nat):DFunc→DFunc→Option Bool:=fun a b =>
 match a,b with
 | .mk c e f g h i,.mk d j l m n o=>(some (seq d c))
def f1002949 (k:Nat):DFunc→DFunc→Option Bool:=f1002949_b k
def f1003604_l1 (k:Nat) (b:BA) (c:LP) (d:Int) (e:Bool) (f:Int) (g:LS):LF→Nat→Option Int
 | [],a=>(some (-1))
 | (.mk h i j l m n) :: o,a=>((f1002949 k (DFunc.mk h i j l m n) (DFunc.mk b c d e f g)).bind fun p=>(cond p (some (a:Int)) ((f1003604_l1 k b c d e f g o) (a + 1))))
def f1003604_b (k:Nat):LF→DFunc→Option Int:=fun a b =>
 match a,b with
 | a,.mk c d e f g h=>(f1003604_l1 k c d e f g h a 0)
def f1003604 (k:Nat):LF→DFunc→Option Int:=f1003604_b k
def f1002804_b (k:Nat):LF→DFunc→Option Bool:=fun a b =>
 match a,b with
 | a,.mk c d e f g h=>((f1003604 k a (DFunc.mk c d e f g h)).bind fun i=>(some (decide (i ≥ 0))))
def f1002804 (k:Nat):LF→DFunc→Option Bool:=f1002804_b k
def f25_b (k:Nat):Bool→Int→Option (Except Int Unit):=fun a b=>(cond (!a) (some (.error b)) (some (.ok ())))
def f25 (k:Nat):Bool→Int→Option (Except Int Unit):=f25_b k
def f42_j1 (k:Nat) (a:Bool):Option Bool:=(some a)
def f42_b (k:Nat):Int→Int→Int→Option Bool:=fun a b c=>(cond (decide (a ≥ b)) (f42_j1 k (decide (a ≤ c))) (f42_j1 k false))
def f42 (k:Nat):Int→Int→Int→Option Bool:=f42_b k
def f43_j1 (k:Nat) (a:Int) (b:Int) (c:Bool) (d:Int) (e:Bool):Option (Dcounter × Bool):=(some ((Dcounter.mk (w64 (a + 1)) (imax b d) c),e))
def f43_b (k:Nat):Dcounter→Int→Option (Dcounter × Bool):=fun e a =>
 match e,a with
 | .mk b c d,a=>(cond (decide ((w64 (b + 1)) ≤ 600)) (f43_j1 k b c d a (decide (a ≤ 16))) (f43_j1 k b c d a false))
def f43 (k:Nat):Dcounter→Int→Option (Dcounter × Bool):=f43_b k
def f60_j1 (k:Nat) (a:Bool):Option Bool:=(some a)
def f60_b (k:Nat):Int→Option Bool:=fun a=>(cond (decide (a ≥ 97)) (f60_j1 k (decide (a ≤ 122))) (f60_j1 k false))
def f60 (k:Nat):Int→Option Bool:=f60_b k
def f61_j1 (k:Nat) (a:Bool):Option Bool:=(some a)
def f61_b (k:Nat):Int→Option Bool:=fun a=>(cond (decide (a ≥ 48)) (f61_j1 k (decide (a ≤ 57))) (f61_j1 k false))
def f61 (k:Nat):Int→Option Bool:=f61_b k
def f54_j1 (k:Nat) (a:Nat) (b:Bool) (nx1:Nat→Option Bool):Option Bool:=(cond b (some false) (nx1 (a + 1)))
def f54_l1 (k:Nat) (b:BA):List UInt8→Nat→Option Bool
 | [],a=>(some (!seq b ⟨#[]⟩))
 | d :: c,a=>((f60 k (d.toNat:Int)).bind fun e=>(cond (!e) (cond ((a:Int) == 0) (f54_j1 k a true (f54_l1 k b c)) ((f61 k (d.toNat:Int)).bind fun f=>(f54_j1 k a (!f) (f54_l1 k b c)))) (f54_j1 k a false (f54_l1 k b c))))
def f54_b (k:Nat):BA→Option Bool:=fun a=>(f54_l1 k a a.data.toList 0)
def f54 (k:Nat):BA→Option Bool:=f54_b k
def f68_l1 (k:Nat) (b:BA):LB→Nat→Option Int
 | [],a=>(some (-1))
 | c :: d,a=>(cond (seq b c) (some (a:Int)) ((f68_l1 k b d) (a + 1)))
def f68_b (k:Nat):LB→BA→Option Int:=fun a b=>(f68_l1 k b a 0)
def f68 (k:Nat):LB→BA→Option Int:=f68_b k
def f62_b (k:Nat):LB→BA→Option Bool:=fun a b=>((f68 k a b).bind fun c=>(some (decide (c ≥ 0))))
def f62 (k:Nat):LB→BA→Option Bool:=f62_b k
def wordsL:LB:=[⟨#[97,102,116,101,114]⟩,⟨#[97,119,97,105,116]⟩,⟨#[98,111,111,108]⟩,⟨#[98,114,101,97,107]⟩,⟨#[98,117,102,102,101,114]⟩,⟨#[99,97,110,99,101,108]⟩,⟨#[99,97,116,99,104]⟩,⟨#[99,104,97,110]⟩,⟨#[99,108,111,115,101]⟩,⟨#[99,111,110,116,105,110,117,101]⟩,⟨#[100,114,111,112]⟩,⟨#[101,97,99,104]⟩,⟨#[101,108,115,101]⟩,⟨#[101,109,105,116]⟩,⟨#[102,97,108,115,101]⟩,⟨#[102,105,110,97,108,108,121]⟩,⟨#[102,108,111,119]⟩,⟨#[102,110]⟩,⟨#[102,114,111,109]⟩,⟨#[104,111,108,100]⟩,⟨#[105,102]⟩,⟨#[105,110,116]⟩,⟨#[108,101,116]⟩,⟨#[108,111,99,107]⟩,⟨#[110,101,119]⟩,⟨#[110,111,119]⟩,⟨#[111,108,100]⟩,⟨#[112,114,111,100,117,99,101]⟩,⟨#[114,101,99,101,105,118,101]⟩,⟨#[114,101,116,117,114,110]⟩,⟨#[115,99,111,112,101]⟩,⟨#[115,101,108,101,99,116]⟩,⟨#[115,101,110,100]⟩,⟨#[115,104,105,101,108,100]⟩,⟨#[115,108,101,101,112]⟩,⟨#[115,112,97,119,110]⟩,⟨#[115,117,112,101,114,118,105,115,101,100]⟩,⟨#[116,97,115,107]⟩,⟨#[116,101,120,116]⟩,⟨#[116,104,114,111,119]⟩,⟨#[116,114,117,101]⟩,⟨#[116,114,121]⟩,⟨#[117,115,101]⟩,⟨#[119,104,105,108,101]⟩,⟨#[119,105,116,104,105,110]⟩,⟨#[121,105,101,108,100]⟩]
def f63 (k:Nat):Option LB:=some wordsL
def f55_b (k:Nat):BA→Option Bool:=fun a=>((f63 k ).bind fun b=>((f62 k b a).bind fun c=>(some c)))
def f55 (k:Nat):BA→Option Bool:=f55_b k
def f44_j1 (k:Nat) (a:Bool):Option Bool:=(some a)
def f44_b (k:Nat):BA→Option Bool:=fun a=>((f54 k a).bind fun b=>(cond b (cond (decide ((a.size:Int) ≤ 12)) ((f55 k a).bind fun c=>(f44_j1 k (!c))) (f44_j1 k false)) (f44_j1 k false)))
def f44 (k:Nat):BA→Option Bool:=f44_b k
def f64_b (k:Nat):Option (List (Int × Dshape)):=(some (mput qI 29 (Dshape.mk 0 false 1 1 false) (mput qI 28 (Dshape.mk 1 true 0 601 true) (mput qI 27 (Dshape.mk 0 false 0 0 false) (mput qI 26 (Dshape.mk 0 false 1 1 true) (mput qI 25 (Dshape.mk 1 false 1 1 true) (mput qI 24 (Dshape.mk 2 false 0 0 true) (mput qI 23 (Dshape.mk 0 false 0 0 true) (mput qI 22 (Dshape.mk 0 false 0 1 true) (mput qI 21 (Dshape.mk 0 false 1 1 true) (mput qI 20 (Dshape.mk 0 false 1 1 true) (mput qI 19 (Dshape.mk 0 false 0 0 false) (mput qI 18 (Dshape.mk 0 false 0 0 false) (mput qI 17 (Dshape.mk 0 false 0 1 false) (mput qI 16 (Dshape.mk 0 false 1 1 false) (mput qI 15 (Dshape.mk 0 false 1 1 false) (mput qI 14 (Dshape.mk 0 false 1 1 false) (mput qI 13 (Dshape.mk 0 false 0 0 false) (mput qI 12 (Dshape.mk 0 false 1 1 false) (mput qI 11 (Dshape.mk 0 false 1 1 false) (mput qI 10 (Dshape.mk 0 false 2 2 false) (mput qI 9 (Dshape.mk 1 false 0 0 false) (mput qI 8 (Dshape.mk 1 false 1 1 false) (mput qI 7 (Dshape.mk 1 false 1 1 false) (mput qI 6 (Dshape.mk 2 false 1 1 false) (mput qI 5 (Dshape.mk 2 false 1 1 false) (mput qI 4 (Dshape.mk 2 true 0 601 false) (mput qI 3 (Dshape.mk 2 true 0 601 false) (mput qI 2 (Dshape.mk 1 false 1 1 false) (mput qI 1 (Dshape.mk 1 false 1 1 false) ([]:List (Int × Dshape))))))))))))))))))))))))))))))))
def f64 (k:Nat):Option (List (Int × Dshape)):=f64_b k
def f65_j2 (k:Nat) (a:Bool):Option Bool:=(some a)
def f65_j1 (k:Nat) (c:LS) (a:LS) (d:Bool) (b:Bool) (e:Bool):Option Bool:=(cond e (cond d (cond b (f65_j2 k true) (f65_j2 k ((a.length:Int) == 0))) (cond ((c.length:Int) == 0) (cond b (f65_j2 k true) (f65_j2 k ((a.length:Int) == 0))) (f65_j2 k false))) (f65_j2 k false))
def f65_j3 (k:Nat) (a:Int) (b:LS) (c:LS) (d:Bool):Option Bool:=(f65_j1 k b c ((IntKind.i64.wrap (BitVec.ofInt IntKind.i64.bits a &&& BitVec.ofInt IntKind.i64.bits 1).toNat) == 1) ((IntKind.i64.wrap (BitVec.ofInt IntKind.i64.bits a &&& BitVec.ofInt IntKind.i64.bits 2).toNat) == 2) d)
def f65_b (k:Nat):DStmt→Option Bool:=fun f =>
 match f with
 | .mk d e n o p a q r b c s=>(cond (d == 6) ((f42 k a 0 1).bind fun g=>(cond g (cond (a == 0) (f65_j1 k b c false false true) (f65_j1 k b c false false (!seq e ⟨#[]⟩))) (f65_j1 k b c false false false))) (cond (d == 7) ((f42 k a 0 2).bind fun h=>(f65_j1 k b c false false h)) (cond (d == 22) ((f42 k a 0 1).bind fun i=>(f65_j1 k b c false false i)) (cond (d == 20) ((f42 k a 0 1).bind fun j=>(f65_j1 k b c (a == 1) false j)) (cond (d == 24) ((f42 k a 1 3).bind fun l=>(cond l (f65_j3 k a b c ((!seq e ⟨#[]⟩) == ((IntKind.i64.wrap (BitVec.ofInt IntKind.i64.bits a &&& BitVec.ofInt IntKind.i64.bits 1).toNat) == 1))) (f65_j3 k a b c false))) (cond (d == 28) ((f42 k a 0 66).bind fun m=>(cond m (f65_j1 k b c false false (decide ((a.tmod 4) < 3))) (f65_j1 k b c false false false))) (f65_j1 k b c false false (a == 0))))))))
def f65 (k:Nat):DStmt→Option Bool:=f65_b k
def f78_j1 (k:Nat) (a:Nat) (b:Bool) (nx1:Nat→Option Bool):Option Bool:=(cond b (some false) (nx1 (a + 1)))
def f78_l1 (k:Nat) (a:BA):List UInt8→Nat→Option Bool
 | [],b=>(some (decide ((a.size:Int) ≤ 60)))
 | c :: d,b=>(cond (decide ((c.toNat:Int) < 32)) (f78_j1 k b true (f78_l1 k a d)) (f78_j1 k b (decide ((c.toNat:Int) > 126)) (f78_l1 k a d)))
def f78_b (k:Nat):BA→Option Bool:=fun a=>(f78_l1 k a a.data.toList 0)
def f78 (k:Nat):BA→Option Bool:=f78_b k
def f73 (k:Nat):BA→Option Bool:=fun a=>f78 k a
structure Fam67 where
 f67:Dcounter→LE→Int→Option (Dcounter × Bool)
 f70:Dcounter→DExpr→Int→Option (Dcounter × Bool)
def f67_l1 (k:Nat) (F:Fam67) (d:Int):LE→Nat→Int→Int→Bool→Option (Dcounter × Bool)
 | [],e,a,b,c=>(some ((Dcounter.mk a b c),true))
 | (.mk i j l m n) :: o,e,a,b,c=>((F.f70 (Dcounter.mk a b c) (DExpr.mk i j l m n) d).bind fun q_=>match q_ with | (.mk f g h,p)=>(cond (!p) (some ((Dcounter.mk f g h),false)) ((f67_l1 k F d o) (e + 1) f g h)))
def f67_b (k:Nat) (F:Fam67):Dcounter→LE→Int→Option (Dcounter × Bool):=fun c a b =>
 match c,a,b with
 | .mk d e f,a,b=>(f67_l1 k F b a 0 d e f)
def f70_j3 (k:Nat) (F:Fam67) (a:Bool) (b:Int) (c:Int) (d:Bool):Option (Dcounter × Bool):=(some ((Dcounter.mk b c d),a))
def f70_j2 (k:Nat) (F:Fam67) (d:LE) (e:Int) (a:Int) (b:Int) (c:Bool) (f:Int) (g:Bool):Option (Dcounter × Bool):=(cond g (cond ((d.length:Int) == f) ((F.f67 (Dcounter.mk a b c) d (w64 (e + 1))).bind fun q_=>match q_ with | (.mk h i j,l)=>(f70_j3 k F l h i j)) (f70_j3 k F false a b c)) (f70_j3 k F false a b c))
def f70_j5 (k:Nat) (F:Fam67) (a:LE) (b:Int) (c:Int) (d:Int) (e:Bool) (f:Bool):Option (Dcounter × Bool):=(f70_j2 k F a b c d e 1 f)
def f70_j6 (k:Nat) (F:Fam67) (a:LE) (b:Int) (c:Int) (d:Int) (e:Bool) (f:Bool):Option (Dcounter × Bool):=(f70_j2 k F a b c d e 2 f)
def f70_j4 (k:Nat) (F:Fam67) (h:Int) (f:Int) (g:BA) (a:LE) (b:Int) (c:Int) (d:Int) (e:Bool) (i:Bool):Option (Dcounter × Bool):=(cond i (cond (f == 0) (f70_j5 k F a b c d e (seq g ⟨#[]⟩)) (f70_j5 k F a b c d e false)) ((f42 k h 7 19).bind fun j=>(cond j (cond (f == 0) (f70_j6 k F a b c d e (seq g ⟨#[]⟩)) (f70_j6 k F a b c d e false)) (f70_j6 k F a b c d e false))))
def f70_j1 (k:Nat) (F:Fam67) (f:Int) (g:Int) (h:BA) (d:LE) (e:Int) (a:Int) (b:Int) (c:Bool) (i:Bool):Option (Dcounter × Bool):=(cond i (some ((Dcounter.mk a b c),false)) (cond (f == 1) ((f42 k g 0 1000000000000).bind fun j=>(cond j (f70_j2 k F d e a b c 0 (seq h ⟨#[]⟩)) (f70_j2 k F d e a b c 0 false))) (cond (f == 2) ((f42 k g 0 1).bind fun l=>(cond l (f70_j2 k F d e a b c 0 (seq h ⟨#[]⟩)) (f70_j2 k F d e a b c 0 false))) (cond (f == 3) (cond (g == 0) ((f73 k h).bind fun m=>(f70_j2 k F d e a b c 0 m)) (f70_j2 k F d e a b c 0 false)) (cond (f == 4) (cond (g == 0) ((f44 k h).bind fun n=>(f70_j2 k F d e a b c 0 n)) (f70_j2 k F d e a b c 0 false)) (cond (f == 5) (f70_j4 k F f g h d e a b c (f == 5)) (f70_j4 k F f g h d e a b c (f == 6))))))))
def f70_b (k:Nat) (F:Fam67):Dcounter→DExpr→Int→Option (Dcounter × Bool):=fun i j a =>
 match i,j,a with
 | .mk l m n,.mk c d e o f,a=>((f43 k (Dcounter.mk l m n) a).bind fun q_=>match q_ with | (.mk g h b,p)=>(cond (!p) (f70_j1 k F c d e f a g h b true) (cond (o != 0) (f70_j1 k F c d e f a g h b (!b)) (f70_j1 k F c d e f a g h b false))))
def fam67 (k0:Nat):Nat→Fam67
 | 0=>{ f67:=fun _ _ _=>none,f70:=fun _ _ _=>none }
 | k + 1=>{ f67:=f67_b k0 (fam67 k0 k),f70:=f70_b k0 (fam67 k0 k) }
def f67 (k:Nat):Dcounter→LE→Int→Option (Dcounter × Bool):=(fam67 k k).f67
def f70 (k:Nat):Dcounter→DExpr→Int→Option (Dcounter × Bool):=(fam67 k k).f70
structure Fam45 where
 f45:Dcounter→LS→Int→Option (Dcounter × Bool)
 f56:Dcounter→DStmt→Int→Option (Dcounter × Bool)
 f66:Dcounter→DCase→Int→Option (Dcounter × Bool)
def f45_l1 (k:Nat) (F:Fam45) (d:Int):LS→Nat→Int→Int→Bool→Option (Dcounter × Bool)
 | [],e,a,b,c=>(some ((Dcounter.mk a b c),true))
 | (.mk i j l m n o p q r s t) :: u,e,a,b,c=>((F.f56 (Dcounter.mk a b c) (DStmt.mk i j l m n o p q r s t) d).bind fun q_=>match q_ with | (.mk f g h,v)=>(cond (!v) (some ((Dcounter.mk f g h),false)) ((f45_l1 k F d u) (e + 1) f g h)))
def f45_b (k:Nat) (F:Fam45):Dcounter→LS→Int→Option (Dcounter × Bool):=fun c a b =>
 match c,a,b with
 | .mk d e f,a,b=>(f45_l1 k F b a 0 d e f)
def f56_j5 (k:Nat) (F:Fam45) (a:Bool) (b:Int) (c:Int) (d:Bool):Option (Dcounter × Bool):=(some ((Dcounter.mk b c d),a))
def f56_j6 (k:Nat) (F:Fam45) (d:Nat) (a:Int) (b:Int) (c:Bool) (e:Bool) (nx1:Nat→Int→Int→Bool→Option (Dcounter × Bool)):Option (Dcounter × Bool):=(cond e (some ((Dcounter.mk a b c),false)) (nx1 (d + 1) a b c))
def f56_l1 (k:Nat) (F:Fam45) (f:LE) (g:LS) (h:LS) (i:LS) (j:LC) (a:Int):LC→Nat→Int→Int→Bool→Option (Dcounter × Bool)
 | [],b,c,d,e=>((f67 k (Dcounter.mk c d e) f (w64 (a + 1))).bind fun q_=>match q_ with | (.mk n o p,A)=>(cond A ((F.f45 (Dcounter.mk n o p) g (w64 (a + 1))).bind fun q_=>match q_ with | (.mk q r s,B)=>(cond B ((F.f45 (Dcounter.mk q r s) h (w64 (a + 1))).bind fun q_=>match q_ with | (.mk t u v,C)=>(cond C ((F.f45 (Dcounter.mk t u v) i (w64 (a + 1))).bind fun q_=>match q_ with | (.mk D G I,J)=>(f56_j5 k F J D G I)) (f56_j5 k F false t u v))) (f56_j5 k F false q r s))) (f56_j5 k F false n o p)))
 | (.mk l w x y z) :: m,b,c,d,e=>(cond (l == 4) (cond (decide ((b:Int) < (w64 ((j.length:Int) - 1)))) (f56_j6 k F b c d e true (f56_l1 k F f g h i j a m)) ((F.f66 (Dcounter.mk c d e) (DCase.mk l w x y z) (w64 (a + 1))).bind fun q_=>match q_ with | (.mk N O S,U)=>(f56_j6 k F b N O S (!U) (f56_l1 k F f g h i j a m)))) ((F.f66 (Dcounter.mk c d e) (DCase.mk l w x y z) (w64 (a + 1))).bind fun q_=>match q_ with | (.mk V W X,Y)=>(f56_j6 k F b V W X (!Y) (f56_l1 k F f g h i j a m))))
def f56_j4 (k:Nat) (F:Fam45) (e:LE) (f:LS) (g:LS) (h:LS) (a:LC) (i:Int) (b:Int) (c:Int) (d:Bool) (j:Bool):Option (Dcounter × Bool):=(cond j (some ((Dcounter.mk b c d),false)) (f56_l1 k F e f g h a i a 0 b c d))
def f56_j3 (k:Nat) (F:Fam45) (j:Int) (b:LE) (c:LS) (g:LS) (h:LS) (a:LC) (i:Int) (l:Int) (m:Int) (n:Bool) (d:Int) (e:Int) (f:Bool) (o:Bool):Option (Dcounter × Bool):=(cond o (some ((Dcounter.mk d e f),false)) ((f42 k (b.length:Int) l m).bind fun p=>(cond (!p) (f56_j4 k F b c g h a i d e f true) (cond (!n) (cond (decide ((c.length:Int) > 0)) (f56_j4 k F b c g h a i d e f true) (cond (j != 27) (cond (decide ((a.length:Int) > 0)) (f56_j4 k F b c g h a i d e f true) (cond (j == 27) ((f42 k (a.length:Int) 1 4).bind fun q=>(f56_j4 k F b c g h a i d e f (!q))) (f56_j4 k F b c g h a i d e f false))) (cond (j == 27) ((f42 k (a.length:Int) 1 4).bind fun r=>(f56_j4 k F b c g h a i d e f (!r))) (f56_j4 k F b c g h a i d e f false)))) (cond (j != 27) (cond (decide ((a.length:Int) > 0)) (f56_j4 k F b c g h a i d e f true) (cond (j == 27) ((f42 k (a.length:Int) 1 4).bind fun s=>(f56_j4 k F b c g h a i d e f (!s))) (f56_j4 k F b c g h a i d e f false))) (cond (j == 27) ((f42 k (a.length:Int) 1 4).bind fun t=>(f56_j4 k F b c g h a i d e f (!t))) (f56_j4 k F b c g h a i d e f false)))))))
def f56_j2 (k:Nat) (F:Fam45) (d:Int) (q:BA) (o:BA) (e:LE) (f:LS) (g:LS) (h:LS) (i:LC) (j:Int) (r:Int) (p:Bool) (l:Int) (m:Int) (n:Bool) (a:Int) (b:Int) (c:Bool) (s:Bool):Option (Dcounter × Bool):=(cond s (some ((Dcounter.mk a b c),false)) (cond (!seq q ⟨#[]⟩) (cond (r == 0) (f56_j3 k F d e f g h i j l m n a b c true) ((f44 k q).bind fun t=>(cond (!t) (f56_j3 k F d e f g h i j l m n a b c true) (cond (!(!seq q ⟨#[]⟩)) (cond (r == 1) (f56_j3 k F d e f g h i j l m n a b c true) (cond (!((!seq o ⟨#[]⟩) == p)) (f56_j3 k F d e f g h i j l m n a b c true) (cond p ((f44 k o).bind fun u=>(f56_j3 k F d e f g h i j l m n a b c (!u))) (f56_j3 k F d e f g h i j l m n a b c false)))) (cond (!((!seq o ⟨#[]⟩) == p)) (f56_j3 k F d e f g h i j l m n a b c true) (cond p ((f44 k o).bind fun v=>(f56_j3 k F d e f g h i j l m n a b c (!v))) (f56_j3 k F d e f g h i j l m n a b c false))))))) (cond (!(!seq q ⟨#[]⟩)) (cond (r == 1) (f56_j3 k F d e f g h i j l m n a b c true) (cond (!((!seq o ⟨#[]⟩) == p)) (f56_j3 k F d e f g h i j l m n a b c true) (cond p ((f44 k o).bind fun w=>(f56_j3 k F d e f g h i j l m n a b c (!w))) (f56_j3 k F d e f g h i j l m n a b c false)))) (cond (!((!seq o ⟨#[]⟩) == p)) (f56_j3 k F d e f g h i j l m n a b c true) (cond p ((f44 k o).bind fun x=>(f56_j3 k F d e f g h i j l m n a b c (!x))) (f56_j3 k F d e f g h i j l m n a b c false))))))
def f56_j1 (k:Nat) (F:Fam45) (v:Int) (w:Int) (x:Bool) (a:Int) (b:BA) (s:Int) (c:BA) (t:Int) (u:Int) (d:LE) (e:LS) (f:LS) (g:LS) (h:LC) (i:Int) (l:Int) (m:Bool) (n:Int) (o:Int) (p:Bool) (y:Bool):Option (Dcounter × Bool):=(cond (!y) (f56_j2 k F a b c d e f g h i l m n o p v w x true) ((f43 k (Dcounter.mk v w x) i).bind fun q_=>match q_ with | (.mk q r j,z)=>(cond (!z) (f56_j2 k F a b c d e f g h i l m n o p q r j true) (cond (s != 0) (cond (!j) (f56_j2 k F a b c d e f g h i l m n o p q r j true) ((f65 k (DStmt.mk a b s c t u d e f g h)).bind fun A=>(f56_j2 k F a b c d e f g h i l m n o p q r j (!A)))) (cond (t != 0) (cond (!j) (f56_j2 k F a b c d e f g h i l m n o p q r j true) ((f65 k (DStmt.mk a b s c t u d e f g h)).bind fun B=>(f56_j2 k F a b c d e f g h i l m n o p q r j (!B)))) ((f65 k (DStmt.mk a b s c t u d e f g h)).bind fun C=>(f56_j2 k F a b c d e f g h i l m n o p q r j (!C))))))))
def f56_b (k:Nat) (F:Fam45):Dcounter→DStmt→Int→Option (Dcounter × Bool):=fun q r a =>
 match q,r,a with
 | .mk c d e,.mk b f g h i j l m n o p,a=>((f64 k ).bind fun s=>(mcase (mget qI b s) (f56_j1 k F c d e b f g h i j l m n o p a 0 false 0 0 false false) (fun q_=>match q_ with | .mk t u v w x=>(f56_j1 k F c d e b f g h i j l m n o p a t u v w x true))))
def f66_j2 (k:Nat) (F:Fam45) (a:Bool) (b:Int) (c:Int) (d:Bool):Option (Dcounter × Bool):=(some ((Dcounter.mk b c d),a))
def f66_j1 (k:Nat) (F:Fam45) (h:LE) (i:LS) (a:Int) (b:Int) (c:Int) (d:Bool) (j:Bool):Option (Dcounter × Bool):=(cond j (some ((Dcounter.mk b c d),false)) ((f67 k (Dcounter.mk b c d) h (w64 (a + 1))).bind fun q_=>match q_ with | (.mk e f g,l)=>(cond l ((F.f45 (Dcounter.mk e f g) i (w64 (a + 1))).bind fun q_=>match q_ with | (.mk m n o,p)=>(f66_j2 k F p m n o)) (f66_j2 k F false e f g))))
def f66_b (k:Nat) (F:Fam45):Dcounter→DCase→Int→Option (Dcounter × Bool):=fun n o a =>
 match n,o,a with
 | .mk i j l,.mk h g p b d,a=>(mcase (mget qI h (mput qI 4 0 (mput qI 3 1 (mput qI 2 2 (mput qI 1 1 ([]:List (Int × Int))))))) (some ((Dcounter.mk i j l),false)) (fun m=>((f43 k (Dcounter.mk i j l) a).bind fun q_=>match q_ with | (.mk e f c,q)=>(cond (!q) (f66_j1 k F b d a e f c true) (cond (p != 0) (cond (!c) (f66_j1 k F b d a e f c true) (cond ((b.length:Int) != m) (f66_j1 k F b d a e f c true) (cond (!((!seq g ⟨#[]⟩) == (h == 1))) (f66_j1 k F b d a e f c true) (cond (!seq g ⟨#[]⟩) ((f44 k g).bind fun r=>(f66_j1 k F b d a e f c (!r))) (f66_j1 k F b d a e f c false))))) (cond ((b.length:Int) != m) (f66_j1 k F b d a e f c true) (cond (!((!seq g ⟨#[]⟩) == (h == 1))) (f66_j1 k F b d a e f c true) (cond (!seq g ⟨#[]⟩) ((f44 k g).bind fun s=>(f66_j1 k F b d a e f c (!s))) (f66_j1 k F b d a e f c false)))))))))
def fam45 (k0:Nat):Nat→Fam45
 | 0=>{ f45:=fun _ _ _=>none,f56:=fun _ _ _=>none,f66:=fun _ _ _=>none }
 | k + 1=>{ f45:=f45_b k0 (fam45 k0 k),f56:=f56_b k0 (fam45 k0 k),f66:=f66_b k0 (fam45 k0 k) }
def f45 (k:Nat):Dcounter→LS→Int→Option (Dcounter × Bool):=(fam45 k k).f45
def f56 (k:Nat):Dcounter→DStmt→Int→Option (Dcounter × Bool):=(fam45 k k).f56
def f66 (k:Nat):Dcounter→DCase→Int→Option (Dcounter × Bool):=(fam45 k k).f66
def f34_j2 (k:Nat) (a:Int) (b:Int) (c:Bool) (d:Nat) (e:Bool) (nx2:Nat→Option (Dcounter × Bool)):Option (Dcounter × Bool):=(cond e (some ((Dcounter.mk a b c),false)) (nx2 (d + 1)))
def f34_l2 (k:Nat) (d:Nat) (e:LS) (a:Int) (b:Int) (c:Bool) (nx1:Nat→Int→Int→Bool→Option (Dcounter × Bool)):LP→Nat→Option (Dcounter × Bool)
 | [],f=>((f45 k (Dcounter.mk a b c) e 1).bind fun q_=>match q_ with | (.mk g h i,l)=>(cond (!l) (some ((Dcounter.mk g h i),false)) (nx1 (d + 1) g h i)))
 | (.mk m n) :: j,f=>((f44 k m).bind fun o=>(cond (!o) (f34_j2 k a b c f true (f34_l2 k d e a b c nx1 j)) ((f42 k n 1 6).bind fun p=>(f34_j2 k a b c f (!p) (f34_l2 k d e a b c nx1 j)))))
def f34_j1 (k:Nat) (d:Nat) (e:LP) (f:LS) (a:Int) (b:Int) (c:Bool) (g:Bool) (nx1:Nat→Int→Int→Bool→Option (Dcounter × Bool)):Option (Dcounter × Bool):=(cond g (some ((Dcounter.mk a b c),false)) (f34_l2 k d f a b c nx1 e 0))
def f34_l1 (k:Nat)  : LF→Nat→Int→Int→Bool→Option (Dcounter × Bool)
 | [],a,i,j,l=>(some ((Dcounter.mk i j l),true))
 | (.mk n b h m o d) :: e,a,i,j,l=>((f43 k (Dcounter.mk i j l) 0).bind fun q_=>match q_ with | (.mk f g c,p)=>(cond (!p) (f34_j1 k a b d f g c true (f34_l1 k e)) ((f44 k n).bind fun q=>(cond (!q) (f34_j1 k a b d f g c true (f34_l1 k e)) (cond (decide ((b.length:Int) > 4)) (f34_j1 k a b d f g c true (f34_l1 k e)) (cond (o != 0) (cond (!c) (f34_j1 k a b d f g c true (f34_l1 k e)) (cond m (cond (h != 0) (f34_j1 k a b d f g c true (f34_l1 k e)) ((f42 k h 0 6).bind fun r=>(f34_j1 k a b d f g c (!r) (f34_l1 k e)))) ((f42 k h 0 6).bind fun s=>(f34_j1 k a b d f g c (!s) (f34_l1 k e))))) (cond m (cond (h != 0) (f34_j1 k a b d f g c true (f34_l1 k e)) ((f42 k h 0 6).bind fun t=>(f34_j1 k a b d f g c (!t) (f34_l1 k e)))) ((f42 k h 0 6).bind fun u=>(f34_j1 k a b d f g c (!u) (f34_l1 k e))))))))))
def f34_b (k:Nat):Dcounter→DProgram→Option (Dcounter × Bool):=fun e f =>
 match e,f with
 | .mk a b c,.mk d=>((f42 k (d.length:Int) 1 16).bind fun g=>(cond (!g) (some ((Dcounter.mk a b c),false)) (f34_l1 k d 0 a b c)))
def f34 (k:Nat):Dcounter→DProgram→Option (Dcounter × Bool):=f34_b k
def f26_b (k:Nat):DProgram→Bool→Option Bool:=fun b a =>
 match b,a with
 | .mk c,a=>((f34 k (Dcounter.mk 0 0 a) (DProgram.mk c)).bind fun q_=>match q_ with | (.mk e f g,d)=>(some d))
def f26 (k:Nat):DProgram→Bool→Option Bool:=f26_b k
def f46_l1 (k:Nat) (a:BA):LM→Nat→Option (Int × Bool)
 | [],b=>(some (0,false))
 | c :: d,b=>(mcase (mget seq a c) ((f46_l1 k a d) (b + 1)) (fun e=>(some (e,true))))
def f46_b (k:Nat):Dresolver→BA→Option (Int × Bool):=fun b a =>
 match b,a with
 | .mk (.mk d) (.mk e f g h i j) l c m,a=>(f46_l1 k a c 0)
def f46 (k:Nat):Dresolver→BA→Option (Int × Bool):=f46_b k
def f37_b (k:Nat):Dresolver→BA→Option (Except Int (Dresolver × Int)):=fun m a =>
 match m,a with
 | .mk (.mk d) (.mk e f g h i j) b c l,a=>((f46 k (Dresolver.mk (DProgram.mk d) (DFunc.mk e f g h i j) b c l) a).bind fun q_=>match q_ with | (p,n)=>((f25 k (!n) 21).bind fun q_=>match q_ with | .error c_=>some (.error c_) | .ok _=>(guardB (decide ((b.length + 1) * 16 ≤ 140737488355328)) ((idxO c (w64 ((c.length:Int) - 1))).bind fun o=>(some (.ok ((Dresolver.mk (DProgram.mk d) (DFunc.mk e f g h i j) (b ++ [a]) (c.set (w64 ((c.length:Int) - 1)).toNat (mput seq a (b.length:Int) o)) l),(b.length:Int))))))))
def f37 (k:Nat):Dresolver→BA→Option (Except Int (Dresolver × Int)):=f37_b k
def f38 (k:Nat):LP→Option LP:=fun a=>guardB (decide (a.length * 24 ≤ 140737488355328)) (some a)
def f1005718_b (k:Nat):DExpr→Dresolver→Option (Except Int Int):=fun a b =>
 match a,b with
 | .mk c r d s t,.mk (.mk e) (.mk f g h i j l) m n o=>(cond (c != 4) (some (.ok 0)) ((f46 k (Dresolver.mk (DProgram.mk e) (DFunc.mk f g h i j l) m n o) d).bind fun q_=>match q_ with | (p,q)=>((f25 k q 20).bind fun q_=>match q_ with | .error c_=>some (.error c_) | .ok _=>(some (.ok p)))))
def f1005718 (k:Nat):DExpr→Dresolver→Option (Except Int Int):=f1005718_b k
structure Fam1005323 where
 f1005323:LE→Dresolver→Option (Except Int LE)
 f1005923:DExpr→Dresolver→Option (Except Int DExpr)
def f1005323_l1 (k:Nat) (F:Fam1005323) (b:LF) (c:BA) (d:LP) (e:Int) (f:Bool) (g:Int) (h:LS) (i:LB) (j:LM) (l:Int):LE→Nat→LE→Option (Except Int LE)
 | [],m,a=>(some (.ok a))
 | (.mk n o p q r) :: s,m,a=>((F.f1005923 (DExpr.mk n o p q r) (Dresolver.mk (DProgram.mk b) (DFunc.mk c d e f g h) i j l)).bind fun q_=>match q_ with | .error c_=>some (.error c_) | .ok (.mk t u v w x)=>(guardB (decide ((a.length + 1) * 64 ≤ 140737488355328)) ((f1005323_l1 k F b c d e f g h i j l s) (m + 1) (a ++ [(DExpr.mk t u v w x)]))))
def f1005323_b (k:Nat) (F:Fam1005323):LE→Dresolver→Option (Except Int LE):=fun a b =>
 match a,b with
 | a,.mk (.mk c) (.mk d e f g h i) j l m=>(f1005323_l1 k F c d e f g h i j l m a 0 ([]:LE))
def f1005923_b (k:Nat) (F:Fam1005323):DExpr→Dresolver→Option (Except Int DExpr):=fun p q =>
 match p,q with
 | .mk a b c r s,.mk (.mk d) (.mk e f g h i j) l m n=>((F.f1005323 s (Dresolver.mk (DProgram.mk d) (DFunc.mk e f g h i j) l m n)).bind fun q_=>match q_ with | .error c_=>some (.error c_) | .ok o=>((f1005718 k (DExpr.mk a b c r o) (Dresolver.mk (DProgram.mk d) (DFunc.mk e f g h i j) l m n)).bind fun q_=>match q_ with | .error c_=>some (.error c_) | .ok t=>(some (.ok (DExpr.mk a b c t o)))))
def fam1005323 (k0:Nat):Nat→Fam1005323
 | 0=>{ f1005323:=fun _ _=>none,f1005923:=fun _ _=>none }
 | k + 1=>{ f1005323:=f1005323_b k0 (fam1005323 k0 k),f1005923:=f1005923_b k0 (fam1005323 k0 k) }
def f1005323 (k:Nat):LE→Dresolver→Option (Except Int LE):=(fam1005323 k k).f1005323
def f1005923 (k:Nat):DExpr→Dresolver→Option (Except Int DExpr):=(fam1005323 k k).f1005923
def f47_b (k:Nat):Dresolver→LE→Option (Except Int LE):=fun b a =>
 match b,a with
 | .mk (.mk c) (.mk d e f g h i) j l m,a=>((f1005323 k a (Dresolver.mk (DProgram.mk c) (DFunc.mk d e f g h i) j l m)).bind fun q_=>match q_ with | .error c_=>some (.error c_) | .ok n=>(some (.ok n)))
def f47 (k:Nat):Dresolver→LE→Option (Except Int LE):=f47_b k
def f1005844_b (k:Nat):DFunc→DStmt→Option Bool:=fun a b =>
 match a,b with
 | .mk c e f g h i,.mk j l m d n o p q r s t=>(some (seq c d))
def f1005844 (k:Nat):DFunc→DStmt→Option Bool:=f1005844_b k
def f1003670_l1 (k:Nat) (b:Int) (c:BA) (d:Int) (e:BA) (f:Int) (g:Int) (h:LE) (i:LS) (j:LS) (l:LS) (m:LC):LF→Nat→Option Int
 | [],a=>(some (-1))
 | (.mk n o p q r s) :: t,a=>((f1005844 k (DFunc.mk n o p q r s) (DStmt.mk b c d e f g h i j l m)).bind fun u=>(cond u (some (a:Int)) ((f1003670_l1 k b c d e f g h i j l m t) (a + 1))))
def f1003670_b (k:Nat):LF→DStmt→Option Int:=fun a b =>
 match a,b with
 | a,.mk c d e f g h i j l m n=>(f1003670_l1 k c d e f g h i j l m n a 0)
def f1003670 (k:Nat):LF→DStmt→Option Int:=f1003670_b k
def f49_b (k:Nat):Dresolver→DStmt→Option (Except Int (Dresolver × DStmt)):=fun c d =>
 match c,d with
 | .mk (.mk a) (.mk e f g h i j) l m n,.mk sA_0 sA_1 sA_2 sA_3 sA_4 sA_5 sA_6 sA_7 sA_8 sA_9 sA_10=>((f1003670 k a (DStmt.mk sA_0 sA_1 sA_2 sA_3 sA_4 sA_5 sA_6 sA_7 sA_8 sA_9 sA_10)).bind fun b=>((f25 k (decide (b ≥ 0)) 20).bind fun q_=>match q_ with | .error c_=>some (.error c_) | .ok _=>((idxO a b).bind fun q_=>match q_ with | .mk q o r p s t=>((f25 k (p == (sA_0 == 28)) 25).bind fun q_=>match q_ with | .error c_=>some (.error c_) | .ok _=>((f25 k ((o.length:Int) == (sA_6.length:Int)) 24).bind fun q_=>match q_ with | .error c_=>some (.error c_) | .ok _=>(some (.ok ((Dresolver.mk (DProgram.mk a) (DFunc.mk e f g h i j) l m n),(DStmt.mk sA_0 sA_1 sA_2 sA_3 b sA_5 sA_6 sA_7 sA_8 sA_9 sA_10)))))))))
def f49 (k:Nat):Dresolver→DStmt→Option (Except Int (Dresolver × DStmt)):=f49_b k
structure Fam39 where
 f39:Dresolver→DStmt→Option (Except Int (Dresolver × DStmt))
 f1004815:Dresolver→BA→LS→DStmt→Option (Except Int (Dresolver × DStmt × LS))
 f1004866:Dresolver→BA→LS→Option (Except Int (Dresolver × LS))
 f1004884:Dresolver→BA→LS→DCase→Option (Except Int (Dresolver × DCase × LS))
 f1005015:Dresolver→BA→LS→DStmt→Option (Except Int (Dresolver × DStmt × LS))
 f1005066:Dresolver→BA→LS→Option (Except Int (Dresolver × LS))
def f39_l1 (k:Nat) (F:Fam39) (m:Int) (n:BA) (o:Int) (p:BA) (q:Int) (r:Int) (s:LS) (t:LS) (u:LS) (v:LE):LC→Nat→LF→BA→LP→Int→Bool→Int→LS→LB→LM→Int→LC→Option (Except Int (Dresolver × DStmt))
 | [],w,a,b,c,d,e,f,g,h,i,j,l=>(some (.ok ((Dresolver.mk (DProgram.mk a) (DFunc.mk b c d e f g) h i j),(DStmt.mk m n o p q r v s t u l))))
 | (.mk z x A B y) :: C,w,a,b,c,d,e,f,g,h,i,j,l=>((f47 k (Dresolver.mk (DProgram.mk a) (DFunc.mk b c d e f g) h i j) B).bind fun q_=>match q_ with | .error c_=>some (.error c_) | .ok D=>((F.f1004884 (Dresolver.mk (DProgram.mk a) (DFunc.mk b c d e f g) h i j) x y (DCase.mk z x A D y)).bind fun q_=>match q_ with | .error c_=>some (.error c_) | .ok (.mk (.mk G) (.mk I J N O S U) V W X,.mk Y Z ab ac ae,ad)=>(guardB (decide ((l.length + 1) * 80 ≤ 140737488355328)) ((f39_l1 k F m n o p q r s t u v C) (w + 1) G I J N O S U V W X (l ++ [(DCase.mk Y Z ab ac ad)])))))
def f39_j2 (k:Nat) (F:Fam39) (a:Int) (b:BA) (c:Int) (d:BA) (e:Int) (f:Int) (g:LE) (h:LS) (i:LS) (j:LS) (l:LC) (m:LF) (n:BA) (o:LP) (p:Int) (q:Bool) (r:Int) (s:LS) (t:LB) (u:LM) (v:Int):Option (Except Int (Dresolver × DStmt)):=(some (.ok ((Dresolver.mk (DProgram.mk m) (DFunc.mk n o p q r s) t u v),(DStmt.mk a b c d e f g h i j l))))
def f39_j5 (k:Nat) (F:Fam39) (a:Int) (d:BA) (e:BA) (f:Int) (b:Int) (g:LE) (h:LS) (i:LS) (j:LS) (l:LC) (m:LF) (n:BA) (o:LP) (p:Int) (q:Bool) (r:Int) (s:LS) (t:LB) (u:LM) (c:Int) (v:Int):Option (Except Int (Dresolver × DStmt)):=(cond (a != 6) ((f25 k true 22).bind fun q_=>match q_ with | .error c_=>some (.error c_) | .ok _=>(f39_j2 k F a d v e f b g h i j l m n o p q r s t u c)) (cond (b == 0) ((f25 k true 22).bind fun q_=>match q_ with | .error c_=>some (.error c_) | .ok _=>(f39_j2 k F a d v e f b g h i j l m n o p q r s t u c)) ((f25 k (decide (c > 0)) 22).bind fun q_=>match q_ with | .error c_=>some (.error c_) | .ok _=>(f39_j2 k F a d v e f b g h i j l m n o p q r s t u c))))
def f39_j4 (k:Nat) (F:Fam39) (b:LF) (c:BA) (d:LP) (e:Int) (f:Bool) (g:Int) (h:LS) (i:LB) (j:LM) (l:Int) (m:Int) (a:BA) (v:Int) (n:BA) (o:Int) (p:Int) (q:LE) (r:LS) (s:LS) (t:LS) (u:LC) (w:Bool):Option (Except Int (Dresolver × DStmt)):=(cond w ((F.f1004866 (Dresolver.mk (DProgram.mk b) (DFunc.mk c d e f g h) i j l) ⟨#[]⟩ r).bind fun q_=>match q_ with | .error c_=>some (.error c_) | .ok (.mk (.mk x) (.mk y z A B C D) G I J,N)=>((F.f1004866 (Dresolver.mk (DProgram.mk x) (DFunc.mk y z A B C D) G I J) ⟨#[]⟩ s).bind fun q_=>match q_ with | .error c_=>some (.error c_) | .ok (.mk (.mk O) (.mk S U V W X Y) Z ab ac,ad)=>(f39_j2 k F m a v n o p q N ad t u O S U V W X Y Z ab ac))) (cond (!seq a ⟨#[]⟩) ((f37 k (Dresolver.mk (DProgram.mk b) (DFunc.mk c d e f g h) i j l) a).bind fun q_=>match q_ with | .error c_=>some (.error c_) | .ok (.mk (.mk ae) (.mk af ag ah ai aj ak) al am an,ao)=>(f39_j5 k F m a n o p q r s t u ae af ag ah ai aj ak al am an ao)) (f39_j5 k F m a n o p q r s t u b c d e f g h i j l v)))
def f39_j3 (k:Nat) (F:Fam39) (i:LF) (j:BA) (l:LP) (d:Int) (e:Bool) (m:Int) (n:LS) (o:LB) (p:LM) (f:Int) (a:Int) (b:BA) (q:Int) (r:BA) (s:Int) (t:Int) (g:LE) (c:LS) (h:LS) (u:LS) (v:LC) (w:Bool):Option (Except Int (Dresolver × DStmt)):=(cond w ((f25 k (decide (f > 0)) 22).bind fun q_=>match q_ with | .error c_=>some (.error c_) | .ok _=>(f39_j2 k F a b q r s t g c h u v i j l d e m n o p f)) (cond (a == 29) ((f25 k e 22).bind fun q_=>match q_ with | .error c_=>some (.error c_) | .ok _=>(f39_j2 k F a b q r s t g c h u v i j l d e m n o p f)) (cond (a == 17) ((f25 k ((decide ((g.length:Int) > 0)) == (d != 0)) 22).bind fun q_=>match q_ with | .error c_=>some (.error c_) | .ok _=>(f39_j2 k F a b q r s t g c h u v i j l d e m n o p f)) (cond (a == 21) ((F.f1005066 (Dresolver.mk (DProgram.mk i) (DFunc.mk j l d e m n) o p f) ⟨#[]⟩ c).bind fun q_=>match q_ with | .error c_=>some (.error c_) | .ok (.mk (.mk x) (.mk y z A B C D) G I J,N)=>(f39_j2 k F a b q r s t g N h u v x y z A B C D G I J)) (cond (a == 28) ((F.f1005015 (Dresolver.mk (DProgram.mk i) (DFunc.mk j l d e m n) o p f) b c (DStmt.mk a b q r s t g c h u v)).bind fun q_=>match q_ with | .error c_=>some (.error c_) | .ok (.mk (.mk O) (.mk S U V W X Y) Z ab ac,.mk ad ae af ag ah ai aj bz ak al am,an)=>(f39_j2 k F ad ae af ag ah ai aj an ak al am O S U V W X Y Z ab ac)) (cond (a == 25) ((F.f1004815 (Dresolver.mk (DProgram.mk i) (DFunc.mk j l d e m n) o p f) b c (DStmt.mk a b q r s t g c h u v)).bind fun q_=>match q_ with | .error c_=>some (.error c_) | .ok (.mk (.mk ao) (.mk ap aq ar au av aw) ax ay az,.mk aA aB aE aF aG aH aI bA aJ aK aL,aM)=>(f39_j2 k F aA aB aE aF aG aH aI aM aJ aK aL ao ap aq ar au av aw ax ay az)) (cond (a == 24) ((F.f1004866 (Dresolver.mk (DProgram.mk i) (DFunc.mk j l d e m n) o p f) ⟨#[]⟩ c).bind fun q_=>match q_ with | .error c_=>some (.error c_) | .ok (.mk (.mk aN) (.mk aP aQ aR aS aT aU) aV aW aX,aY)=>((F.f1004815 (Dresolver.mk (DProgram.mk aN) (DFunc.mk aP aQ aR aS aT aU) aV aW aX) b h (DStmt.mk a b q r s t g aY h u v)).bind fun q_=>match q_ with | .error c_=>some (.error c_) | .ok (.mk (.mk aZ) (.mk a0 a1 a2 a3 a4 a5) a6 a7 a8,.mk a9 ba bb bd be bf bg bh bB bi bj,bk)=>((F.f1004866 (Dresolver.mk (DProgram.mk aZ) (DFunc.mk a0 a1 a2 a3 a4 a5) a6 a7 a8) ⟨#[]⟩ bi).bind fun q_=>match q_ with | .error c_=>some (.error c_) | .ok (.mk (.mk bm) (.mk bn bo bp bq br bs) bu bv bw,bx)=>(f39_j2 k F a9 ba bb bd be bf bg bh bk bx bj bm bn bo bp bq br bs bu bv bw)))) (cond (a == 20) (f39_j4 k F i j l d e m n o p f a b q r s t g c h u v (a == 20)) (cond (a == 22) (f39_j4 k F i j l d e m n o p f a b q r s t g c h u v (a == 22)) (cond (a == 23) (f39_j4 k F i j l d e m n o p f a b q r s t g c h u v (a == 23)) (f39_j4 k F i j l d e m n o p f a b q r s t g c h u v (a == 26))))))))))))
def f39_j1 (k:Nat) (F:Fam39) (b:LF) (c:BA) (d:LP) (e:Int) (f:Bool) (g:Int) (h:LS) (i:LB) (j:LM) (l:Int) (a:Int) (m:BA) (v:Int) (n:BA) (o:Int) (p:Int) (q:LE) (r:LS) (s:LS) (t:LS) (u:LC):Option (Except Int (Dresolver × DStmt)):=(cond (a == 2) ((f46 k (Dresolver.mk (DProgram.mk b) (DFunc.mk c d e f g h) i j l) m).bind fun q_=>match q_ with | (w,x)=>((f25 k x 20).bind fun q_=>match q_ with | .error c_=>some (.error c_) | .ok _=>(f39_j2 k F a m w n o p q r s t u b c d e f g h i j l))) (cond (a == 18) (f39_j3 k F b c d e f g h i j l a m v n o p q r s t u (a == 18)) (f39_j3 k F b c d e f g h i j l a m v n o p q r s t u (a == 19))))
def f39_b (k:Nat) (F:Fam39):Dresolver→DStmt→Option (Except Int (Dresolver × DStmt)):=fun w x =>
 match w,x with
 | .mk (.mk a) (.mk b c d e f g) h i j,.mk l n o m p q y r s t u=>((f47 k (Dresolver.mk (DProgram.mk a) (DFunc.mk b c d e f g) h i j) y).bind fun q_=>match q_ with | .error c_=>some (.error c_) | .ok v=>(cond (l == 27) (f39_l1 k F l n o m p q r s t v u 0 a b c d e f g h i j ([]:LC)) (cond (!seq m ⟨#[]⟩) ((f49 k (Dresolver.mk (DProgram.mk a) (DFunc.mk b c d e f g) h i j) (DStmt.mk l n o m p q v r s t u)).bind fun q_=>match q_ with | .error c_=>some (.error c_) | .ok (.mk (.mk z) (.mk A B C D G I) J N O,.mk S U V W X Y Z ab ac ad ae)=>(f39_j1 k F z A B C D G I J N O S U V W X Y Z ab ac ad ae)) (f39_j1 k F a b c d e f g h i j l n o m p q v r s t u))))
def f1004815_l1 (k:Nat) (F:Fam39) (sA_0:Int) (sA_1:BA) (sA_3:BA) (sA_4:Int) (sA_5:Int) (sA_6:LE) (sA_7:LS) (sA_8:LS) (sA_9:LS) (sA_10:LC) (m:Int):LS→Nat→LF→BA→LP→Int→Bool→Int→LS→LB→LM→Int→LS→Option (Except Int (Dresolver × DStmt × LS))
 | [],n,c,d,e,f,g,h,i,j,a,l,b=>(guardB (decide (0 ≤ (w64 ((a.length:Int) - 1))∧(w64 ((a.length:Int) - 1)) ≤ (a.length:Int))) (some (.ok ((Dresolver.mk (DProgram.mk c) (DFunc.mk d e f g h i) j (a.take (w64 ((a.length:Int) - 1)).toNat) l),(DStmt.mk sA_0 sA_1 m sA_3 sA_4 sA_5 sA_6 sA_7 sA_8 sA_9 sA_10),b))))
 | (.mk o p q r s t u v w x y) :: z,n,c,d,e,f,g,h,i,j,a,l,b=>((F.f39 (Dresolver.mk (DProgram.mk c) (DFunc.mk d e f g h i) j a l) (DStmt.mk o p q r s t u v w x y)).bind fun q_=>match q_ with | .error c_=>some (.error c_) | .ok (.mk (.mk A) (.mk B C D G I J) N O S,.mk U V W X Y Z ab ac ad ae af)=>(guardB (decide ((b.length + 1) * 184 ≤ 140737488355328)) ((f1004815_l1 k F sA_0 sA_1 sA_3 sA_4 sA_5 sA_6 sA_7 sA_8 sA_9 sA_10 m z) (n + 1) A B C D G I J N O S (b ++ [(DStmt.mk U V W X Y Z ab ac ad ae af)]))))
def f1004815_j1 (k:Nat) (F:Fam39) (a:LS) (sA_0:Int) (sA_1:BA) (sA_3:BA) (sA_4:Int) (sA_5:Int) (sA_6:LE) (sA_7:LS) (sA_8:LS) (sA_9:LS) (sA_10:LC) (b:LF) (c:BA) (d:LP) (e:Int) (f:Bool) (g:Int) (h:LS) (i:LB) (j:LM) (l:Int) (m:Int):Option (Except Int (Dresolver × DStmt × LS)):=(f1004815_l1 k F sA_0 sA_1 sA_3 sA_4 sA_5 sA_6 sA_7 sA_8 sA_9 sA_10 m a 0 b c d e f g h i j l ([]:LS))
def f1004815_b (k:Nat) (F:Fam39):Dresolver→BA→LS→DStmt→Option (Except Int (Dresolver × DStmt × LS)):=fun n a b o =>
 match n,a,b,o with
 | .mk (.mk d) (.mk e f g h i j) l c m,a,b,.mk sA_0 sA_1 sA_2 sA_3 sA_4 sA_5 sA_6 sA_7 sA_8 sA_9 sA_10=>(guardB (decide ((c.length + 1) * 8 ≤ 140737488355328)) (cond (!seq a ⟨#[]⟩) ((f37 k (Dresolver.mk (DProgram.mk d) (DFunc.mk e f g h i j) l (c ++ [([]:List (BA × Int))]) m) a).bind fun q_=>match q_ with | .error c_=>some (.error c_) | .ok (.mk (.mk p) (.mk q r s t u v) w x y,z)=>(f1004815_j1 k F b sA_0 sA_1 sA_3 sA_4 sA_5 sA_6 sA_7 sA_8 sA_9 sA_10 p q r s t u v w x y z)) (f1004815_j1 k F b sA_0 sA_1 sA_3 sA_4 sA_5 sA_6 sA_7 sA_8 sA_9 sA_10 d e f g h i j l (c ++ [([]:List (BA × Int))]) m sA_2)))
def f1004866_l1 (k:Nat) (F:Fam39)  : LS→Nat→LF→BA→LP→Int→Bool→Int→LS→LB→LM→Int→LS→Option (Except Int (Dresolver × LS))
 | [],m,c,d,e,f,g,h,i,j,a,l,b=>(guardB (decide (0 ≤ (w64 ((a.length:Int) - 1))∧(w64 ((a.length:Int) - 1)) ≤ (a.length:Int))) (some (.ok ((Dresolver.mk (DProgram.mk c) (DFunc.mk d e f g h i) j (a.take (w64 ((a.length:Int) - 1)).toNat) l),b))))
 | (.mk n o p q r s t u v w x) :: y,m,c,d,e,f,g,h,i,j,a,l,b=>((F.f39 (Dresolver.mk (DProgram.mk c) (DFunc.mk d e f g h i) j a l) (DStmt.mk n o p q r s t u v w x)).bind fun q_=>match q_ with | .error c_=>some (.error c_) | .ok (.mk (.mk z) (.mk A B C D G I) J N O,.mk S U V W X Y Z ab ac ad ae)=>(guardB (decide ((b.length + 1) * 184 ≤ 140737488355328)) ((f1004866_l1 k F y) (m + 1) z A B C D G I J N O (b ++ [(DStmt.mk S U V W X Y Z ab ac ad ae)]))))
def f1004866_b (k:Nat) (F:Fam39):Dresolver→BA→LS→Option (Except Int (Dresolver × LS)):=fun n a b =>
 match n,a,b with
 | .mk (.mk d) (.mk e f g h i j) l c m,a,b=>(guardB (decide ((c.length + 1) * 8 ≤ 140737488355328)) (cond (!seq a ⟨#[]⟩) ((f37 k (Dresolver.mk (DProgram.mk d) (DFunc.mk e f g h i j) l (c ++ [([]:List (BA × Int))]) m) a).bind fun q_=>match q_ with | .error c_=>some (.error c_) | .ok (.mk (.mk o) (.mk p q r s t u) v w x,y)=>(none)) (f1004866_l1 k F b 0 d e f g h i j l (c ++ [([]:List (BA × Int))]) m ([]:LS))))
def f1004884_l1 (k:Nat) (F:Fam39) (sA_0:Int) (sA_1:BA) (sA_3:LE) (sA_4:LS) (m:Int):LS→Nat→LF→BA→LP→Int→Bool→Int→LS→LB→LM→Int→LS→Option (Except Int (Dresolver × DCase × LS))
 | [],n,c,d,e,f,g,h,i,j,a,l,b=>(guardB (decide (0 ≤ (w64 ((a.length:Int) - 1))∧(w64 ((a.length:Int) - 1)) ≤ (a.length:Int))) (some (.ok ((Dresolver.mk (DProgram.mk c) (DFunc.mk d e f g h i) j (a.take (w64 ((a.length:Int) - 1)).toNat) l),(DCase.mk sA_0 sA_1 m sA_3 sA_4),b))))
 | (.mk o p q r s t u v w x y) :: z,n,c,d,e,f,g,h,i,j,a,l,b=>((F.f39 (Dresolver.mk (DProgram.mk c) (DFunc.mk d e f g h i) j a l) (DStmt.mk o p q r s t u v w x y)).bind fun q_=>match q_ with | .error c_=>some (.error c_) | .ok (.mk (.mk A) (.mk B C D G I J) N O S,.mk U V W X Y Z ab ac ad ae af)=>(guardB (decide ((b.length + 1) * 184 ≤ 140737488355328)) ((f1004884_l1 k F sA_0 sA_1 sA_3 sA_4 m z) (n + 1) A B C D G I J N O S (b ++ [(DStmt.mk U V W X Y Z ab ac ad ae af)]))))
def f1004884_j1 (k:Nat) (F:Fam39) (a:LS) (sA_0:Int) (sA_1:BA) (sA_3:LE) (sA_4:LS) (b:LF) (c:BA) (d:LP) (e:Int) (f:Bool) (g:Int) (h:LS) (i:LB) (j:LM) (l:Int) (m:Int):Option (Except Int (Dresolver × DCase × LS)):=(f1004884_l1 k F sA_0 sA_1 sA_3 sA_4 m a 0 b c d e f g h i j l ([]:LS))
def f1004884_b (k:Nat) (F:Fam39):Dresolver→BA→LS→DCase→Option (Except Int (Dresolver × DCase × LS)):=fun n a b o =>
 match n,a,b,o with
 | .mk (.mk d) (.mk e f g h i j) l c m,a,b,.mk sA_0 sA_1 sA_2 sA_3 sA_4=>(guardB (decide ((c.length + 1) * 8 ≤ 140737488355328)) (cond (!seq a ⟨#[]⟩) ((f37 k (Dresolver.mk (DProgram.mk d) (DFunc.mk e f g h i j) l (c ++ [([]:List (BA × Int))]) m) a).bind fun q_=>match q_ with | .error c_=>some (.error c_) | .ok (.mk (.mk p) (.mk q r s t u v) w x y,z)=>(f1004884_j1 k F b sA_0 sA_1 sA_3 sA_4 p q r s t u v w x y z)) (f1004884_j1 k F b sA_0 sA_1 sA_3 sA_4 d e f g h i j l (c ++ [([]:List (BA × Int))]) m sA_2)))
def f1005015_b (k:Nat) (F:Fam39):Dresolver→BA→LS→DStmt→Option (Except Int (Dresolver × DStmt × LS)):=fun c a b d =>
 match c,a,b,d with
 | .mk (.mk e) (.mk f g h i j l) m n o,a,b,.mk sA_0 sA_1 sA_2 sA_3 sA_4 sA_5 sA_6 sA_7 sA_8 sA_9 sA_10=>((F.f1004815 (Dresolver.mk (DProgram.mk e) (DFunc.mk f g h i j l) m n (w64 (o + 1))) a b (DStmt.mk sA_0 sA_1 sA_2 sA_3 sA_4 sA_5 sA_6 sA_7 sA_8 sA_9 sA_10)).bind fun q_=>match q_ with | .error c_=>some (.error c_) | .ok (.mk (.mk p) (.mk q r s t u v) w x y,.mk z A B C D G I J N O S,U)=>(some (.ok ((Dresolver.mk (DProgram.mk p) (DFunc.mk q r s t u v) w x (w64 (y - 1))),(DStmt.mk z A B C D G I J N O S),U))))
def f1005066_b (k:Nat) (F:Fam39):Dresolver→BA→LS→Option (Except Int (Dresolver × LS)):=fun c a b =>
 match c,a,b with
 | .mk (.mk d) (.mk e f g h i j) l m n,a,b=>((F.f1004866 (Dresolver.mk (DProgram.mk d) (DFunc.mk e f g h i j) l m (w64 (n + 1))) a b).bind fun q_=>match q_ with | .error c_=>some (.error c_) | .ok (.mk (.mk o) (.mk p q r s t u) v w x,y)=>(some (.ok ((Dresolver.mk (DProgram.mk o) (DFunc.mk p q r s t u) v w (w64 (x - 1))),y))))
def fam39 (k0:Nat):Nat→Fam39
 | 0=>{ f39:=fun _ _=>none,f1004815:=fun _ _ _ _=>none,f1004866:=fun _ _ _=>none,f1004884:=fun _ _ _ _=>none,f1005015:=fun _ _ _ _=>none,f1005066:=fun _ _ _=>none }
 | k + 1=>{ f39:=f39_b k0 (fam39 k0 k),f1004815:=f1004815_b k0 (fam39 k0 k),f1004866:=f1004866_b k0 (fam39 k0 k),f1004884:=f1004884_b k0 (fam39 k0 k),f1005015:=f1005015_b k0 (fam39 k0 k),f1005066:=f1005066_b k0 (fam39 k0 k) }
def f39 (k:Nat):Dresolver→DStmt→Option (Except Int (Dresolver × DStmt)):=(fam39 k k).f39
def f1004815 (k:Nat):Dresolver→BA→LS→DStmt→Option (Except Int (Dresolver × DStmt × LS)):=(fam39 k k).f1004815
def f1004866 (k:Nat):Dresolver→BA→LS→Option (Except Int (Dresolver × LS)):=(fam39 k k).f1004866
def f1004884 (k:Nat):Dresolver→BA→LS→DCase→Option (Except Int (Dresolver × DCase × LS)):=(fam39 k k).f1004884
def f1005015 (k:Nat):Dresolver→BA→LS→DStmt→Option (Except Int (Dresolver × DStmt × LS)):=(fam39 k k).f1005015
def f1005066 (k:Nat):Dresolver→BA→LS→Option (Except Int (Dresolver × LS)):=(fam39 k k).f1005066
def f30_j1 (k:Nat) (a:BA) (b:LP) (c:Int) (d:Bool) (e:Int) (f:LS) (g:LB):Option (Except Int (DFunc × LB)):=(some (.ok ((DFunc.mk a b c d e f),g)))
def f30_l2 (k:Nat) (c:BA) (d:Int) (e:Bool) (f:LP):LS→Nat→LF→BA→LP→Int→Bool→Int→LS→LB→LM→Int→LS→Option (Except Int (DFunc × LB))
 | [],g,h,i,j,l,m,n,o,a,p,q,b=>((f25 k (decide ((a.length:Int) ≤ 32)) 5).bind fun q_=>match q_ with | .error c_=>some (.error c_) | .ok _=>(f30_j1 k c f d e (a.length:Int) b a))
 | (.mk r s t u v w x y z A B) :: C,g,h,i,j,l,m,n,o,a,p,q,b=>((f39 k (Dresolver.mk (DProgram.mk h) (DFunc.mk i j l m n o) a p q) (DStmt.mk r s t u v w x y z A B)).bind fun q_=>match q_ with | .error c_=>some (.error c_) | .ok (.mk (.mk D) (.mk G I J N O S) U V W,.mk X Y Z ab ac ad ae af ag ah ai)=>(guardB (decide ((b.length + 1) * 184 ≤ 140737488355328)) ((f30_l2 k c d e f C) (g + 1) D G I J N O S U V W (b ++ [(DStmt.mk X Y Z ab ac ad ae af ag ah ai)]))))
def f30_l1 (k:Nat) (l:BA) (m:LP) (n:Int) (o:Bool) (p:LS):LP→Nat→LF→BA→LP→Int→Bool→Int→LS→LB→LM→Int→Option (Except Int (DFunc × LB))
 | [],q,a,b,c,d,e,f,g,h,i,j=>((f38 k m).bind fun r=>(f30_l2 k l n o r p 0 a b c d e f g h i j ([]:LS)))
 | (.mk s G) :: t,q,a,b,c,d,e,f,g,h,i,j=>((f37 k (Dresolver.mk (DProgram.mk a) (DFunc.mk b c d e f g) h i j) s).bind fun q_=>match q_ with | .error c_=>some (.error c_) | .ok (.mk (.mk u) (.mk v w x y z A) B C D,I)=>((f30_l1 k l m n o p t) (q + 1) u v w x y z A B C D))
def f30_b (k:Nat):DProgram→DFunc→Option (Except Int (DFunc × LB)):=fun f g =>
 match f,g with
 | .mk h,.mk b a c d i e=>(f30_l1 k b a c d e a 0 h b a c d i e ([]:LB) [([]:List (BA × Int))] 0)
def f30 (k:Nat):DProgram→DFunc→Option (Except Int (DFunc × LB)):=f30_b k
def f16_l1 (k:Nat) (all:LF):LF→Nat→Option (Except Int Unit)
 | [],_=>some (.ok ())
 | f :: rest,i=>(f1002804 k (all.take i) f).bind fun b=>(f25 k (!b) 21).bind fun q=>match q with
  | .error c=>some (.error c)
  | .ok _=>f16_l1 k all rest (i + 1)
def f16_l2:LF→Int
 | []=>20
 | .mk nm ps _ fl _ _ :: rest=>cond (!(seq nm ⟨#[109,97,105,110]⟩)) (f16_l2 rest) (cond fl 25 (cond (decide ((ps.length:Int) > 0)) 24 0))
def f16_l3 (k:Nat) (p:DProgram):LF→List DFunc→List LB→Option (Except Int (DProgram × List LB))
 | [],out,names=>some (.ok (.mk out,names))
 | f :: rest,out,names=>(f30 k p f).bind fun q=>match q with
  | .error c=>some (.error c)
  | .ok (g,l)=>f16_l3 k p rest (out ++ [g]) (names ++ [l])
def f16 (k:Nat):DProgram→Option (Except Int (DProgram × (List LB))):=fun a=>match a with
 | .mk fs=>(f26 k (.mk fs) false).bind fun ok=>(f25 k ok 2).bind fun q=>match q with
  | .error c=>some (.error c)
  | .ok _=>(f16_l1 k fs fs 0).bind fun q=>match q with
   | .error c=>some (.error c)
   | .ok _=>(f25 k (decide (f16_l2 fs=0)) (f16_l2 fs)).bind fun q=>match q with
    | .error c=>some (.error c)
    | .ok _=>f16_l3 k (.mk fs) fs [] []
def f51_b (k:Nat):DExpr→Option Int:=fun a =>
 match a with
 | .mk b c d e f=>(some 0)
def f51 (k:Nat):DExpr→Option Int:=f51_b k
structure Fam1005331 where
 f1005331:LE→Option LE
 f1005931:DExpr→Option DExpr
def f1005331_l1 (k:Nat) (F:Fam1005331)  : LE→Nat→LE→Option LE
 | [],b,a=>(some a)
 | (.mk c d e f g) :: h,b,a=>((F.f1005931 (DExpr.mk c d e f g)).bind fun q_=>match q_ with | .mk i j l m n=>(guardB (decide ((a.length + 1) * 64 ≤ 140737488355328)) ((f1005331_l1 k F h) (b + 1) (a ++ [(DExpr.mk i j l m n)]))))
def f1005331_b (k:Nat) (F:Fam1005331):LE→Option LE:=fun a=>(f1005331_l1 k F a 0 ([]:LE))
def f1005931_b (k:Nat) (F:Fam1005331):DExpr→Option DExpr:=fun e =>
 match e with
 | .mk a b c f g=>((F.f1005331 g).bind fun d=>((f51 k (DExpr.mk a b c f d)).bind fun h=>(some (DExpr.mk a b c h d))))
def fam1005331 (k0:Nat):Nat→Fam1005331
 | 0=>{ f1005331:=fun _=>none,f1005931:=fun _=>none }
 | k + 1=>{ f1005331:=f1005331_b k0 (fam1005331 k0 k),f1005931:=f1005931_b k0 (fam1005331 k0 k) }
def f1005331 (k:Nat):LE→Option LE:=(fam1005331 k k).f1005331
def f1005931 (k:Nat):DExpr→Option DExpr:=(fam1005331 k k).f1005931
def f52_b (k:Nat):DExpr→Option Int:=fun a =>
 match a with
 | .mk c d e b f=>(some b)
def f52 (k:Nat):DExpr→Option Int:=f52_b k
structure Fam1005362 where
 f1005362:LE→Option LE
 f1005962:DExpr→Option DExpr
def f1005362_l1 (k:Nat) (F:Fam1005362)  : LE→Nat→LE→Option LE
 | [],b,a=>(some a)
 | (.mk c d e f g) :: h,b,a=>((F.f1005962 (DExpr.mk c d e f g)).bind fun q_=>match q_ with | .mk i j l m n=>(guardB (decide ((a.length + 1) * 64 ≤ 140737488355328)) ((f1005362_l1 k F h) (b + 1) (a ++ [(DExpr.mk i j l m n)]))))
def f1005362_b (k:Nat) (F:Fam1005362):LE→Option LE:=fun a=>(f1005362_l1 k F a 0 ([]:LE))
def f1005962_b (k:Nat) (F:Fam1005362):DExpr→Option DExpr:=fun e =>
 match e with
 | .mk a b c f g=>((F.f1005362 g).bind fun d=>((f52 k (DExpr.mk a b c f d)).bind fun h=>(some (DExpr.mk a b c h d))))
def fam1005362 (k0:Nat):Nat→Fam1005362
 | 0=>{ f1005362:=fun _=>none,f1005962:=fun _=>none }
 | k + 1=>{ f1005362:=f1005362_b k0 (fam1005362 k0 k),f1005962:=f1005962_b k0 (fam1005362 k0 k) }
def f1005362 (k:Nat):LE→Option LE:=(fam1005362 k k).f1005362
def f1005962 (k:Nat):DExpr→Option DExpr:=(fam1005362 k k).f1005962
structure Fam40 where
 f40:LS→Bool→Option LS
def f40_j2 (k:Nat) (F:Fam40) (b:Bool) (a:LC) (c:Nat) (d:Int) (e:BA) (f:LE) (g:LS) (h:Int) (nx2:Nat→LC→Option LS):Option LS:=((f1005362 k f).bind fun i=>((F.f40 g b).bind fun j=>(guardB (decide ((a.length + 1) * 80 ≤ 140737488355328)) (nx2 (c + 1) (a ++ [(DCase.mk d e h i j)])))))
def f40_l2 (k:Nat) (F:Fam40) (a:Bool) (b:LS) (d:Nat) (e:Int) (f:BA) (g:BA) (h:Int) (i:Int) (j:Int) (l:LE) (m:LS) (n:LS) (o:LS) (nx1:Nat→LS→Option LS):LC→Nat→LC→Option LS
 | [],p,c=>(guardB (decide ((b.length + 1) * 184 ≤ 140737488355328)) (nx1 (d + 1) (b ++ [(DStmt.mk e f i g j h l m n o c)])))
 | (.mk q r v s t) :: u,p,c=>(cond (!a) (f40_j2 k F a c p q r s t 0 (f40_l2 k F a b d e f g h i j l m n o nx1 u)) (f40_j2 k F a c p q r s t v (f40_l2 k F a b d e f g h i j l m n o nx1 u)))
def f40_j1 (k:Nat) (F:Fam40) (a:Bool) (b:LS) (c:Nat) (d:Int) (e:BA) (f:BA) (g:Int) (h:LE) (i:LS) (j:LS) (l:LS) (m:LC) (n:Int) (o:Int) (nx1:Nat→LS→Option LS):Option LS:=((f1005362 k h).bind fun p=>((F.f40 i a).bind fun q=>((F.f40 j a).bind fun r=>((F.f40 l a).bind fun s=>(f40_l2 k F a b c d e f g n o p q r s nx1 m 0 ([]:LC))))))
def f40_l1 (k:Nat) (F:Fam40) (a:Bool):LS→Nat→LS→Option LS
 | [],c,b=>(some b)
 | (.mk d e o f p g h i j l m) :: n,c,b=>(cond (!a) (f40_j1 k F a b c d e f g h i j l m 0 0 (f40_l1 k F a n)) (f40_j1 k F a b c d e f g h i j l m o p (f40_l1 k F a n)))
def f40_j4 (k:Nat) (F:Fam40) (b:Bool) (a:LC) (c:Nat) (d:Int) (e:BA) (f:LE) (g:LS) (h:Int) (nx4:Nat→LC→Option LS):Option LS:=((f1005331 k f).bind fun i=>((F.f40 g b).bind fun j=>(guardB (decide ((a.length + 1) * 80 ≤ 140737488355328)) (nx4 (c + 1) (a ++ [(DCase.mk d e h i j)])))))
def f40_l4 (k:Nat) (F:Fam40) (a:Bool) (b:LS) (d:Nat) (e:Int) (f:BA) (g:BA) (h:Int) (i:Int) (j:Int) (l:LE) (m:LS) (n:LS) (o:LS) (nx3:Nat→LS→Option LS):LC→Nat→LC→Option LS
 | [],p,c=>(guardB (decide ((b.length + 1) * 184 ≤ 140737488355328)) (nx3 (d + 1) (b ++ [(DStmt.mk e f i g j h l m n o c)])))
 | (.mk q r v s t) :: u,p,c=>(cond (!a) (f40_j4 k F a c p q r s t 0 (f40_l4 k F a b d e f g h i j l m n o nx3 u)) (f40_j4 k F a c p q r s t v (f40_l4 k F a b d e f g h i j l m n o nx3 u)))
def f40_j3 (k:Nat) (F:Fam40) (a:Bool) (b:LS) (c:Nat) (d:Int) (e:BA) (f:BA) (g:Int) (h:LE) (i:LS) (j:LS) (l:LS) (m:LC) (n:Int) (o:Int) (nx3:Nat→LS→Option LS):Option LS:=((f1005331 k h).bind fun p=>((F.f40 i a).bind fun q=>((F.f40 j a).bind fun r=>((F.f40 l a).bind fun s=>(f40_l4 k F a b c d e f g n o p q r s nx3 m 0 ([]:LC))))))
def f40_l3 (k:Nat) (F:Fam40) (a:Bool):LS→Nat→LS→Option LS
 | [],c,b=>(some b)
 | (.mk d e o f p g h i j l m) :: n,c,b=>(cond (!a) (f40_j3 k F a b c d e f g h i j l m 0 0 (f40_l3 k F a n)) (f40_j3 k F a b c d e f g h i j l m o p (f40_l3 k F a n)))
def f40_b (k:Nat) (F:Fam40):LS→Bool→Option LS:=fun b a=>(cond a (f40_l1 k F a b 0 ([]:LS)) (f40_l3 k F a b 0 ([]:LS)))
def fam40 (k0:Nat):Nat→Fam40
 | 0=>{ f40:=fun _ _=>none }
 | k + 1=>{ f40:=f40_b k0 (fam40 k0 k) }
def f40 (k:Nat):LS→Bool→Option LS:=(fam40 k k).f40
def f31_j1 (k:Nat) (b:Bool) (a:LF) (c:Nat) (d:BA) (e:LP) (f:Int) (g:Bool) (h:LS) (i:Int) (nx1:Nat→LF→Option DProgram):Option DProgram:=((f38 k e).bind fun j=>((f40 k h b).bind fun l=>(guardB (decide ((a.length + 1) * 88 ≤ 140737488355328)) (nx1 (c + 1) (a ++ [(DFunc.mk d j f g i l)])))))
def f31_l1 (k:Nat) (a:Bool):LF→Nat→LF→Option DProgram
 | [],c,b=>(some (DProgram.mk b))
 | (.mk d e f g j h) :: i,c,b=>(cond (!a) (f31_j1 k a b c d e f g h 0 (f31_l1 k a i)) (f31_j1 k a b c d e f g h j (f31_l1 k a i)))
def f31_b (k:Nat):DProgram→Bool→Option DProgram:=fun b a =>
 match b,a with
 | .mk c,a=>(f31_l1 k a c 0 ([]:LF))
def f31 (k:Nat):DProgram→Bool→Option DProgram:=f31_b k
def f18_b (k:Nat):DProgram→Option (Except Int DProgram):=fun b =>
 match b with
 | .mk a=>((f26 k (DProgram.mk a) true).bind fun c=>((f25 k c 2).bind fun q_=>match q_ with | .error c_=>some (.error c_) | .ok _=>((f31 k (DProgram.mk a) false).bind fun q_=>match q_ with | .mk d=>(some (.ok (DProgram.mk d))))))
def f18 (k:Nat):DProgram→Option (Except Int DProgram):=f18_b k
def f22_j2 (k:Nat) (a:LF) (b:LB):Option (Except Int (DProgram × LB)):=(some (.ok ((DProgram.mk a),b)))
def f22_j1 (k:Nat) (a:Int) (b:LF) (c:(List LB)):Option (Except Int (DProgram × LB)):=((idxO c a).bind fun d=>(f22_j2 k b d))
def f22_b (k:Nat):DProgram→Int→Option (Except Int (DProgram × LB)):=fun d a =>
 match d,a with
 | .mk e,a=>((f18 k (DProgram.mk e)).bind fun q_=>match q_ with | .error c_=>some (.error c_) | .ok (.mk b)=>((f16 k (DProgram.mk b)).bind fun q_=>match q_ with | .error c_=>some (.error c_) | .ok (.mk f,c)=>(cond (decide (a ≥ 0)) ((f25 k (decide (a < (c.length:Int))) 2).bind fun q_=>match q_ with | .error c_=>some (.error c_) | .ok _=>(f22_j1 k a b c)) ((f25 k false 2).bind fun q_=>match q_ with | .error c_=>some (.error c_) | .ok _=>(f22_j1 k a b c)))))
def f22 (k:Nat):DProgram→Int→Option (Except Int (DProgram × LB)):=f22_b k
def f1002138_b (k:Nat):DProgram→Int→LB→Option (Except Int (DProgram × Int × LB)):=fun b c d =>
 match b,c,d with
 | .mk a,sA,sB=>((f22 k (DProgram.mk a) sA).bind fun q_=>match q_ with | .error c_=>some (.error c_) | .ok (.mk f,e)=>(some (.ok ((DProgram.mk a),sA,e))))
def f1002138 (k:Nat):DProgram→Int→LB→Option (Except Int (DProgram × Int × LB)):=f1002138_b k
def f1001452 (k:Nat):DProgram→Int→LB→Option (DProgram × Int × LB × Int):=fun a b d=>match f1002138 k a b d with
 | none=>none
 | some (.ok (y0,y1,y2))=>some (y0,y1,y2,0)
 | some (.error c)=>some (a,b,d,c)
def f11_b (k:Nat):DProgram→Int→Option (LB × Int):=fun b a =>
 match b,a with
 | .mk c,a=>((f1001452 k (DProgram.mk c) a []).bind fun q_=>match q_ with | (.mk f,g,d,e)=>(some (d,e)))
def f11 (k:Nat):DProgram→Int→Option (LB × Int):=f11_b k
structure Fam33 where
 f33:LE→Int→Option Int
def f33_j1 (k:Nat) (F:Fam33) (a:Int):Option Int:=(some a)
def f33_l1 (k:Nat) (F:Fam33) (b:Int):LE→Nat→Int→Option Int
 | [],c,a=>(f33_j1 k F a)
 | (.mk g h i j d) :: e,c,a=>(cond (decide (a ≤ 2000)) ((F.f33 d (w64 (b + 1))).bind fun f=>((f33_l1 k F b e) (c + 1) (w64 ((w64 (a + 1)) + f)))) (f33_j1 k F a))
def f33_b (k:Nat) (F:Fam33):LE→Int→Option Int:=fun b a=>(cond (decide (a > 60)) (some 4000) (f33_l1 k F a b 0 0))
def fam33 (k0:Nat):Nat→Fam33
 | 0=>{ f33:=fun _ _=>none }
 | k + 1=>{ f33:=f33_b k0 (fam33 k0 k) }
def f33 (k:Nat):LE→Int→Option Int:=(fam33 k k).f33
structure Fam23 where
 f23:LS→Int→Option Int
def f23_j1 (k:Nat) (F:Fam23) (a:Int):Option Int:=(some a)
def f23_j2 (k:Nat) (F:Fam23) (a:Nat) (b:Int) (nx1:Nat→Int→Option Int):Option Int:=(nx1 (a + 1) b)
def f23_l2 (k:Nat) (F:Fam23) (b:Int) (c:Nat) (nx1:Nat→Int→Option Int):LC→Nat→Int→Option Int
 | [],d,a=>(f23_j2 k F c a nx1)
 | (.mk j l m e f) :: g,d,a=>(cond (decide (a ≤ 2000)) ((f33 k e (w64 (b + 1))).bind fun h=>((F.f23 f (w64 (b + 1))).bind fun i=>((f23_l2 k F b c nx1 g) (d + 1) (w64 ((w64 ((w64 (a + 1)) + h)) + i))))) (f23_j2 k F c a nx1))
def f23_l1 (k:Nat) (F:Fam23) (a:Int):LS→Nat→Int→Option Int
 | [],c,b=>(f23_j1 k F b)
 | (.mk o p q r s t d e f g h) :: i,c,b=>(cond (decide (b ≤ 2000)) ((f33 k d (w64 (a + 1))).bind fun j=>((F.f23 e (w64 (a + 1))).bind fun l=>((F.f23 f (w64 (a + 1))).bind fun m=>((F.f23 g (w64 (a + 1))).bind fun n=>(f23_l2 k F a c (f23_l1 k F a i) h 0 (w64 ((w64 ((w64 ((w64 ((w64 (b + 1)) + j)) + l)) + m)) + n))))))) (f23_j1 k F b))
def f23_b (k:Nat) (F:Fam23):LS→Int→Option Int:=fun b a=>(cond (decide (a > 40)) (some 4000) (f23_l1 k F a b 0 0))
def fam23 (k0:Nat):Nat→Fam23
 | 0=>{ f23:=fun _ _=>none }
 | k + 1=>{ f23:=f23_b k0 (fam23 k0 k) }
def f23 (k:Nat):LS→Int→Option Int:=(fam23 k k).f23
def f12_j1 (k:Nat) (a:Int):Option Bool:=(some (decide (a ≤ 2000)))
def f12_l1 (k:Nat)  : LF→Nat→Int→Option Bool
 | [],b,a=>(f12_j1 k a)
 | (.mk f g h i j c) :: d,b,a=>(cond (decide (a ≤ 2000)) ((f23 k c 0).bind fun e=>((f12_l1 k d) (b + 1) (w64 ((w64 (a + 1)) + e)))) (f12_j1 k a))
def f12_b (k:Nat):DProgram→Option Bool:=fun a =>
 match a with
 | .mk b=>(f12_l1 k b 0 0)
def f12 (k:Nat):DProgram→Option Bool:=f12_b k
def f5_b (k:Nat):DProgram→Option Bool:=fun a =>
 match a with
 | .mk b=>((f12 k (DProgram.mk b)).bind fun c=>(some c))
def f5 (k:Nat):DProgram→Option Bool:=f5_b k
def f1001504_b (k:Nat):DProgram→DProgram→Option (Except Int (DProgram × DProgram)):=fun b c =>
 match b,c with
 | .mk a,.mk sA_0=>((f16 k (DProgram.mk a)).bind fun q_=>match q_ with | .error c_=>some (.error c_) | .ok (.mk d,e)=>(some (.ok ((DProgram.mk a),(DProgram.mk d)))))
def f1001504 (k:Nat):DProgram→DProgram→Option (Except Int (DProgram × DProgram)):=f1001504_b k
def f1001447 (k:Nat):DProgram→DProgram→Option (DProgram × DProgram × Int):=fun a b=>match f1001504 k a b with
 | none=>none
 | some (.ok (y0,y1))=>some (y0,y1,0)
 | some (.error c)=>some (a,b,c)
def f7_b (k:Nat):DProgram→Option (DProgram × Int):=fun a =>
 match a with
 | .mk b=>((f1001447 k (DProgram.mk b) (DProgram.mk [])).bind fun q_=>match q_ with | (.mk e,.mk c,d)=>(some ((DProgram.mk c),d)))
def f7 (k:Nat):DProgram→Option (DProgram × Int):=f7_b k
def sampleP (nm:BA):DProgram:=.mk [.mk ⟨#[109,97,105,110]⟩ [] 0 false 0 [(.mk 1 ⟨#[120]⟩ 0 ⟨#[]⟩ 0 0 [(.mk 1 1 ⟨#[]⟩ 0 [])] [] [] [] []),(.mk 20 ⟨#[]⟩ 0 ⟨#[]⟩ 0 0 [(.mk 2 1 ⟨#[]⟩ 0 [])] [(.mk 1 nm 0 ⟨#[]⟩ 0 0 [(.mk 4 0 ⟨#[120]⟩ 0 [])] [] [] [] [])] [] [] []),(.mk 1 ⟨#[121]⟩ 0 ⟨#[]⟩ 0 0 [(.mk 1 2 ⟨#[]⟩ 0 [])] [] [] [] [])]]
def chk6:DProgram→Bool
 | .mk [.mk _ _ _ _ v [_,.mk _ _ _ _ _ _ _ [.mk _ _ i _ _ _ _ _ _ _ _] _ _ _,.mk _ _ j _ _ _ _ _ _ _ _]]=>v == 3 && i == 1 && j == 2
 | _=>false
def f6 (k:Nat):Option Bool:=(f7 k (sampleP ⟨#[121]⟩)).bind fun a=>(f7 k (sampleP ⟨#[120]⟩)).bind fun b =>
 match a,b with
 | (q,e),(_,e')=>cond (chk6 q && e == 0 && e' == 21) (some true) none
def f4_l3 (k:Nat) (b:Nat) (c:LB) (nx1:Nat→Option Bool):LP→Nat→Option Bool
 | [],a=>(nx1 (b + 1))
 | (.mk d g) :: e,a=>((idxO c (a:Int)).bind fun f=>(cond (!seq f d) (some false) ((f4_l3 k b c nx1 e) (a + 1))))
def f4_l2 (k:Nat) (c:Nat) (a:LP) (d:LB) (nx1:Nat→Option Bool):List Int→Nat→Option Bool
 | [],b=>(f4_l3 k c d nx1 a 0)
 | e :: f,b=>(cond (e != (w64 ((a.length:Int) + (b:Int)))) (some false) ((f4_l2 k c a d nx1 f) (b + 1)))
def f4_j1 (k:Nat) (a:Nat) (b:LP) (c:(List Int)) (d:LB) (e:Bool) (nx1:Nat→Option Bool):Option Bool:=(cond e (some false) (f4_l2 k a b d nx1 c 0))
def f4_l1 (k:Nat) (b:LF):LF→Nat→Option Bool
 | [],a=>((f6 k ).bind fun h=>(some h))
 | (.mk m c n o g i) :: f,a=>((f10 k i g).bind fun q_=>match q_ with | (d,j)=>((f11 k (DProgram.mk b) (a:Int)).bind fun q_=>match q_ with | (e,l)=>(cond (!j) (f4_j1 k a c d e true (f4_l1 k b f)) (cond (l != 0) (f4_j1 k a c d e true (f4_l1 k b f)) (cond ((e.length:Int) != g) (f4_j1 k a c d e true (f4_l1 k b f)) (cond ((w64 ((c.length:Int) + (d.length:Int))) != g) (f4_j1 k a c d e true (f4_l1 k b f)) (f4_j1 k a c d e (decide (g > 32)) (f4_l1 k b f))))))))
def f4_b (k:Nat):DProgram→Option Bool:=fun c =>
 match c with
 | .mk a=>((f5 k (DProgram.mk a)).bind fun d=>(cond (!d) ((f6 k ).bind fun e=>(some e)) ((f7 k (DProgram.mk a)).bind fun q_=>match q_ with | (.mk b,f)=>(cond (f != 0) ((f6 k ).bind fun g=>(some g)) (f4_l1 k b b 0)))))
def f4 (k:Nat):DProgram→Option Bool:=f4_b k
def f20_spec (X:LE→Int→Option Bool):Prop:=∀ {K w a b c d e},X a d=some e→GK K→tE K b c a→ SR K K w w [] []→Calls Tryd.prog 20 #[sl b a c,iI d] w (Ret (fun v_ w_=>∃ K_,v_=.bool e∧SR K K_ w w_ [] []))
def f10_spec (X:LS→Int→Option ((List Int) × Bool)):Prop:=∀ {K w a c d e b f},X a e=some (b,f)→GK K→tS K c d a→ SR K K w w [] []→Calls Tryd.prog 10 #[sl c a d,iI e] w (Ret (fun v_ w_=>∃ K_ Ar0 cr0,v_=.tuple #[sl Ar0 b cr0,.bool f]∧SR K K_ w w_ [] []∧RSl Int (RInt .i64) 1 8 K_ Ar0 cr0 b))
def f1002949_spec (X:DFunc→DFunc→Option Bool):Prop:=∀ {K w l m g bs a b d e f h i c j k n},X l (DFunc.mk a b f h i c)=some n→GK K→RDFunc K l m→a.size ≤ mB→tP K d e b→tS K j k c→ SR K K w w [.box bs g (vF a d b e f h i j c k).toArray 34] [.box bs g (vF a d b e f h i j c k).toArray 34]→Calls Tryd.prog 29 #[.agg m.toArray,.pointer (some ⟨g,0,none⟩)] w (Ret (fun v_ w_=>∃ K_,v_=.bool n∧SR K K_ w w_ [.box bs g (vF a d b e f h i j c k).toArray 34] [.box bs g (vF a d b e f h i j c k).toArray 34]))
def f1003604_spec (X:LF→DFunc→Option Int):Prop:=∀ {K w l m n g bs a b d e f h i c j k o},X l (DFunc.mk a b f h i c)=some o→GK K→tF K m n l→a.size ≤ mB→tP K d e b→tS K j k c→ SR K K w w [.box bs g (vF a d b e f h i j c k).toArray 34] [.box bs g (vF a d b e f h i j c k).toArray 34]→Calls Tryd.prog 36 #[sl m l n,.func (.func 29) #[] #[.pointer (some ⟨g,0,none⟩)]] w (Ret (fun v_ w_=>∃ K_,v_=iI o∧SR K K_ w w_ [.box bs g (vF a d b e f h i j c k).toArray 34] [.box bs g (vF a d b e f h i j c k).toArray 34]))
def f1002804_spec (X:LF→DFunc→Option Bool):Prop:=∀ {K w l m n g bs a b d e f h i c j k o},X l (DFunc.mk a b f h i c)=some o→GK K→tF K m n l→a.size ≤ mB→tP K d e b→tS K j k c→ SR K K w w [.box bs g (vF a d b e f h i j c k).toArray 34] [.box bs g (vF a d b e f h i j c k).toArray 34]→Calls Tryd.prog 28 #[sl m l n,.func (.func 29) #[] #[.pointer (some ⟨g,0,none⟩)]] w (Ret (fun v_ w_=>∃ K_,v_=.bool o∧SR K K_ w w_ [.box bs g (vF a d b e f h i j c k).toArray 34] [.box bs g (vF a d b e f h i j c k).toArray 34]))
def f25_spec (X:Bool→Int→Option (Except Int Unit)):Prop:=∀ {K w a b res_},X a b=some res_→GK K→ SR K K w w [] []→Calls Tryd.prog 25 #[.bool a,iI b] w (RetP (fun v_ w_=>∃ K_,res_=.ok ()∧v_=.tuple #[]∧SR K K_ w w_ [] []) (fun v_ w_=>∃ c_ K_,res_=.error c_∧v_=.iface 63 (.agg #[iI c_])∧SR K K_ w w_ [] []))
def f42_spec (X:Int→Int→Int→Option Bool):Prop:=∀ {K w a b c d},X a b c=some d→GK K→ SR K K w w [] []→Calls Tryd.prog 42 #[iI a,iI b,iI c] w (Ret (fun v_ w_=>∃ K_,v_=.bool d∧SR K K_ w w_ [] []))
def f43_spec (X:Dcounter→Int→Option (Dcounter × Bool)):Prop:=∀ {K w g bs a b c d e f h i},X (Dcounter.mk a b c) d=some ((Dcounter.mk e f h),i)→GK K→ SR K K w w [.box bs g #[iI a,iI b,.bool c] 77] [.box bs g #[iI a,iI b,.bool c] 77]→Calls Tryd.prog 43 #[.pointer (some ⟨g,0,none⟩),iI d] w (Ret (fun v_ w_=>∃ K_,v_=.bool i∧SR K K_ w w_ [.box bs g #[iI a,iI b,.bool c] 77] [.box bs g #[iI e,iI f,.bool h] 77]))
def f60_spec (X:Int→Option Bool):Prop:=∀ {K w a b},X a=some b→GK K→ SR K K w w [] []→Calls Tryd.prog 60 #[.int .u8 a] w (Ret (fun v_ w_=>∃ K_,v_=.bool b∧SR K K_ w w_ [] []))
def f61_spec (X:Int→Option Bool):Prop:=∀ {K w a b},X a=some b→GK K→ SR K K w w [] []→Calls Tryd.prog 61 #[.int .u8 a] w (Ret (fun v_ w_=>∃ K_,v_=.bool b∧SR K K_ w w_ [] []))
def f54_spec (X:BA→Option Bool):Prop:=∀ {K w a b},X a=some b→GK K→a.size ≤ mB→ SR K K w w [] []→Calls Tryd.prog 54 #[.string a] w (Ret (fun v_ w_=>∃ K_,v_=.bool b∧SR K K_ w w_ [] []))
def f68_spec (X:LB→BA→Option Int):Prop:=∀ {K w a c d b e},X a b=some e→GK K→RSl BA RStr 1 16 K c d a→b.size ≤ mB→ SR K K w w [] []→Calls Tryd.prog 68 #[sl c a d,.string b] w (Ret (fun v_ w_=>∃ K_,v_=iI e∧SR K K_ w w_ [] []))
def f62_spec (X:LB→BA→Option Bool):Prop:=∀ {K w a c d b e},X a b=some e→GK K→RSl BA RStr 1 16 K c d a→b.size ≤ mB→ SR K K w w [] []→Calls Tryd.prog 62 #[sl c a d,.string b] w (Ret (fun v_ w_=>∃ K_,v_=.bool e∧SR K K_ w w_ [] []))
def f63_spec (X:Option LB):Prop:=∀ {K w a},X =some a→GK K→ SR K K w w [] []→Calls Tryd.prog 63 #[] w (Ret (fun v_ w_=>∃ K_ Ar0 cr0,v_=sl Ar0 a cr0∧SR K K_ w w_ [] []∧RSl BA RStr 1 16 K_ Ar0 cr0 a))
def f55_spec (X:BA→Option Bool):Prop:=∀ {K w a b},X a=some b→GK K→a.size ≤ mB→ SR K K w w [] []→Calls Tryd.prog 55 #[.string a] w (Ret (fun v_ w_=>∃ K_,v_=.bool b∧SR K K_ w w_ [] []))
def f44_spec (X:BA→Option Bool):Prop:=∀ {K w a b},X a=some b→GK K→a.size ≤ mB→ SR K K w w [] []→Calls Tryd.prog 44 #[.string a] w (Ret (fun v_ w_=>∃ K_,v_=.bool b∧SR K K_ w w_ [] []))
def f64_spec (X:Option (List (Int × Dshape))):Prop:=∀ {K w a},X =some a→GK K→ SR K K w w [] []→Calls Tryd.prog 64 #[] w (Ret (fun v_ w_=>∃ K_ br0 er0 cr0,v_=.map (some br0)∧SR K K_ w w_ [] [.mp (zz w) br0 er0 cr0]∧MapR kI (VAgg (RDshape K_)) a er0.toList))
def f65_spec (X:DStmt→Option Bool):Prop:=∀ {K w a b c},X a=some c→GK K→RDStmt K a b→ SR K K w w [] []→Calls Tryd.prog 65 #[.agg b.toArray] w (Ret (fun v_ w_=>∃ K_,v_=.bool c∧SR K K_ w w_ [] []))
def f78_spec (X:BA→Option Bool):Prop:=∀ {K w a b},X a=some b→GK K→a.size ≤ mB→ SR K K w w [] []→Calls Tryd.prog 78 #[.string a] w (Ret (fun v_ w_=>∃ K_,v_=.bool b∧SR K K_ w w_ [] []))
def f73_spec (X:BA→Option Bool):Prop:=∀ {K w a b},X a=some b→GK K→a.size ≤ mB→ SR K K w w [] []→Calls Tryd.prog 73 #[.string a] w (Ret (fun v_ w_=>∃ K_,v_=.bool b∧SR K K_ w w_ [] []))
def f67_spec (X:Dcounter→LE→Int→Option (Dcounter × Bool)):Prop:=∀ {K w g bs a b c d e f h i j k l},X (Dcounter.mk a b c) d h=some ((Dcounter.mk i j k),l)→GK K→tE K e f d→ SR K K w w [.box bs g #[iI a,iI b,.bool c] 77] [.box bs g #[iI a,iI b,.bool c] 77]→Calls Tryd.prog 67 #[.pointer (some ⟨g,0,none⟩),sl e d f,iI h] w (Ret (fun v_ w_=>∃ K_,v_=.bool l∧SR K K_ w w_ [.box bs g #[iI a,iI b,.bool c] 77] [.box bs g #[iI i,iI j,.bool k] 77]))
def f70_spec (X:Dcounter→DExpr→Int→Option (Dcounter × Bool)):Prop:=∀ {K w g bs a b c d e f h i j k},X (Dcounter.mk a b c) d f=some ((Dcounter.mk h i j),k)→GK K→RDExpr K d e→ SR K K w w [.box bs g #[iI a,iI b,.bool c] 77] [.box bs g #[iI a,iI b,.bool c] 77]→Calls Tryd.prog 70 #[.pointer (some ⟨g,0,none⟩),.agg e.toArray,iI f] w (Ret (fun v_ w_=>∃ K_,v_=.bool k∧SR K K_ w w_ [.box bs g #[iI a,iI b,.bool c] 77] [.box bs g #[iI h,iI i,.bool j] 77]))
def f45_spec (X:Dcounter→LS→Int→Option (Dcounter × Bool)):Prop:=∀ {K w g bs a b c d e f h i j k l},X (Dcounter.mk a b c) d h=some ((Dcounter.mk i j k),l)→GK K→tS K e f d→ SR K K w w [.box bs g #[iI a,iI b,.bool c] 77] [.box bs g #[iI a,iI b,.bool c] 77]→Calls Tryd.prog 45 #[.pointer (some ⟨g,0,none⟩),sl e d f,iI h] w (Ret (fun v_ w_=>∃ K_,v_=.bool l∧SR K K_ w w_ [.box bs g #[iI a,iI b,.bool c] 77] [.box bs g #[iI i,iI j,.bool k] 77]))
def f56_spec (X:Dcounter→DStmt→Int→Option (Dcounter × Bool)):Prop:=∀ {K w g bs a b c d e f h i j k},X (Dcounter.mk a b c) d f=some ((Dcounter.mk h i j),k)→GK K→RDStmt K d e→ SR K K w w [.box bs g #[iI a,iI b,.bool c] 77] [.box bs g #[iI a,iI b,.bool c] 77]→Calls Tryd.prog 56 #[.pointer (some ⟨g,0,none⟩),.agg e.toArray,iI f] w (Ret (fun v_ w_=>∃ K_,v_=.bool k∧SR K K_ w w_ [.box bs g #[iI a,iI b,.bool c] 77] [.box bs g #[iI h,iI i,.bool j] 77]))
def f66_spec (X:Dcounter→DCase→Int→Option (Dcounter × Bool)):Prop:=∀ {K w g bs a b c d e f h i j k},X (Dcounter.mk a b c) d f=some ((Dcounter.mk h i j),k)→GK K→RDCase K d e→ SR K K w w [.box bs g #[iI a,iI b,.bool c] 77] [.box bs g #[iI a,iI b,.bool c] 77]→Calls Tryd.prog 66 #[.pointer (some ⟨g,0,none⟩),.agg e.toArray,iI f] w (Ret (fun v_ w_=>∃ K_,v_=.bool k∧SR K K_ w w_ [.box bs g #[iI a,iI b,.bool c] 77] [.box bs g #[iI h,iI i,.bool j] 77]))
def f34_spec (X:Dcounter→DProgram→Option (Dcounter × Bool)):Prop:=∀ {K w g bs a b c d e f h i j},X (Dcounter.mk a b c) d=some ((Dcounter.mk f h i),j)→GK K→RDProgram K d e→ SR K K w w [.box bs g #[iI a,iI b,.bool c] 77] [.box bs g #[iI a,iI b,.bool c] 77]→Calls Tryd.prog 34 #[.pointer (some ⟨g,0,none⟩),.agg e.toArray] w (Ret (fun v_ w_=>∃ K_,v_=.bool j∧SR K K_ w w_ [.box bs g #[iI a,iI b,.bool c] 77] [.box bs g #[iI f,iI h,.bool i] 77]))
def f26_spec (X:DProgram→Bool→Option Bool):Prop:=∀ {K w a b c d},X a c=some d→GK K→RDProgram K a b→ SR K K w w [] []→Calls Tryd.prog 26 #[.agg b.toArray,.bool c] w (Ret (fun v_ w_=>∃ K_,v_=.bool d∧SR K K_ w w_ [] []))
def f46_spec (X:Dresolver→BA→Option (Int × Bool)):Prop:=∀ {K w g bs br h l m i j n o p q r k s t a c d u b e f v x y z A},X (Dresolver.mk (DProgram.mk h) (DFunc.mk i j p q r k) a b x) y=some (z,A)→GK K→tF K l m h→i.size ≤ mB→tP K n o j→tS K s t k→Reps RStr 1 a u→a.length * 16 ≤ mB→StkR kS VInt b v→b.length * 8 ≤ mB→br ≤ (zz w)→y.size ≤ mB→ SR K K w w [.box bs g (vR l h m i n j o p q r s k t c a d e b f x).toArray 84,.row br (sl c a d) 9 1 a.length u,.stk br (sl e b f) 81 b.length v] [.box bs g (vR l h m i n j o p q r s k t c a d e b f x).toArray 84,.row br (sl c a d) 9 1 a.length u,.stk br (sl e b f) 81 b.length v]→Calls Tryd.prog 46 #[.pointer (some ⟨g,0,none⟩),.string y] w (Ret (fun v_ w_=>∃ K_,v_=.tuple #[iI z,.bool A]∧SR K K_ w w_ [.box bs g (vR l h m i n j o p q r s k t c a d e b f x).toArray 84,.row br (sl c a d) 9 1 a.length u,.stk br (sl e b f) 81 b.length v] [.box bs g (vR l h m i n j o p q r s k t c a d e b f x).toArray 84,.row br (sl c a d) 9 1 a.length u,.stk br (sl e b f) 81 b.length v]))
def f37_spec (X:Dresolver→BA→Option (Except Int (Dresolver × Int))):Prop:=∀ {K w g bs br h n o i j p q r s t k u v a c d x b e f y z A res_},X (Dresolver.mk (DProgram.mk h) (DFunc.mk i j r s t k) a b z) A=some res_→GK K→tF K n o h→i.size ≤ mB→tP K p q j→tS K u v k→Reps RStr 1 a x→a.length * 16 ≤ mB→StkR kS VInt b y→b.length * 8 ≤ mB→br ≤ (zz w)→A.size ≤ mB→ SR K K w w [.box bs g (vR n h o i p j q r s t u k v c a d e b f z).toArray 84,.row br (sl c a d) 9 1 a.length x,.stk br (sl e b f) 81 b.length y] [.box bs g (vR n h o i p j q r s t u k v c a d e b f z).toArray 84,.row br (sl c a d) 9 1 a.length x,.stk br (sl e b f) 81 b.length y]→Calls Tryd.prog 37 #[.pointer (some ⟨g,0,none⟩),.string A] w (RetP (fun v_ w_=>∃ B C D I J N G l m O S K_ Az_0_0 cz_0_0 Az_1_1 cz_1_1 Az_1_5 cz_1_5 Az_2 cz_2 yz_2 Az_3 cz_3 yz_3,res_=.ok ((Dresolver.mk (DProgram.mk B) (DFunc.mk C D I J N G) l m O),S)∧v_=iI S∧SR K K_ w w_ [.box bs g (vR n h o i p j q r s t u k v c a d e b f z).toArray 84,.row br (sl c a d) 9 1 a.length x,.stk br (sl e b f) 81 b.length y] [.box bs g (vR Az_0_0 B cz_0_0 C Az_1_1 D cz_1_1 I J N Az_1_5 G cz_1_5 Az_2 l cz_2 Az_3 m cz_3 O).toArray 84,.row br (sl Az_2 l cz_2) 9 1 l.length yz_2,.stk br (sl Az_3 m cz_3) 81 m.length yz_3]∧tF K_ Az_0_0 cz_0_0 B∧C.size ≤ mB∧tP K_ Az_1_1 cz_1_1 D∧tS K_ Az_1_5 cz_1_5 G∧Reps RStr 1 l yz_2∧l.length * 16 ≤ mB∧StkR kS VInt m yz_3∧m.length * 8 ≤ mB) (fun v_ w_=>∃ c_ K_,res_=.error c_∧v_=.iface 63 (.agg #[iI c_])∧SR K K_ w w_ [.box bs g (vR n h o i p j q r s t u k v c a d e b f z).toArray 84,.row br (sl c a d) 9 1 a.length x,.stk br (sl e b f) 81 b.length y] []))
def f38_spec (X:LP→Option LP):Prop:=∀ {K w a c d b},X a=some b→GK K→tP K c d a→ SR K K w w [] []→Calls Tryd.prog 38 #[sl c a d] w (Ret (fun v_ w_=>∃ K_ Ar0 cr0,v_=sl Ar0 b cr0∧SR K K_ w w_ [] []∧tP K_ Ar0 cr0 b))
def f1005718_spec (X:DExpr→Dresolver→Option (Except Int Int)):Prop:=∀ {K w y z gr bsr g bs br h l m i j n o p q r k s t a c d u b e f v x res_},X y (Dresolver.mk (DProgram.mk h) (DFunc.mk i j p q r k) a b x)=some res_→GK K→RDExpr K y z→tF K l m h→i.size ≤ mB→tP K n o j→tS K s t k→Reps RStr 1 a u→a.length * 16 ≤ mB→StkR kS VInt b v→b.length * 8 ≤ mB→br ≤ (zz w)→ SR K K w w [.box bsr gr #[.pointer (some ⟨g,0,none⟩)] 80,.box bs g (vR l h m i n j o p q r s k t c a d e b f x).toArray 84,.row br (sl c a d) 9 1 a.length u,.stk br (sl e b f) 81 b.length v] [.box bsr gr #[.pointer (some ⟨g,0,none⟩)] 80,.box bs g (vR l h m i n j o p q r s k t c a d e b f x).toArray 84,.row br (sl c a d) 9 1 a.length u,.stk br (sl e b f) 81 b.length v]→Calls Tryd.prog 57 #[.agg z.toArray,.pointer (some ⟨gr,0,none⟩)] w (RetP (fun v_ w_=>∃ A K_,res_=.ok A∧v_=iI A∧SR K K_ w w_ [.box bsr gr #[.pointer (some ⟨g,0,none⟩)] 80,.box bs g (vR l h m i n j o p q r s k t c a d e b f x).toArray 84,.row br (sl c a d) 9 1 a.length u,.stk br (sl e b f) 81 b.length v] [.box bsr gr #[.pointer (some ⟨g,0,none⟩)] 80,.box bs g (vR l h m i n j o p q r s k t c a d e b f x).toArray 84,.row br (sl c a d) 9 1 a.length u,.stk br (sl e b f) 81 b.length v]) (fun v_ w_=>∃ c_ K_,res_=.error c_∧v_=.iface 63 (.agg #[iI c_])∧SR K K_ w w_ [.box bsr gr #[.pointer (some ⟨g,0,none⟩)] 80,.box bs g (vR l h m i n j o p q r s k t c a d e b f x).toArray 84,.row br (sl c a d) 9 1 a.length u,.stk br (sl e b f) 81 b.length v] []))
def f1005323_spec (X:LE→Dresolver→Option (Except Int LE)):Prop:=∀ {K w y A B gr bsr g bs br h l m i j n o p q r k s t a c d u b e f v x res_},X y (Dresolver.mk (DProgram.mk h) (DFunc.mk i j p q r k) a b x)=some res_→GK K→tE K A B y→tF K l m h→i.size ≤ mB→tP K n o j→tS K s t k→Reps RStr 1 a u→a.length * 16 ≤ mB→StkR kS VInt b v→b.length * 8 ≤ mB→br ≤ (zz w)→ SR K K w w [.box bsr gr #[.pointer (some ⟨g,0,none⟩)] 80,.box bs g (vR l h m i n j o p q r s k t c a d e b f x).toArray 84,.row br (sl c a d) 9 1 a.length u,.stk br (sl e b f) 81 b.length v] [.box bsr gr #[.pointer (some ⟨g,0,none⟩)] 80,.box bs g (vR l h m i n j o p q r s k t c a d e b f x).toArray 84,.row br (sl c a d) 9 1 a.length u,.stk br (sl e b f) 81 b.length v]→Calls Tryd.prog 53 #[sl A y B,.func (.func 57) #[] #[.pointer (some ⟨gr,0,none⟩)]] w (RetP (fun v_ w_=>∃ z K_ Ar0 cr0,res_=.ok z∧v_=sl Ar0 z cr0∧SR K K_ w w_ [.box bsr gr #[.pointer (some ⟨g,0,none⟩)] 80,.box bs g (vR l h m i n j o p q r s k t c a d e b f x).toArray 84,.row br (sl c a d) 9 1 a.length u,.stk br (sl e b f) 81 b.length v] [.box bsr gr #[.pointer (some ⟨g,0,none⟩)] 80,.box bs g (vR l h m i n j o p q r s k t c a d e b f x).toArray 84,.row br (sl c a d) 9 1 a.length u,.stk br (sl e b f) 81 b.length v]∧tE K_ Ar0 cr0 z) (fun v_ w_=>∃ c_ K_,res_=.error c_∧v_=.iface 63 (.agg #[iI c_])∧SR K K_ w w_ [.box bsr gr #[.pointer (some ⟨g,0,none⟩)] 80,.box bs g (vR l h m i n j o p q r s k t c a d e b f x).toArray 84,.row br (sl c a d) 9 1 a.length u,.stk br (sl e b f) 81 b.length v] []))
def f1005923_spec (X:DExpr→Dresolver→Option (Except Int DExpr)):Prop:=∀ {K w y z gr bsr g bs br h l m i j n o p q r k s t a c d u b e f v x res_},X y (Dresolver.mk (DProgram.mk h) (DFunc.mk i j p q r k) a b x)=some res_→GK K→RDExpr K y z→tF K l m h→i.size ≤ mB→tP K n o j→tS K s t k→Reps RStr 1 a u→a.length * 16 ≤ mB→StkR kS VInt b v→b.length * 8 ≤ mB→br ≤ (zz w)→ SR K K w w [.box bsr gr #[.pointer (some ⟨g,0,none⟩)] 80,.box bs g (vR l h m i n j o p q r s k t c a d e b f x).toArray 84,.row br (sl c a d) 9 1 a.length u,.stk br (sl e b f) 81 b.length v] [.box bsr gr #[.pointer (some ⟨g,0,none⟩)] 80,.box bs g (vR l h m i n j o p q r s k t c a d e b f x).toArray 84,.row br (sl c a d) 9 1 a.length u,.stk br (sl e b f) 81 b.length v]→Calls Tryd.prog 59 #[.agg z.toArray,.func (.func 57) #[] #[.pointer (some ⟨gr,0,none⟩)]] w (RetP (fun v_ w_=>∃ A K_ csr0,res_=.ok A∧v_=.agg csr0.toArray∧SR K K_ w w_ [.box bsr gr #[.pointer (some ⟨g,0,none⟩)] 80,.box bs g (vR l h m i n j o p q r s k t c a d e b f x).toArray 84,.row br (sl c a d) 9 1 a.length u,.stk br (sl e b f) 81 b.length v] [.box bsr gr #[.pointer (some ⟨g,0,none⟩)] 80,.box bs g (vR l h m i n j o p q r s k t c a d e b f x).toArray 84,.row br (sl c a d) 9 1 a.length u,.stk br (sl e b f) 81 b.length v]∧RDExpr K_ A csr0) (fun v_ w_=>∃ c_ K_,res_=.error c_∧v_=.iface 63 (.agg #[iI c_])∧SR K K_ w w_ [.box bsr gr #[.pointer (some ⟨g,0,none⟩)] 80,.box bs g (vR l h m i n j o p q r s k t c a d e b f x).toArray 84,.row br (sl c a d) 9 1 a.length u,.stk br (sl e b f) 81 b.length v] []))
def f47_spec (X:Dresolver→LE→Option (Except Int LE)):Prop:=∀ {K w g bs br h l m i j n o p q r k s t a c d u b e f v x y A B res_},X (Dresolver.mk (DProgram.mk h) (DFunc.mk i j p q r k) a b x) y=some res_→GK K→tF K l m h→i.size ≤ mB→tP K n o j→tS K s t k→Reps RStr 1 a u→a.length * 16 ≤ mB→StkR kS VInt b v→b.length * 8 ≤ mB→br ≤ (zz w)→tE K A B y→ SR K K w w [.box bs g (vR l h m i n j o p q r s k t c a d e b f x).toArray 84,.row br (sl c a d) 9 1 a.length u,.stk br (sl e b f) 81 b.length v] [.box bs g (vR l h m i n j o p q r s k t c a d e b f x).toArray 84,.row br (sl c a d) 9 1 a.length u,.stk br (sl e b f) 81 b.length v]→Calls Tryd.prog 47 #[.pointer (some ⟨g,0,none⟩),sl A y B] w (RetP (fun v_ w_=>∃ z K_ Ar0 cr0,res_=.ok z∧v_=sl Ar0 z cr0∧SR K K_ w w_ [.box bs g (vR l h m i n j o p q r s k t c a d e b f x).toArray 84,.row br (sl c a d) 9 1 a.length u,.stk br (sl e b f) 81 b.length v] [.box bs g (vR l h m i n j o p q r s k t c a d e b f x).toArray 84,.row br (sl c a d) 9 1 a.length u,.stk br (sl e b f) 81 b.length v]∧tE K_ Ar0 cr0 z) (fun v_ w_=>∃ c_ K_,res_=.error c_∧v_=.iface 63 (.agg #[iI c_])∧SR K K_ w w_ [.box bs g (vR l h m i n j o p q r s k t c a d e b f x).toArray 84,.row br (sl c a d) 9 1 a.length u,.stk br (sl e b f) 81 b.length v] []))
def f1005844_spec (X:DFunc→DStmt→Option Bool):Prop:=∀ {K w x y gr bsr g bs i a j b k l c m n d o p e q r f s t h u v z},X x (DStmt.mk i a j b k l c d e f h)=some z→GK K→RDFunc K x y→a.size ≤ mB→b.size ≤ mB→tE K m n c→tS K o p d→tS K q r e→tS K s t f→tC K u v h→ SR K K w w [.box bsr gr #[.pointer (some ⟨g,0,none⟩)] 101,.box bs g (vS i a j b k l m c n o d p q e r s f t u h v).toArray 47] [.box bsr gr #[.pointer (some ⟨g,0,none⟩)] 101,.box bs g (vS i a j b k l m c n o d p q e r s f t u h v).toArray 47]→Calls Tryd.prog 58 #[.agg y.toArray,.pointer (some ⟨gr,0,none⟩)] w (Ret (fun v_ w_=>∃ K_,v_=.bool z∧SR K K_ w w_ [.box bsr gr #[.pointer (some ⟨g,0,none⟩)] 101,.box bs g (vS i a j b k l m c n o d p q e r s f t u h v).toArray 47] [.box bsr gr #[.pointer (some ⟨g,0,none⟩)] 101,.box bs g (vS i a j b k l m c n o d p q e r s f t u h v).toArray 47]))
def f1003670_spec (X:LF→DStmt→Option Int):Prop:=∀ {K w x y z gr bsr g bs i a j b k l c m n d o p e q r f s t h u v A},X x (DStmt.mk i a j b k l c d e f h)=some A→GK K→tF K y z x→a.size ≤ mB→b.size ≤ mB→tE K m n c→tS K o p d→tS K q r e→tS K s t f→tC K u v h→ SR K K w w [.box bsr gr #[.pointer (some ⟨g,0,none⟩)] 101,.box bs g (vS i a j b k l m c n o d p q e r s f t u h v).toArray 47] [.box bsr gr #[.pointer (some ⟨g,0,none⟩)] 101,.box bs g (vS i a j b k l m c n o d p q e r s f t u h v).toArray 47]→Calls Tryd.prog 36 #[sl y x z,.func (.func 58) #[] #[.pointer (some ⟨gr,0,none⟩)]] w (Ret (fun v_ w_=>∃ K_,v_=iI A∧SR K K_ w w_ [.box bsr gr #[.pointer (some ⟨g,0,none⟩)] 101,.box bs g (vS i a j b k l m c n o d p q e r s f t u h v).toArray 47] [.box bsr gr #[.pointer (some ⟨g,0,none⟩)] 101,.box bs g (vS i a j b k l m c n o d p q e r s f t u h v).toArray 47]))
def f49_spec (X:Dresolver→DStmt→Option (Except Int (Dresolver × DStmt))):Prop:=∀ {K w g bs br h n o i j p q r s t k u v a c d x b e f y z gA bsA sA_0 sA_1 sA_2 sA_3 sA_4 sA_5 sA_6 AsA_6 csA_6 sA_7 AsA_7 csA_7 sA_8 AsA_8 csA_8 sA_9 AsA_9 csA_9 sA_10 AsA_10 csA_10 res_},X (Dresolver.mk (DProgram.mk h) (DFunc.mk i j r s t k) a b z) (DStmt.mk sA_0 sA_1 sA_2 sA_3 sA_4 sA_5 sA_6 sA_7 sA_8 sA_9 sA_10)=some res_→GK K→tF K n o h→i.size ≤ mB→tP K p q j→tS K u v k→Reps RStr 1 a x→a.length * 16 ≤ mB→StkR kS VInt b y→b.length * 8 ≤ mB→br ≤ (zz w)→sA_1.size ≤ mB→sA_3.size ≤ mB→tE K AsA_6 csA_6 sA_6→tS K AsA_7 csA_7 sA_7→tS K AsA_8 csA_8 sA_8→tS K AsA_9 csA_9 sA_9→tC K AsA_10 csA_10 sA_10→ SR K K w w [.box bs g (vR n h o i p j q r s t u k v c a d e b f z).toArray 84,.row br (sl c a d) 9 1 a.length x,.stk br (sl e b f) 81 b.length y,.box bsA gA (vS sA_0 sA_1 sA_2 sA_3 sA_4 sA_5 AsA_6 sA_6 csA_6 AsA_7 sA_7 csA_7 AsA_8 sA_8 csA_8 AsA_9 sA_9 csA_9 AsA_10 sA_10 csA_10).toArray 47] [.box bs g (vR n h o i p j q r s t u k v c a d e b f z).toArray 84,.row br (sl c a d) 9 1 a.length x,.stk br (sl e b f) 81 b.length y,.box bsA gA (vS sA_0 sA_1 sA_2 sA_3 sA_4 sA_5 AsA_6 sA_6 csA_6 AsA_7 sA_7 csA_7 AsA_8 sA_8 csA_8 AsA_9 sA_9 csA_9 AsA_10 sA_10 csA_10).toArray 47]→Calls Tryd.prog 49 #[.pointer (some ⟨g,0,none⟩),.pointer (some ⟨gA,0,none⟩)] w (RetP (fun v_ w_=>∃ A B C G I J D l m N zA_0 zA_1 zA_2 zA_3 zA_4 zA_5 zA_6 zA_7 zA_8 zA_9 zA_10 K_ Az_0_0 cz_0_0 Az_1_1 cz_1_1 Az_1_5 cz_1_5 Az_2 cz_2 yz_2 Az_3 cz_3 yz_3 AzA_6 czA_6 AzA_7 czA_7 AzA_8 czA_8 AzA_9 czA_9 AzA_10 czA_10,res_=.ok ((Dresolver.mk (DProgram.mk A) (DFunc.mk B C G I J D) l m N),(DStmt.mk zA_0 zA_1 zA_2 zA_3 zA_4 zA_5 zA_6 zA_7 zA_8 zA_9 zA_10))∧v_=.tuple #[]∧SR K K_ w w_ [.box bs g (vR n h o i p j q r s t u k v c a d e b f z).toArray 84,.row br (sl c a d) 9 1 a.length x,.stk br (sl e b f) 81 b.length y,.box bsA gA (vS sA_0 sA_1 sA_2 sA_3 sA_4 sA_5 AsA_6 sA_6 csA_6 AsA_7 sA_7 csA_7 AsA_8 sA_8 csA_8 AsA_9 sA_9 csA_9 AsA_10 sA_10 csA_10).toArray 47] [.box bs g (vR Az_0_0 A cz_0_0 B Az_1_1 C cz_1_1 G I J Az_1_5 D cz_1_5 Az_2 l cz_2 Az_3 m cz_3 N).toArray 84,.row br (sl Az_2 l cz_2) 9 1 l.length yz_2,.stk br (sl Az_3 m cz_3) 81 m.length yz_3,.box bsA gA (vS zA_0 zA_1 zA_2 zA_3 zA_4 zA_5 AzA_6 zA_6 czA_6 AzA_7 zA_7 czA_7 AzA_8 zA_8 czA_8 AzA_9 zA_9 czA_9 AzA_10 zA_10 czA_10).toArray 47]∧tF K_ Az_0_0 cz_0_0 A∧B.size ≤ mB∧tP K_ Az_1_1 cz_1_1 C∧tS K_ Az_1_5 cz_1_5 D∧Reps RStr 1 l yz_2∧l.length * 16 ≤ mB∧StkR kS VInt m yz_3∧m.length * 8 ≤ mB∧zA_1.size ≤ mB∧zA_3.size ≤ mB∧tE K_ AzA_6 czA_6 zA_6∧tS K_ AzA_7 czA_7 zA_7∧tS K_ AzA_8 czA_8 zA_8∧tS K_ AzA_9 czA_9 zA_9∧tC K_ AzA_10 czA_10 zA_10) (fun v_ w_=>∃ c_ K_,res_=.error c_∧v_=.iface 63 (.agg #[iI c_])∧SR K K_ w w_ [.box bs g (vR n h o i p j q r s t u k v c a d e b f z).toArray 84,.row br (sl c a d) 9 1 a.length x,.stk br (sl e b f) 81 b.length y,.box bsA gA (vS sA_0 sA_1 sA_2 sA_3 sA_4 sA_5 AsA_6 sA_6 csA_6 AsA_7 sA_7 csA_7 AsA_8 sA_8 csA_8 AsA_9 sA_9 csA_9 AsA_10 sA_10 csA_10).toArray 47] []))
def f39_spec (X:Dresolver→DStmt→Option (Except Int (Dresolver × DStmt))):Prop:=∀ {K w g bs br h n o i j p q r s t k u v a c d x b e f y z G I res_},X (Dresolver.mk (DProgram.mk h) (DFunc.mk i j r s t k) a b z) G=some res_→GK K→tF K n o h→i.size ≤ mB→tP K p q j→tS K u v k→Reps RStr 1 a x→a.length * 16 ≤ mB→StkR kS VInt b y→b.length * 8 ≤ mB→br ≤ (zz w)→RDStmt K G I→ SR K K w w [.box bs g (vR n h o i p j q r s t u k v c a d e b f z).toArray 84,.row br (sl c a d) 9 1 a.length x,.stk br (sl e b f) 81 b.length y] [.box bs g (vR n h o i p j q r s t u k v c a d e b f z).toArray 84,.row br (sl c a d) 9 1 a.length x,.stk br (sl e b f) 81 b.length y]→Calls Tryd.prog 39 #[.pointer (some ⟨g,0,none⟩),.agg I.toArray] w (RetP (fun v_ w_=>∃ A B C J N O D l m S U K_ Az_0_0 cz_0_0 Az_1_1 cz_1_1 Az_1_5 cz_1_5 Az_2 cz_2 yz_2 Az_3 cz_3 yz_3 csr0,res_=.ok ((Dresolver.mk (DProgram.mk A) (DFunc.mk B C J N O D) l m S),U)∧v_=.agg csr0.toArray∧SR K K_ w w_ [.box bs g (vR n h o i p j q r s t u k v c a d e b f z).toArray 84,.row br (sl c a d) 9 1 a.length x,.stk br (sl e b f) 81 b.length y] [.box bs g (vR Az_0_0 A cz_0_0 B Az_1_1 C cz_1_1 J N O Az_1_5 D cz_1_5 Az_2 l cz_2 Az_3 m cz_3 S).toArray 84,.row br (sl Az_2 l cz_2) 9 1 l.length yz_2,.stk br (sl Az_3 m cz_3) 81 m.length yz_3]∧tF K_ Az_0_0 cz_0_0 A∧B.size ≤ mB∧tP K_ Az_1_1 cz_1_1 C∧tS K_ Az_1_5 cz_1_5 D∧Reps RStr 1 l yz_2∧l.length * 16 ≤ mB∧StkR kS VInt m yz_3∧m.length * 8 ≤ mB∧RDStmt K_ U csr0) (fun v_ w_=>∃ c_ K_,res_=.error c_∧v_=.iface 63 (.agg #[iI c_])∧SR K K_ w w_ [.box bs g (vR n h o i p j q r s t u k v c a d e b f z).toArray 84,.row br (sl c a d) 9 1 a.length x,.stk br (sl e b f) 81 b.length y] []))
def f1004815_spec (X:Dresolver→BA→LS→DStmt→Option (Except Int (Dresolver × DStmt × LS))):Prop:=∀ {K w g bs br h n o i j p q r s t k u v a c d x b e f y z A B N O gA bsA sA_0 sA_1 sA_2 sA_3 sA_4 sA_5 sA_6 AsA_6 csA_6 sA_7 AsA_7 csA_7 sA_8 AsA_8 csA_8 sA_9 AsA_9 csA_9 sA_10 AsA_10 csA_10 res_},X (Dresolver.mk (DProgram.mk h) (DFunc.mk i j r s t k) a b z) A B (DStmt.mk sA_0 sA_1 sA_2 sA_3 sA_4 sA_5 sA_6 sA_7 sA_8 sA_9 sA_10)=some res_→GK K→tF K n o h→i.size ≤ mB→tP K p q j→tS K u v k→Reps RStr 1 a x→a.length * 16 ≤ mB→StkR kS VInt b y→b.length * 8 ≤ mB→br ≤ (zz w)→A.size ≤ mB→tS K N O B→sA_1.size ≤ mB→sA_3.size ≤ mB→tE K AsA_6 csA_6 sA_6→tS K AsA_7 csA_7 sA_7→tS K AsA_8 csA_8 sA_8→tS K AsA_9 csA_9 sA_9→tC K AsA_10 csA_10 sA_10→ SR K K w w [.box bs g (vR n h o i p j q r s t u k v c a d e b f z).toArray 84,.row br (sl c a d) 9 1 a.length x,.stk br (sl e b f) 81 b.length y,.box bsA gA (vS sA_0 sA_1 sA_2 sA_3 sA_4 sA_5 AsA_6 sA_6 csA_6 AsA_7 sA_7 csA_7 AsA_8 sA_8 csA_8 AsA_9 sA_9 csA_9 AsA_10 sA_10 csA_10).toArray 47] [.box bs g (vR n h o i p j q r s t u k v c a d e b f z).toArray 84,.row br (sl c a d) 9 1 a.length x,.stk br (sl e b f) 81 b.length y,.box bsA gA (vS sA_0 sA_1 sA_2 sA_3 sA_4 sA_5 AsA_6 sA_6 csA_6 AsA_7 sA_7 csA_7 AsA_8 sA_8 csA_8 AsA_9 sA_9 csA_9 AsA_10 sA_10 csA_10).toArray 47]→Calls Tryd.prog 48 #[.pointer (some ⟨g,0,none⟩),.string A,sl N B O,.pointer (some ⟨gA,2,none⟩)] w (RetP (fun v_ w_=>∃ C D G S U V I l m W zA_0 zA_1 zA_2 zA_3 zA_4 zA_5 zA_6 zA_7 zA_8 zA_9 zA_10 J K_ Az_0_0 cz_0_0 Az_1_1 cz_1_1 Az_1_5 cz_1_5 Az_2 cz_2 yz_2 Az_3 cz_3 yz_3 AzA_6 czA_6 AzA_7 czA_7 AzA_8 czA_8 AzA_9 czA_9 AzA_10 czA_10 Ar0 cr0,res_=.ok ((Dresolver.mk (DProgram.mk C) (DFunc.mk D G S U V I) l m W),(DStmt.mk zA_0 zA_1 zA_2 zA_3 zA_4 zA_5 zA_6 zA_7 zA_8 zA_9 zA_10),J)∧v_=sl Ar0 J cr0∧SR K K_ w w_ [.box bs g (vR n h o i p j q r s t u k v c a d e b f z).toArray 84,.row br (sl c a d) 9 1 a.length x,.stk br (sl e b f) 81 b.length y,.box bsA gA (vS sA_0 sA_1 sA_2 sA_3 sA_4 sA_5 AsA_6 sA_6 csA_6 AsA_7 sA_7 csA_7 AsA_8 sA_8 csA_8 AsA_9 sA_9 csA_9 AsA_10 sA_10 csA_10).toArray 47] [.box bs g (vR Az_0_0 C cz_0_0 D Az_1_1 G cz_1_1 S U V Az_1_5 I cz_1_5 Az_2 l cz_2 Az_3 m cz_3 W).toArray 84,.row br (sl Az_2 l cz_2) 9 1 l.length yz_2,.stk br (sl Az_3 m cz_3) 81 m.length yz_3,.box bsA gA (vS zA_0 zA_1 zA_2 zA_3 zA_4 zA_5 AzA_6 zA_6 czA_6 AzA_7 zA_7 czA_7 AzA_8 zA_8 czA_8 AzA_9 zA_9 czA_9 AzA_10 zA_10 czA_10).toArray 47]∧tF K_ Az_0_0 cz_0_0 C∧D.size ≤ mB∧tP K_ Az_1_1 cz_1_1 G∧tS K_ Az_1_5 cz_1_5 I∧Reps RStr 1 l yz_2∧l.length * 16 ≤ mB∧StkR kS VInt m yz_3∧m.length * 8 ≤ mB∧zA_1.size ≤ mB∧zA_3.size ≤ mB∧tE K_ AzA_6 czA_6 zA_6∧tS K_ AzA_7 czA_7 zA_7∧tS K_ AzA_8 czA_8 zA_8∧tS K_ AzA_9 czA_9 zA_9∧tC K_ AzA_10 czA_10 zA_10∧tS K_ Ar0 cr0 J) (fun v_ w_=>∃ c_ K_,res_=.error c_∧v_=.iface 63 (.agg #[iI c_])∧SR K K_ w w_ [.box bs g (vR n h o i p j q r s t u k v c a d e b f z).toArray 84,.row br (sl c a d) 9 1 a.length x,.stk br (sl e b f) 81 b.length y,.box bsA gA (vS sA_0 sA_1 sA_2 sA_3 sA_4 sA_5 AsA_6 sA_6 csA_6 AsA_7 sA_7 csA_7 AsA_8 sA_8 csA_8 AsA_9 sA_9 csA_9 AsA_10 sA_10 csA_10).toArray 47] []))
def f1004866_spec (X:Dresolver→BA→LS→Option (Except Int (Dresolver × LS))):Prop:=∀ {K w g bs br h n o i j p q r s t k u v a c d x b e f y z A B N O res_},X (Dresolver.mk (DProgram.mk h) (DFunc.mk i j r s t k) a b z) A B=some res_→GK K→tF K n o h→i.size ≤ mB→tP K p q j→tS K u v k→Reps RStr 1 a x→a.length * 16 ≤ mB→StkR kS VInt b y→b.length * 8 ≤ mB→br ≤ (zz w)→A.size ≤ mB→tS K N O B→ SR K K w w [.box bs g (vR n h o i p j q r s t u k v c a d e b f z).toArray 84,.row br (sl c a d) 9 1 a.length x,.stk br (sl e b f) 81 b.length y] [.box bs g (vR n h o i p j q r s t u k v c a d e b f z).toArray 84,.row br (sl c a d) 9 1 a.length x,.stk br (sl e b f) 81 b.length y]→Calls Tryd.prog 48 #[.pointer (some ⟨g,0,none⟩),.string A,sl N B O,.pointer none] w (RetP (fun v_ w_=>∃ C D G S U V I l m W J K_ Az_0_0 cz_0_0 Az_1_1 cz_1_1 Az_1_5 cz_1_5 Az_2 cz_2 yz_2 Az_3 cz_3 yz_3 Ar0 cr0,res_=.ok ((Dresolver.mk (DProgram.mk C) (DFunc.mk D G S U V I) l m W),J)∧v_=sl Ar0 J cr0∧SR K K_ w w_ [.box bs g (vR n h o i p j q r s t u k v c a d e b f z).toArray 84,.row br (sl c a d) 9 1 a.length x,.stk br (sl e b f) 81 b.length y] [.box bs g (vR Az_0_0 C cz_0_0 D Az_1_1 G cz_1_1 S U V Az_1_5 I cz_1_5 Az_2 l cz_2 Az_3 m cz_3 W).toArray 84,.row br (sl Az_2 l cz_2) 9 1 l.length yz_2,.stk br (sl Az_3 m cz_3) 81 m.length yz_3]∧tF K_ Az_0_0 cz_0_0 C∧D.size ≤ mB∧tP K_ Az_1_1 cz_1_1 G∧tS K_ Az_1_5 cz_1_5 I∧Reps RStr 1 l yz_2∧l.length * 16 ≤ mB∧StkR kS VInt m yz_3∧m.length * 8 ≤ mB∧tS K_ Ar0 cr0 J) (fun v_ w_=>∃ c_ K_,res_=.error c_∧v_=.iface 63 (.agg #[iI c_])∧SR K K_ w w_ [.box bs g (vR n h o i p j q r s t u k v c a d e b f z).toArray 84,.row br (sl c a d) 9 1 a.length x,.stk br (sl e b f) 81 b.length y] []))
def f1004884_spec (X:Dresolver→BA→LS→DCase→Option (Except Int (Dresolver × DCase × LS))):Prop:=∀ {K w g bs br h n o i j p q r s t k u v a c d x b e f y z A B N O gA bsA sA_0 sA_1 sA_2 sA_3 AsA_3 csA_3 sA_4 AsA_4 csA_4 res_},X (Dresolver.mk (DProgram.mk h) (DFunc.mk i j r s t k) a b z) A B (DCase.mk sA_0 sA_1 sA_2 sA_3 sA_4)=some res_→GK K→tF K n o h→i.size ≤ mB→tP K p q j→tS K u v k→Reps RStr 1 a x→a.length * 16 ≤ mB→StkR kS VInt b y→b.length * 8 ≤ mB→br ≤ (zz w)→A.size ≤ mB→tS K N O B→sA_1.size ≤ mB→tE K AsA_3 csA_3 sA_3→tS K AsA_4 csA_4 sA_4→ SR K K w w [.box bs g (vR n h o i p j q r s t u k v c a d e b f z).toArray 84,.row br (sl c a d) 9 1 a.length x,.stk br (sl e b f) 81 b.length y,.box bsA gA (vC sA_0 sA_1 sA_2 AsA_3 sA_3 csA_3 AsA_4 sA_4 csA_4).toArray 56] [.box bs g (vR n h o i p j q r s t u k v c a d e b f z).toArray 84,.row br (sl c a d) 9 1 a.length x,.stk br (sl e b f) 81 b.length y,.box bsA gA (vC sA_0 sA_1 sA_2 AsA_3 sA_3 csA_3 AsA_4 sA_4 csA_4).toArray 56]→Calls Tryd.prog 48 #[.pointer (some ⟨g,0,none⟩),.string A,sl N B O,.pointer (some ⟨gA,2,none⟩)] w (RetP (fun v_ w_=>∃ C D G S U V I l m W zA_0 zA_1 zA_2 zA_3 zA_4 J K_ Az_0_0 cz_0_0 Az_1_1 cz_1_1 Az_1_5 cz_1_5 Az_2 cz_2 yz_2 Az_3 cz_3 yz_3 AzA_3 czA_3 AzA_4 czA_4 Ar0 cr0,res_=.ok ((Dresolver.mk (DProgram.mk C) (DFunc.mk D G S U V I) l m W),(DCase.mk zA_0 zA_1 zA_2 zA_3 zA_4),J)∧v_=sl Ar0 J cr0∧SR K K_ w w_ [.box bs g (vR n h o i p j q r s t u k v c a d e b f z).toArray 84,.row br (sl c a d) 9 1 a.length x,.stk br (sl e b f) 81 b.length y,.box bsA gA (vC sA_0 sA_1 sA_2 AsA_3 sA_3 csA_3 AsA_4 sA_4 csA_4).toArray 56] [.box bs g (vR Az_0_0 C cz_0_0 D Az_1_1 G cz_1_1 S U V Az_1_5 I cz_1_5 Az_2 l cz_2 Az_3 m cz_3 W).toArray 84,.row br (sl Az_2 l cz_2) 9 1 l.length yz_2,.stk br (sl Az_3 m cz_3) 81 m.length yz_3,.box bsA gA (vC zA_0 zA_1 zA_2 AzA_3 zA_3 czA_3 AzA_4 zA_4 czA_4).toArray 56]∧tF K_ Az_0_0 cz_0_0 C∧D.size ≤ mB∧tP K_ Az_1_1 cz_1_1 G∧tS K_ Az_1_5 cz_1_5 I∧Reps RStr 1 l yz_2∧l.length * 16 ≤ mB∧StkR kS VInt m yz_3∧m.length * 8 ≤ mB∧zA_1.size ≤ mB∧tE K_ AzA_3 czA_3 zA_3∧tS K_ AzA_4 czA_4 zA_4∧tS K_ Ar0 cr0 J) (fun v_ w_=>∃ c_ K_,res_=.error c_∧v_=.iface 63 (.agg #[iI c_])∧SR K K_ w w_ [.box bs g (vR n h o i p j q r s t u k v c a d e b f z).toArray 84,.row br (sl c a d) 9 1 a.length x,.stk br (sl e b f) 81 b.length y,.box bsA gA (vC sA_0 sA_1 sA_2 AsA_3 sA_3 csA_3 AsA_4 sA_4 csA_4).toArray 56] []))
def f1005015_spec (X:Dresolver→BA→LS→DStmt→Option (Except Int (Dresolver × DStmt × LS))):Prop:=∀ {K w g bs br h n o i j p q r s t k u v a c d x b e f y z A B N O gA bsA sA_0 sA_1 sA_2 sA_3 sA_4 sA_5 sA_6 AsA_6 csA_6 sA_7 AsA_7 csA_7 sA_8 AsA_8 csA_8 sA_9 AsA_9 csA_9 sA_10 AsA_10 csA_10 res_},X (Dresolver.mk (DProgram.mk h) (DFunc.mk i j r s t k) a b z) A B (DStmt.mk sA_0 sA_1 sA_2 sA_3 sA_4 sA_5 sA_6 sA_7 sA_8 sA_9 sA_10)=some res_→GK K→tF K n o h→i.size ≤ mB→tP K p q j→tS K u v k→Reps RStr 1 a x→a.length * 16 ≤ mB→StkR kS VInt b y→b.length * 8 ≤ mB→br ≤ (zz w)→A.size ≤ mB→tS K N O B→sA_1.size ≤ mB→sA_3.size ≤ mB→tE K AsA_6 csA_6 sA_6→tS K AsA_7 csA_7 sA_7→tS K AsA_8 csA_8 sA_8→tS K AsA_9 csA_9 sA_9→tC K AsA_10 csA_10 sA_10→ SR K K w w [.box bs g (vR n h o i p j q r s t u k v c a d e b f z).toArray 84,.row br (sl c a d) 9 1 a.length x,.stk br (sl e b f) 81 b.length y,.box bsA gA (vS sA_0 sA_1 sA_2 sA_3 sA_4 sA_5 AsA_6 sA_6 csA_6 AsA_7 sA_7 csA_7 AsA_8 sA_8 csA_8 AsA_9 sA_9 csA_9 AsA_10 sA_10 csA_10).toArray 47] [.box bs g (vR n h o i p j q r s t u k v c a d e b f z).toArray 84,.row br (sl c a d) 9 1 a.length x,.stk br (sl e b f) 81 b.length y,.box bsA gA (vS sA_0 sA_1 sA_2 sA_3 sA_4 sA_5 AsA_6 sA_6 csA_6 AsA_7 sA_7 csA_7 AsA_8 sA_8 csA_8 AsA_9 sA_9 csA_9 AsA_10 sA_10 csA_10).toArray 47]→Calls Tryd.prog 50 #[.pointer (some ⟨g,0,none⟩),.string A,sl N B O,.pointer (some ⟨gA,2,none⟩)] w (RetP (fun v_ w_=>∃ C D G S U V I l m W zA_0 zA_1 zA_2 zA_3 zA_4 zA_5 zA_6 zA_7 zA_8 zA_9 zA_10 J K_ Az_0_0 cz_0_0 Az_1_1 cz_1_1 Az_1_5 cz_1_5 Az_2 cz_2 yz_2 Az_3 cz_3 yz_3 AzA_6 czA_6 AzA_7 czA_7 AzA_8 czA_8 AzA_9 czA_9 AzA_10 czA_10 Ar0 cr0,res_=.ok ((Dresolver.mk (DProgram.mk C) (DFunc.mk D G S U V I) l m W),(DStmt.mk zA_0 zA_1 zA_2 zA_3 zA_4 zA_5 zA_6 zA_7 zA_8 zA_9 zA_10),J)∧v_=sl Ar0 J cr0∧SR K K_ w w_ [.box bs g (vR n h o i p j q r s t u k v c a d e b f z).toArray 84,.row br (sl c a d) 9 1 a.length x,.stk br (sl e b f) 81 b.length y,.box bsA gA (vS sA_0 sA_1 sA_2 sA_3 sA_4 sA_5 AsA_6 sA_6 csA_6 AsA_7 sA_7 csA_7 AsA_8 sA_8 csA_8 AsA_9 sA_9 csA_9 AsA_10 sA_10 csA_10).toArray 47] [.box bs g (vR Az_0_0 C cz_0_0 D Az_1_1 G cz_1_1 S U V Az_1_5 I cz_1_5 Az_2 l cz_2 Az_3 m cz_3 W).toArray 84,.row br (sl Az_2 l cz_2) 9 1 l.length yz_2,.stk br (sl Az_3 m cz_3) 81 m.length yz_3,.box bsA gA (vS zA_0 zA_1 zA_2 zA_3 zA_4 zA_5 AzA_6 zA_6 czA_6 AzA_7 zA_7 czA_7 AzA_8 zA_8 czA_8 AzA_9 zA_9 czA_9 AzA_10 zA_10 czA_10).toArray 47]∧tF K_ Az_0_0 cz_0_0 C∧D.size ≤ mB∧tP K_ Az_1_1 cz_1_1 G∧tS K_ Az_1_5 cz_1_5 I∧Reps RStr 1 l yz_2∧l.length * 16 ≤ mB∧StkR kS VInt m yz_3∧m.length * 8 ≤ mB∧zA_1.size ≤ mB∧zA_3.size ≤ mB∧tE K_ AzA_6 czA_6 zA_6∧tS K_ AzA_7 czA_7 zA_7∧tS K_ AzA_8 czA_8 zA_8∧tS K_ AzA_9 czA_9 zA_9∧tC K_ AzA_10 czA_10 zA_10∧tS K_ Ar0 cr0 J) (fun v_ w_=>∃ c_ K_,res_=.error c_∧v_=.iface 63 (.agg #[iI c_])∧SR K K_ w w_ [.box bs g (vR n h o i p j q r s t u k v c a d e b f z).toArray 84,.row br (sl c a d) 9 1 a.length x,.stk br (sl e b f) 81 b.length y,.box bsA gA (vS sA_0 sA_1 sA_2 sA_3 sA_4 sA_5 AsA_6 sA_6 csA_6 AsA_7 sA_7 csA_7 AsA_8 sA_8 csA_8 AsA_9 sA_9 csA_9 AsA_10 sA_10 csA_10).toArray 47] []))
def f1005066_spec (X:Dresolver→BA→LS→Option (Except Int (Dresolver × LS))):Prop:=∀ {K w g bs br h n o i j p q r s t k u v a c d x b e f y z A B N O res_},X (Dresolver.mk (DProgram.mk h) (DFunc.mk i j r s t k) a b z) A B=some res_→GK K→tF K n o h→i.size ≤ mB→tP K p q j→tS K u v k→Reps RStr 1 a x→a.length * 16 ≤ mB→StkR kS VInt b y→b.length * 8 ≤ mB→br ≤ (zz w)→A.size ≤ mB→tS K N O B→ SR K K w w [.box bs g (vR n h o i p j q r s t u k v c a d e b f z).toArray 84,.row br (sl c a d) 9 1 a.length x,.stk br (sl e b f) 81 b.length y] [.box bs g (vR n h o i p j q r s t u k v c a d e b f z).toArray 84,.row br (sl c a d) 9 1 a.length x,.stk br (sl e b f) 81 b.length y]→Calls Tryd.prog 50 #[.pointer (some ⟨g,0,none⟩),.string A,sl N B O,.pointer none] w (RetP (fun v_ w_=>∃ C D G S U V I l m W J K_ Az_0_0 cz_0_0 Az_1_1 cz_1_1 Az_1_5 cz_1_5 Az_2 cz_2 yz_2 Az_3 cz_3 yz_3 Ar0 cr0,res_=.ok ((Dresolver.mk (DProgram.mk C) (DFunc.mk D G S U V I) l m W),J)∧v_=sl Ar0 J cr0∧SR K K_ w w_ [.box bs g (vR n h o i p j q r s t u k v c a d e b f z).toArray 84,.row br (sl c a d) 9 1 a.length x,.stk br (sl e b f) 81 b.length y] [.box bs g (vR Az_0_0 C cz_0_0 D Az_1_1 G cz_1_1 S U V Az_1_5 I cz_1_5 Az_2 l cz_2 Az_3 m cz_3 W).toArray 84,.row br (sl Az_2 l cz_2) 9 1 l.length yz_2,.stk br (sl Az_3 m cz_3) 81 m.length yz_3]∧tF K_ Az_0_0 cz_0_0 C∧D.size ≤ mB∧tP K_ Az_1_1 cz_1_1 G∧tS K_ Az_1_5 cz_1_5 I∧Reps RStr 1 l yz_2∧l.length * 16 ≤ mB∧StkR kS VInt m yz_3∧m.length * 8 ≤ mB∧tS K_ Ar0 cr0 J) (fun v_ w_=>∃ c_ K_,res_=.error c_∧v_=.iface 63 (.agg #[iI c_])∧SR K K_ w w_ [.box bs g (vR n h o i p j q r s t u k v c a d e b f z).toArray 84,.row br (sl c a d) 9 1 a.length x,.stk br (sl e b f) 81 b.length y] []))
def f30_spec (X:DProgram→DFunc→Option (Except Int (DFunc × LB))):Prop:=∀ {K w b c d e res_},X b d=some res_→GK K→RDProgram K b c→RDFunc K d e→ SR K K w w [] []→Calls Tryd.prog 30 #[.agg c.toArray,.agg e.toArray] w (RetP (fun v_ w_=>∃ f a K_ csr0 Ar1 cr1,res_=.ok (f,a)∧v_=.tuple #[.agg csr0.toArray,sl Ar1 a cr1]∧SR K K_ w w_ [] []∧RDFunc K_ f csr0∧RSl BA RStr 1 16 K_ Ar1 cr1 a) (fun v_ w_=>∃ c_ K_,res_=.error c_∧v_=.iface 63 (.agg #[iI c_])∧SR K K_ w w_ [] []))
def f16_spec (X:DProgram→Option (Except Int (DProgram × (List LB)))):Prop:=∀ (K:KH) (w:World) (b:DProgram) (c:List Value) (res_:(Except Int (DProgram × (List LB)))),X b=some res_→GK K→RDProgram K b c→ SR K K w w [] []→Calls Tryd.prog 16 #[.agg c.toArray] w (RetP (fun v_ w_=>∃ d a K_ csr0 Ar1 cr1,res_=.ok (d,a)∧v_=.tuple #[.agg csr0.toArray,sl Ar1 a cr1]∧SR K K_ w w_ [] []∧RDProgram K_ d csr0∧RSl LB (RSlE BA (fun K=>RStr) 1 16 K_) 1 24 K_ Ar1 cr1 a) (fun v_ w_=>∃ c_ K_,res_=.error c_∧v_=.iface 63 (.agg #[iI c_])∧SR K K_ w w_ [] []))
def f51_spec (X:DExpr→Option Int):Prop:=∀ {K w a b c},X a=some c→GK K→RDExpr K a b→ SR K K w w [] []→Calls Tryd.prog 51 #[.agg b.toArray] w (Ret (fun v_ w_=>∃ K_,v_=iI c∧SR K K_ w w_ [] []))
def f1005331_spec (X:LE→Option LE):Prop:=∀ {K w a c d b},X a=some b→GK K→tE K c d a→ SR K K w w [] []→Calls Tryd.prog 53 #[sl c a d,.func (.func 51) #[] #[]] w (Ret (fun v_ w_=>∃ K_ Ar0 cr0,v_=sl Ar0 b cr0∧SR K K_ w w_ [] []∧tE K_ Ar0 cr0 b))
def f1005931_spec (X:DExpr→Option DExpr):Prop:=∀ {K w a b c},X a=some c→GK K→RDExpr K a b→ SR K K w w [] []→Calls Tryd.prog 59 #[.agg b.toArray,.func (.func 51) #[] #[]] w (Ret (fun v_ w_=>∃ K_ csr0,v_=.agg csr0.toArray∧SR K K_ w w_ [] []∧RDExpr K_ c csr0))
def f52_spec (X:DExpr→Option Int):Prop:=∀ {K w a b c},X a=some c→GK K→RDExpr K a b→ SR K K w w [] []→Calls Tryd.prog 52 #[.agg b.toArray] w (Ret (fun v_ w_=>∃ K_,v_=iI c∧SR K K_ w w_ [] []))
def f1005362_spec (X:LE→Option LE):Prop:=∀ {K w a c d b},X a=some b→GK K→tE K c d a→ SR K K w w [] []→Calls Tryd.prog 53 #[sl c a d,.func (.func 52) #[] #[]] w (Ret (fun v_ w_=>∃ K_ Ar0 cr0,v_=sl Ar0 b cr0∧SR K K_ w w_ [] []∧tE K_ Ar0 cr0 b))
def f1005962_spec (X:DExpr→Option DExpr):Prop:=∀ {K w a b c},X a=some c→GK K→RDExpr K a b→ SR K K w w [] []→Calls Tryd.prog 59 #[.agg b.toArray,.func (.func 52) #[] #[]] w (Ret (fun v_ w_=>∃ K_ csr0,v_=.agg csr0.toArray∧SR K K_ w w_ [] []∧RDExpr K_ c csr0))
def f40_spec (X:LS→Bool→Option LS):Prop:=∀ {K w a c d e b},X a e=some b→GK K→tS K c d a→ SR K K w w [] []→Calls Tryd.prog 40 #[sl c a d,.bool e] w (Ret (fun v_ w_=>∃ K_ Ar0 cr0,v_=sl Ar0 b cr0∧SR K K_ w w_ [] []∧tS K_ Ar0 cr0 b))
def f31_spec (X:DProgram→Bool→Option DProgram):Prop:=∀ {K w a b c d},X a c=some d→GK K→RDProgram K a b→ SR K K w w [] []→Calls Tryd.prog 31 #[.agg b.toArray,.bool c] w (Ret (fun v_ w_=>∃ K_ csr0,v_=.agg csr0.toArray∧SR K K_ w w_ [] []∧RDProgram K_ d csr0))
def f18_spec (X:DProgram→Option (Except Int DProgram)):Prop:=∀ {K w a b res_},X a=some res_→GK K→RDProgram K a b→ SR K K w w [] []→Calls Tryd.prog 18 #[.agg b.toArray] w (RetP (fun v_ w_=>∃ c K_ csr0,res_=.ok c∧v_=.agg csr0.toArray∧SR K K_ w w_ [] []∧RDProgram K_ c csr0) (fun v_ w_=>∃ c_ K_,res_=.error c_∧v_=.iface 63 (.agg #[iI c_])∧SR K K_ w w_ [] []))
def f22_spec (X:DProgram→Int→Option (Except Int (DProgram × LB))):Prop:=∀ {K w b c d res_},X b d=some res_→GK K→RDProgram K b c→ SR K K w w [] []→Calls Tryd.prog 22 #[.agg c.toArray,iI d] w (RetP (fun v_ w_=>∃ e a K_ csr0 Ar1 cr1,res_=.ok (e,a)∧v_=.tuple #[.agg csr0.toArray,sl Ar1 a cr1]∧SR K K_ w w_ [] []∧RDProgram K_ e csr0∧RSl BA RStr 1 16 K_ Ar1 cr1 a) (fun v_ w_=>∃ c_ K_,res_=.error c_∧v_=.iface 63 (.agg #[iI c_])∧SR K K_ w w_ [] []))
def f1002138_spec (X:DProgram→Int→LB→Option (Except Int (DProgram × Int × LB))):Prop:=∀ {K w g bs a b c gA bsA sA gB bsB sB AsB csB res_},X (DProgram.mk a) sA sB=some res_→GK K→tF K b c a→RSl BA RStr 1 16 K AsB csB sB→ SR K K w w [.box bs g #[sl b a c] 24,.box bsA gA #[iI sA] 3,.box bsB gB #[sl AsB sB csB] 38] [.box bs g #[sl b a c] 24,.box bsA gA #[iI sA] 3,.box bsB gB #[sl AsB sB csB] 38]→Calls Tryd.prog 21 #[.pointer (some ⟨g,0,none⟩),.pointer (some ⟨gA,0,none⟩),.pointer (some ⟨gB,0,none⟩)] w (RetP (fun v_ w_=>∃ d zA zB K_ Az_0 cz_0 AzB czB,res_=.ok ((DProgram.mk d),zA,zB)∧v_=.tuple #[]∧SR K K_ w w_ [.box bs g #[sl b a c] 24,.box bsA gA #[iI sA] 3,.box bsB gB #[sl AsB sB csB] 38] [.box bs g #[sl Az_0 d cz_0] 24,.box bsA gA #[iI zA] 3,.box bsB gB #[sl AzB zB czB] 38]∧tF K_ Az_0 cz_0 d∧RSl BA RStr 1 16 K_ AzB czB zB) (fun v_ w_=>∃ c_ K_,res_=.error c_∧v_=.iface 63 (.agg #[iI c_])∧SR K K_ w w_ [.box bs g #[sl b a c] 24,.box bsA gA #[iI sA] 3,.box bsB gB #[sl AsB sB csB] 38] [.box bs g #[sl b a c] 24,.box bsA gA #[iI sA] 3,.box bsB gB #[sl AsB sB csB] 38]))
def f1001452_spec (X:DProgram→Int→LB→Option (DProgram × Int × LB × Int)):Prop:=∀ {K w g bs a b c gA bsA sA gB bsB sB AsB csB d zA zB e},X (DProgram.mk a) sA sB=some ((DProgram.mk d),zA,zB,e)→GK K→tF K b c a→RSl BA RStr 1 16 K AsB csB sB→ SR K K w w [.box bs g #[sl b a c] 24,.box bsA gA #[iI sA] 3,.box bsB gB #[sl AsB sB csB] 38] [.box bs g #[sl b a c] 24,.box bsA gA #[iI sA] 3,.box bsB gB #[sl AsB sB csB] 38]→Calls Tryd.prog 14 #[.func (.func 21) #[] #[.pointer (some ⟨g,0,none⟩),.pointer (some ⟨gA,0,none⟩),.pointer (some ⟨gB,0,none⟩)]] w (Ret (fun v_ w_=>∃ K_ Az_0 cz_0 AzB czB,v_=iI e∧SR K K_ w w_ [.box bs g #[sl b a c] 24,.box bsA gA #[iI sA] 3,.box bsB gB #[sl AsB sB csB] 38] [.box bs g #[sl Az_0 d cz_0] 24,.box bsA gA #[iI zA] 3,.box bsB gB #[sl AzB zB czB] 38]∧tF K_ Az_0 cz_0 d∧RSl BA RStr 1 16 K_ AzB czB zB))
def f11_spec (X:DProgram→Int→Option (LB × Int)):Prop:=∀ {K w b c d a e},X b d=some (a,e)→GK K→RDProgram K b c→ SR K K w w [] []→Calls Tryd.prog 11 #[.agg c.toArray,iI d] w (Ret (fun v_ w_=>∃ K_ Ar0 cr0,v_=.tuple #[sl Ar0 a cr0,iI e]∧SR K K_ w w_ [] []∧RSl BA RStr 1 16 K_ Ar0 cr0 a))
def f33_spec (X:LE→Int→Option Int):Prop:=∀ {K w a b c d e},X a d=some e→GK K→tE K b c a→ SR K K w w [] []→Calls Tryd.prog 33 #[sl b a c,iI d] w (Ret (fun v_ w_=>∃ K_,v_=iI e∧SR K K_ w w_ [] []))
def f23_spec (X:LS→Int→Option Int):Prop:=∀ {K w a b c d e},X a d=some e→GK K→tS K b c a→ SR K K w w [] []→Calls Tryd.prog 23 #[sl b a c,iI d] w (Ret (fun v_ w_=>∃ K_,v_=iI e∧SR K K_ w w_ [] []))
def f12_spec (X:DProgram→Option Bool):Prop:=∀ {K w a b c},X a=some c→GK K→RDProgram K a b→ SR K K w w [] []→Calls Tryd.prog 12 #[.agg b.toArray] w (Ret (fun v_ w_=>∃ K_,v_=.bool c∧SR K K_ w w_ [] []))
def f5_spec (X:DProgram→Option Bool):Prop:=∀ {K w a b c},X a=some c→GK K→RDProgram K a b→ SR K K w w [] []→Calls Tryd.prog 5 #[.agg b.toArray] w (Ret (fun v_ w_=>∃ K_,v_=.bool c∧SR K K_ w w_ [] []))
def f1001504_spec (X:DProgram→DProgram→Option (Except Int (DProgram × DProgram))):Prop:=∀ {K w g bs a b c gA bsA sA_0 AsA_0 csA_0 res_},X (DProgram.mk a) (DProgram.mk sA_0)=some res_→GK K→tF K b c a→tF K AsA_0 csA_0 sA_0→ SR K K w w [.box bs g #[sl b a c] 24,.box bsA gA #[sl AsA_0 sA_0 csA_0] 24] [.box bs g #[sl b a c] 24,.box bsA gA #[sl AsA_0 sA_0 csA_0] 24]→Calls Tryd.prog 15 #[.pointer (some ⟨g,0,none⟩),.pointer (some ⟨gA,0,none⟩)] w (RetP (fun v_ w_=>∃ d zA_0 K_ Az_0 cz_0 AzA_0 czA_0,res_=.ok ((DProgram.mk d),(DProgram.mk zA_0))∧v_=.tuple #[]∧SR K K_ w w_ [.box bs g #[sl b a c] 24,.box bsA gA #[sl AsA_0 sA_0 csA_0] 24] [.box bs g #[sl Az_0 d cz_0] 24,.box bsA gA #[sl AzA_0 zA_0 czA_0] 24]∧tF K_ Az_0 cz_0 d∧tF K_ AzA_0 czA_0 zA_0) (fun v_ w_=>∃ c_ K_,res_=.error c_∧v_=.iface 63 (.agg #[iI c_])∧SR K K_ w w_ [.box bs g #[sl b a c] 24,.box bsA gA #[sl AsA_0 sA_0 csA_0] 24] [.box bs g #[sl b a c] 24,.box bsA gA #[sl AsA_0 sA_0 csA_0] 24]))
def f1001447_spec (X:DProgram→DProgram→Option (DProgram × DProgram × Int)):Prop:=∀ {K w g bs a b c gA bsA sA_0 AsA_0 csA_0 d zA_0 e},X (DProgram.mk a) (DProgram.mk sA_0)=some ((DProgram.mk d),(DProgram.mk zA_0),e)→GK K→tF K b c a→tF K AsA_0 csA_0 sA_0→ SR K K w w [.box bs g #[sl b a c] 24,.box bsA gA #[sl AsA_0 sA_0 csA_0] 24] [.box bs g #[sl b a c] 24,.box bsA gA #[sl AsA_0 sA_0 csA_0] 24]→Calls Tryd.prog 14 #[.func (.func 15) #[] #[.pointer (some ⟨g,0,none⟩),.pointer (some ⟨gA,0,none⟩)]] w (Ret (fun v_ w_=>∃ K_ Az_0 cz_0 AzA_0 czA_0,v_=iI e∧SR K K_ w w_ [.box bs g #[sl b a c] 24,.box bsA gA #[sl AsA_0 sA_0 csA_0] 24] [.box bs g #[sl Az_0 d cz_0] 24,.box bsA gA #[sl AzA_0 zA_0 czA_0] 24]∧tF K_ Az_0 cz_0 d∧tF K_ AzA_0 czA_0 zA_0))
def f7_spec (X:DProgram→Option (DProgram × Int)):Prop:=∀ {K w a b c d},X a=some (c,d)→GK K→RDProgram K a b→ SR K K w w [] []→Calls Tryd.prog 7 #[.agg b.toArray] w (Ret (fun v_ w_=>∃ K_ csr0,v_=.tuple #[.agg csr0.toArray,iI d]∧SR K K_ w w_ [] []∧RDProgram K_ c csr0))
def f6_spec (X:Option Bool):Prop:=∀ {K w a},X =some a→GK K→ SR K K w w [] []→Calls Tryd.prog 6 #[] w (Ret (fun v_ w_=>∃ K_,v_=.bool a∧SR K K_ w w_ [] []))
def f4_spec (X:DProgram→Option Bool):Prop:=∀ {K w a b c},X a=some c→GK K→RDProgram K a b→ SR K K w w [] []→Calls Tryd.prog 4 #[.agg b.toArray] w (Ret (fun v_ w_=>∃ K_,v_=.bool c∧SR K K_ w w_ [] []))
end Go.Proofs.YtoajecnoffhlbaaDoor
set_option maxRecDepth 100000
set_option maxHeartbeats 4000000
namespace Go.Proofs.YtoajecnoffhlbaaDoor
open Go
theorem f20_b_ok (k:Nat) (F:Fam20) (IH20:f20_spec F.f20):f20_spec (f20_b k F):=by
 unfold f20_spec
 intro K wi g q s j am h hG V ad
 obtain ⟨r_,hr_,h⟩:=rz h
 refine enter Tryd.func20 rfl (n:=45) rfl ?_
 unfold f20_b at h
 refine sr (m2 vN (wt (wp_seq (sr (m2 (iI 0) (wt (wp_block (wp_loopG (fun g_ a w=>∃ W x t,∃ (c:Nat),g_=t.length∧a=fr 45 (updL W [(0,sl q g s),(1,iI j),(5,iI (c:Int))])∧KH.sub K x∧SR K x wi w [] []∧g.drop c=t∧f20_l1 k F j t c=some r_) g.length ?_ ?_))))))))
 ·exact ⟨_,K,g,0,rfl,fR,kr,ad,List.drop_zero,h⟩
 ·rintro _ _ an ⟨W,x,t,c,rfl,rfl,y,l,m,h⟩
  rcases t with _ | ⟨⟨J,ao,ap,u,D⟩,t⟩
  ·unfold f20_l1 at h
   refine wp_seq (sr (m1 (iI (c:Int)) (m1 (sl q g s) (lS g.length Tye44 (bcm (r:=false) rfl rfl (congrArg some (drop_nil_lt m)) (wt (cndF rfl (wp_exit (thenX (thenX (blkX (thenN (sr (m2 vT (wt (wp_ret ?_))))))))))))))))
   cases (oi h).trans hr_
   exact retA1 rfl (resT rfl) ⟨x,rfl,l⟩
  ·unfold f20_l1 at h
   refine wp_seq (sr (m1 (iI (c:Int)) (m1 (sl q g s) (lS g.length Tye44 (bcm (r:=true) rfl rfl (congrArg some (drop_cons_t m)) (wt (cndT rfl (wp_skip (thenN (wp_seq (wp_block (wp_cut (fun a w=>∃ X z N,a=fr 45 (updL X [(0,sl q g s),(1,iI j),(5,iI (c:Int)),(44,.bool N)])∧KH.sub x z∧SR K z wi w [] []∧f20_j1 k F c N (f20_l1 k F j t)=some r_) ?_ ?_))))))))))))
   ·refine wp_region_lit (m1 (sl q g s) (m1 (iI (c:Int)) ?_))
    obtain ⟨A,p,aq,B,ar,C,ae⟩:=((me V y)).row.at_ (drop_cons_at m)
    obtain ⟨G,I,rfl,au,Y⟩:=RDExpr.open ae
    refine idxN (b:=A) (o:=p) (i:=c) Tye44 Tys61 rfl B rfl (drop_cons_lt m) (fd (p + c * 5 + 0) Tyf61_0 rfl (ld1 (v:=iI J) Tya3 rfl (l.cell (kr.cell (C 0 _ rfl))) (c0 (J == 4) (m1 (.bool (J == 4)) (cd h (fun d h=>?_) (fun d h=>?_))))))
    ·refine n1 18 d (m1 (sl q g s) (n1 18 d (m1 (iI (c:Int)) (n1 18 d (idxN (b:=A) (o:=p) (i:=c) Tye44 Tys61 rfl B rfl (drop_cons_lt m) (n1 18 d (fd (p + c * 5 + 3) Tyf61_3 rfl (n1 18 d (ld1 (v:=iI u) Tya3 rfl (l.cell (kr.cell (C 3 _ rfl))) (n1 18 d (c0 (decide (u < 0)) (n1 18 d (m1 (.bool (decide (u < 0))) (cd h (fun f h=>?_) (fun f h=>?_)))))))))))))))
     ·exact o1 25 f (o1 25 f (o1 25 f (o1 25 f (o1 25 f (o1 25 f (o1 25 f (n1 18 d (m3 true vT (cg f) (m3 true vT (cg d) (m1 vT (o0 35 (o0 35 (o0 35 (o0 35 (o0 35 (o0 35 (o0 35 (o0 35 (m3 true vT rfl (wt (⟨_,x,true,fR,kr,l,h⟩)))))))))))))))))))))
     ·refine n1 25 f (m1 (sl q g s) (n1 25 f (m1 (iI (c:Int)) (n1 25 f (idxN (b:=A) (o:=p) (i:=c) Tye44 Tys61 rfl B rfl (drop_cons_lt m) (n1 25 f (fd (p + c * 5 + 3) Tyf61_3 rfl (n1 25 f (ld1 (v:=iI u) Tya3 rfl (l.cell (kr.cell (C 3 _ rfl))) (n1 25 f (m1 (iI j) (n1 25 f (c0 (decide (u ≥ j)) (n1 18 d (m3 false (.bool (decide (u ≥ j))) (cg f) (m3 true (.bool (decide (u ≥ j))) (cg d) (m1 (.bool (decide (u ≥ j))) (cd h (fun e h=>?_) (fun e h=>?_)))))))))))))))))))
      ·exact o1 35 e (o1 35 e (o1 35 e (o1 35 e (o1 35 e (o1 35 e (o1 35 e (o1 35 e (m3 true vT (cg e) (wt (⟨_,x,true,fR,kr,l,h⟩))))))))))
      ·refine n1 35 e (m1 (sl q g s) (n1 35 e (m1 (iI (c:Int)) (n1 35 e (idxN (b:=A) (o:=p) (i:=c) Tye44 Tys61 rfl B rfl (drop_cons_lt m) (n1 35 e (fd (p + c * 5 + 4) Tyf61_4 rfl (n1 35 e (ld1 (v:=sl G D I) Tya44 rfl (l.cell (kr.cell (C 4 _ rfl))) (n1 35 e (m1 (iI j) (n1 35 e ?_))))))))))))
       obtain ⟨O,af,h⟩:=ob h
       refine cv ([sl G D I,iI j]) Tyb20 (IH20 af (hG.mono y) Y (pt l)) ?_
       rintro _ av ⟨ag,rfl,Z⟩
       have ah:=ca Z l
       exact n1 35 e (uN O (m3 false (.bool (!O)) (cg e) (wt (⟨_,ag,(!O),fR,Z.sub,ah,h⟩))))
    ·refine o1 18 d (o1 18 d (o1 18 d (o1 18 d (o1 18 d (o1 18 d (o1 18 d (ou 25 (ou 25 (ou 25 (ou 25 (ou 25 (ou 25 (ou 25 (o1 18 d (m3 false vN (cg d) (m1 vN (n0 35 (m1 (sl q g s) (n0 35 (m1 (iI (c:Int)) (n0 35 (idxN (b:=A) (o:=p) (i:=c) Tye44 Tys61 rfl B rfl (drop_cons_lt m) (n0 35 (fd (p + c * 5 + 4) Tyf61_4 rfl (n0 35 (ld1 (v:=sl G D I) Tya44 rfl (l.cell (kr.cell (C 4 _ rfl))) (n0 35 (m1 (iI j) (n0 35 ?_)))))))))))))))))))))))))))))
     obtain ⟨S,ai,h⟩:=ob h
     refine cv ([sl G D I,iI j]) Tyb20 (IH20 ai (hG.mono y) Y (pt l)) ?_
     rintro _ aw ⟨aj,rfl,ab⟩
     have ak:=ca ab l
     exact n0 35 (uN S (m3 false (.bool (!S)) rfl (wt (⟨_,aj,(!S),fR,ab.sub,ak,h⟩))))
   ·rintro _ ax ⟨X,z,N,rfl,al,ac,h⟩
    unfold f20_j1 at h
    refine cd h (fun U h=>?_) (fun U h=>?_)
    ·refine cT U (sr (m2 vN (wt (wp_ret (blkR (thenR (thenR (blkR (thenR ?_)))))))))
     cases (oi h).trans hr_
     exact retA1 rfl (resT rfl) ⟨z,rfl,ac⟩
    ·exact cF U (wp_skip (blkN (thenN (wp_region_lit (m1 (iI (c:Int)) (bar (r:=((c + 1:Nat):Int)) rfl rfl (inc_ok (le_big (((me V y)).len) (by decide) (drop_cons_lt m))) (m2 (iI ((c + 1:Nat):Int)) (wt (⟨_,Nat.lt_succ_self _,_,z,t,c + 1,rfl,fR,(y.trans al),ac,drop_cons_next m,h⟩)))))))))
theorem fam20_ok (k0:Nat) : ∀ k,f20_spec (fam20 k0 k).f20:=by
 intro k
 induction k with
 | zero=>exact (by unfold f20_spec; intro _ _ _ _ _ _ _ h_; cases h_)
 | succ k ih=>exact f20_b_ok k0 (fam20 k0 k) ih
theorem f20_ok (k:Nat):f20_spec (f20 k):=(fam20_ok k k)
theorem f10_b_ok (k:Nat) (F:Fam10) (IH10:f10_spec F.f10):f10_spec (f10_b k F):=by
 unfold f10_spec
 intro K wi A Z ab c e2 e3 h hG c4 dL
 obtain ⟨r_,hr_,h⟩:=rz h
 refine enter Tryd.func10 rfl (n:=199) rfl ?_
 unfold f10_b at h
 refine sr (m2 nS (m2 vN (wt (sr (m2 nS (wt (sr (m2 vT (wt (wp_seq (sr (m2 (iI 0) (wt (wp_block ?_))))))))))))))
 have dM:=dL.row_ (zz wi) 3 1
 refine wp_loopG (fun g_ a w=>∃ c5 aY N,∃ (f:Nat),∃ l ak al aZ aP,g_=N.length∧a=fr 199 (updL c5 [(0,sl Z A ab),(1,iI c),(6,sl ak l al),(7,.bool aP),(8,iI (f:Int))])∧KH.sub K aY∧SR K aY wi w [] [.row (zz wi) (sl ak l al) 3 1 l.length aZ]∧A.drop f=N∧Reps (RInt .i64) 1 l aZ∧l.length * 8 ≤ mB∧f10_l1 k F c N f l aP=some r_) A.length ?_ ?_
 ·exact ⟨_,K,A,0,([]:List Int),none,0,[],true,rfl,fR,kr,dM,List.drop_zero,(reps0 (R:=(RInt .i64)) (size:=1)),(by simp),h⟩
 ·rintro _ _ x ⟨c5,aY,N,f,l,ak,al,aZ,aP,rfl,rfl,an,cm,a2,bu,c6,h⟩
  rcases N with _ | ⟨⟨s,t,d,ac,ad,ae,O,u,q,B,g⟩,N⟩
  ·unfold f10_l1 at h
   refine wp_seq (sr (m1 (iI (f:Int)) (m1 (sl Z A ab) (lS A.length Tye32 (bcm (r:=false) rfl rfl (congrArg some (drop_nil_lt a2)) (wt (cndF rfl (wp_exit (thenX (thenX (blkX (thenN (sr (m1 (sl ak l al) (m1 (.bool aP) (m2 (sl ak l al) (m2 (.bool aP) (wt (wp_ret ?_)))))))))))))))))))
   obtain ⟨dN,dO,e4,dP⟩:=shutI (i:=0) (bytes:=8) (R:=fun K=>(RInt .i64)) cm rfl (Nat.le_refl _) bu c6 (fun hs=>(fun _ _ h=>h))
   cases (oi h).trans hr_
   exact retA2 rfl (resT rfl) (resT rfl) ⟨dN,ak,al,rfl,dO,dP⟩
  ·unfold f10_l1 at h
   refine wp_seq (sr (m1 (iI (f:Int)) (m1 (sl Z A ab) (lS A.length Tye32 (bcm (r:=true) rfl rfl (congrArg some (drop_cons_t a2)) (wt (cndT rfl (wp_skip (thenN (wp_cut (fun a w=>∃ c7 bv aG bw bx bz bA,a=fr 199 (updL c7 [(0,sl Z A ab),(1,iI c),(6,sl bw aG bx),(7,.bool bA),(8,iI (f:Int))])∧KH.sub aY bv∧SR K bv wi w [] [.row (zz wi) (sl bw aG bx) 3 1 aG.length bz]∧Reps (RInt .i64) 1 aG bz∧aG.length * 8 ≤ mB∧f10_j1 k F f aG bA (f10_l1 k F c N)=some r_) ?_ ?_))))))))))
   ·refine wp_block (sr (m1 (sl Z A ab) (m1 (iI (f:Int)) ?_)))
    obtain ⟨dQ,dR,e5,dS,e6,dT,dU⟩:=((ms c4 an)).row.at_ (drop_cons_at a2)
    obtain ⟨S,U,C,D,G,I,V,W,y,z,rfl,e7,e8,dV,c8,c9,dW,cn⟩:=RDStmt.open dU
    refine idxN (b:=dQ) (o:=dR) (i:=f) Tye32 Tys47 rfl dS rfl (drop_cons_lt a2) (lD (vS s t d ac ad ae S O U C u D G q I V B W y g z) Tya47 Tys47 rfl (fun j v hj=>cm.cell (kr.cell (dT j v hj))) (aC zS.toArray cm Tyz47 (fun e9 dX=>(sI 0 (.agg (vS s t d ac ad ae S O U C u D G q I V B W y g z).toArray) ((vS s t d ac ad ae S O U C u D G q I V B W y g z).toArray) dX Tys47 rfl rfl (fun fa bB=>(wt (wp_cut (fun a w=>∃ da a3 ao,a=fr 199 (updL da [(0,sl Z A ab),(1,iI c),(6,sl ak l al),(7,.bool ao),(8,iI (f:Int)),(9,pp (zz x) 0)])∧KH.sub aY a3∧SR K a3 wi w [] [.box (zz wi) (zz x) (vS s t d ac ad ae S O U C u D G q I V B W y g z).toArray 47,.row (zz wi) (sl ak l al) 3 1 l.length aZ]∧f10_j2 k F c l f s t d u q B g ao (f10_l1 k F c N)=some r_) ?_ ?_)))))))
    ·refine wp_region_lit (m1 (.bool aP) (m1 (.bool aP) (cd h (fun ap h=>?_) (fun ap h=>?_))))
     ·refine n1 34 ap (fd 6 Tyf47_6 rfl (n1 34 ap (l1 0 (sl S O U) bB Tya44 (n1 34 ap (m1 (iI c) (n1 34 ap ?_))))))
      obtain ⟨db,dY,h⟩:=ob h
      refine cv ([sl S O U,iI c]) Tyb20 ((f20_ok k) dY (hG.mono an) dV (pt bB)) ?_
      rintro _ fb ⟨bC,rfl,bi⟩
      have aQ:=ca bi bB
      refine m3 true (.bool db) (cg ap) (m1 (.bool db) (cd h (fun X h=>?_) (fun X h=>?_)))
      ·refine n1 40 X (fd 2 Tyf47_2 rfl (n1 40 X (l1 0 (iI d) aQ Tya3 (n1 40 X (c0 (d == 0) (n1 40 X (m1 (.bool (d == 0)) (cd h (fun af h=>?_) (fun af h=>?_)))))))))
       ·exact o1 44 af (o1 44 af (o1 44 af (o1 44 af (ou 48 (ou 48 (ou 48 (ou 48 (o1 44 af (n1 40 X (m3 true vT (cg af) (m3 true vT (cg X) (m2 vT (wt (⟨_,bC,true,fR,bi.sub,aQ,h⟩))))))))))))))
       ·refine n1 44 af (fd 2 Tyf47_2 rfl (n1 44 af (l1 0 (iI d) aQ Tya3 (n1 44 af (c0 (decide (d > 0)) (n1 44 af (m1 (.bool (decide (d > 0))) (cd h (fun aq h=>?_) (fun aq h=>?_)))))))))
        ·exact n1 48 aq (fd 2 Tyf47_2 rfl (n1 48 aq (l1 0 (iI d) aQ Tya3 (n1 48 aq (m1 (iI c) (n1 48 aq (c0 (decide (d < c)) (n1 44 af (m3 true (.bool (decide (d < c))) (cg aq) (n1 40 X (m3 false (.bool (decide (d < c))) (cg af) (m3 true (.bool (decide (d < c))) (cg X) (m2 (.bool (decide (d < c))) (wt (⟨_,bC,(decide (d < c)),fR,bi.sub,aQ,h⟩)))))))))))))))
        ·exact o1 48 aq (o1 48 aq (o1 48 aq (o1 48 aq (n1 44 af (m3 false vN (cg aq) (n1 40 X (m3 false vN (cg af) (m3 true vN (cg X) (m2 vN (wt (⟨_,bC,false,fR,bi.sub,aQ,h⟩)))))))))))
      ·exact o1 40 X (o1 40 X (o1 40 X (o1 40 X (ou 44 (ou 44 (ou 44 (ou 44 (ou 48 (ou 48 (ou 48 (ou 48 (ou 44 (o1 40 X (m3 false vN (cg X) (m2 vN (wt (⟨_,bC,false,fR,bi.sub,aQ,h⟩)))))))))))))))))
     ·exact o1 34 ap (o1 34 ap (o1 34 ap (o1 34 ap (m3 false vN (cg ap) (m1 vN (o0 40 (o0 40 (o0 40 (o0 40 (ou 44 (ou 44 (ou 44 (ou 44 (ou 48 (ou 48 (ou 48 (ou 48 (ou 44 (o0 40 (m3 false vN rfl (m2 vN (wt (⟨_,aY,false,fR,kr,bB,h⟩)))))))))))))))))))))))
    ·rintro _ fc ⟨da,a3,ao,rfl,Y,aH,h⟩
     unfold f10_j2 at h
     refine wp_seq (sr (fd 0 Tyf47_0 rfl (l1 0 (iI s) aH Tya3 (c0 (s == 24) (wt (cd h (fun co h=>?_) (fun co h=>?_)))))))
     ·refine cT co (sr (fd 7 Tyf47_7 rfl (l1 0 (sl C u D) aH Tya32 (m1 (iI c) ?_))))
      obtain ⟨⟨az,aR⟩,dZ,h⟩:=ob h
      refine cv ([sl C u D,iI c]) Tyb10 (IH10 dZ (hG.mono (an.trans Y)) (ms c8 Y) (pt aH)) ?_
      rintro _ fe ⟨cq,bD,bE,rfl,a4,d0⟩
      have d1:=ca a4 aH
      refine m1 (.tuple #[sl bD az bE,.bool aR]) (ext (v:=sl bD az bE) rfl rfl (ext (v:=.bool aR) rfl rfl (m2 (sl bD az bE) (m2 (.bool aR) (wt (wp_cut (fun a w=>∃ dc am bj bk bF aS,a=fr 199 (updL dc [(0,sl Z A ab),(1,iI c),(6,sl bj am bk),(7,.bool aS),(8,iI (f:Int)),(9,pp (zz x) 0)])∧SR K cq wi w [] [.box (zz wi) (zz x) (vS s t d ac ad ae S O U C u D G q I V B W y g z).toArray 47,.row (zz wi) (sl bj am bk) 3 1 am.length bF]∧Reps (RInt .i64) 1 am bF∧am.length * 8 ≤ mB∧f10_j3 k F c f t d q B am aS (f10_l1 k F c N)=some r_) ?_ ?_))))))
      ·refine wp_region_lit (m1 (sl ak l al) (m1 (sl bD az bE) ?_))
       obtain ⟨cr,h⟩:=of_guard h
       refine apS (R:=fun K=>(RInt .i64)) (zs:=az) (i:=1) d1 rfl Tye35 Tyi3 rfl (by decide) rfl rfl (bu.mono (fun _ _ h=>h)) d0 (fun _ _ h=>RInt.one h) (Nat.le_refl _) cr (by decide) (fun bG bH dd ff de df=>(m1 (.bool ao) (m1 (.bool ao) (cd h (fun bm h=>?_) (fun bm h=>?_)))))
       ·exact n1 70 bm (m1 (.bool aR) (m3 true (.bool aR) (cg bm) (m2 (.slice bG (l ++ az).length bH) (m2 (.bool aR) (wt (⟨_,(l ++ az),bG,bH,dd,aR,fR,de,df,(apps_bound cr),h⟩))))))
       ·exact o1 70 bm (m3 false vN (cg bm) (m2 (.slice bG (l ++ az).length bH) (m2 vN (wt (⟨_,(l ++ az),bG,bH,dd,false,fR,de,df,(apps_bound cr),h⟩)))))
      ·rintro _ fg ⟨dc,am,bj,bk,bF,aS,rfl,bI,dg,d2,h⟩
       unfold f10_j3 at h
       refine wp_cut (fun a w=>∃ dh ag bJ bK cs,a=fr 199 (updL dh [(0,sl Z A ab),(1,iI c),(6,sl bJ ag bK),(7,.bool aS),(8,iI (f:Int)),(9,pp (zz x) 0)])∧SR K cq wi w [] [.box (zz wi) (zz x) (vS s t d ac ad ae S O U C u D G q I V B W y g z).toArray 47,.row (zz wi) (sl bJ ag bK) 3 1 ag.length cs]∧Reps (RInt .i64) 1 ag cs∧ag.length * 8 ≤ mB∧f10_j4 k F c f q B aS ag (f10_l1 k F c N)=some r_) ?_ ?_
       ·refine sr (fd 1 Tyf47_1 rfl (l1 0 (.string t) bI Tya9 (bsc (r:=(!seq t ⟨#[]⟩)) rfl rfl rfl (wt (cd h (fun ct h=>?_) (fun ct h=>?_))))))
        ·refine cT ct (wp_region_lit (m1 (sl bj am bk) (fd 2 Tyf47_2 rfl (l1 0 (iI d) bI Tya3 (bsl (e:=3) (cells:=#[iI d]) (vs:=[(0,iI d)]) bI rfl (buildSl_one Tye35 Tys3 Tyz3 rfl (by decide) (by decide) rfl) (fun fh d3=>?_))))))
         obtain ⟨di,h⟩:=of_guard h
         refine apR (R:=(RInt .i64)) (p:=d) (i:=2) (j:=0) d3 rfl rfl Tye35 Tyi3 rfl (by decide) rfl rfl dg rfl rfl rfl (Nat.le_refl _) di (by decide) (fun cu cw dj d4 d5 d6=>?_)
         have d7:=p12 d5
         exact m2 (.slice cu (am ++ [d]).length cw) (wt (⟨_,(am ++ [d]),cu,cw,dj,fR,d7,d6,(app_bound di),h⟩))
        ·exact cF ct (wp_skip (thenN (⟨_,am,bj,bk,bF,fR,bI,dg,d2,h⟩)))
       ·rintro _ fi ⟨dh,ag,bJ,bK,cs,rfl,cx,d8,fj,h⟩
        unfold f10_j4 at h
        refine sr (fd 8 Tyf47_8 rfl (l1 0 (sl G q I) cx Tya32 (m1 (iI c) ?_)))
        obtain ⟨⟨ar,a5⟩,d9,h⟩:=ob h
        refine cv ([sl G q I,iI c]) Tyb10 (IH10 d9 (hG.mono ((an.trans Y).trans a4.sub)) (ms c9 (Y.trans a4.sub)) (pt cx)) ?_
        rintro _ fk ⟨fl,bL,bM,rfl,bN,ea⟩
        have cy:=ca bN cx
        refine m1 (.tuple #[sl bL ar bM,.bool a5]) (ext (v:=sl bL ar bM) rfl rfl (ext (v:=.bool a5) rfl rfl (m2 (sl bL ar bM) (m2 (.bool a5) (wt (sr (fd 9 Tyf47_9 rfl (l1 0 (sl V B W) cy Tya32 (m1 (iI c) ?_)))))))))
        obtain ⟨⟨au,aT⟩,ec,h⟩:=ob h
        refine cv ([sl V B W,iI c]) Tyb10 (IH10 ec (hG.mono (((an.trans Y).trans a4.sub).trans bN.sub)) (ms dW ((Y.trans a4.sub).trans bN.sub)) (pt cy)) ?_
        rintro _ fm ⟨dk,bO,bP,rfl,cz,ed⟩
        have ee:=ca cz cy
        refine m1 (.tuple #[sl bO au bP,.bool aT]) (ext (v:=sl bO au bP) rfl rfl (ext (v:=.bool aT) rfl rfl (m2 (sl bO au bP) (m2 (.bool aT) (wt (wp_cut (fun a w=>∃ dl aI bQ bR bS bT,a=fr 199 (updL dl [(0,sl Z A ab),(1,iI c),(6,sl bQ aI bR),(7,.bool bT),(8,iI (f:Int))])∧SR K dk wi w [] [.row (zz wi) (sl bQ aI bR) 3 1 aI.length bS]∧Reps (RInt .i64) 1 aI bS∧aI.length * 8 ≤ mB∧f10_j5 k F f aI bT (f10_l1 k F c N)=some r_) ?_ ?_))))))
        ·refine wp_region_lit (m1 (sl bJ ag bK) (m1 (sl bL ar bM) ?_))
         obtain ⟨ef,h⟩:=of_guard h
         refine apS (R:=fun K=>(RInt .i64)) (zs:=ar) (i:=1) ee rfl Tye35 Tyi3 rfl (by decide) rfl rfl (d8.mono (fun _ _ h=>h)) (ea.mono cz.sub (fun _ _ h=>h)) (fun _ _ h=>RInt.one h) (Nat.le_refl _) ef (by decide) (fun fn fo fp fs eg eh=>(m1 (sl bO au bP) ?_))
         obtain ⟨bU,h⟩:=of_guard h
         refine apS (R:=fun K=>(RInt .i64)) (zs:=au) (i:=1) eg rfl Tye35 Tyi3 rfl (by decide) rfl rfl eh ed (fun _ _ h=>RInt.one h) (Nat.le_refl _) bU (by decide) (fun a6 a7 cA ft cB cC=>(m1 (.bool aS) (m1 (.bool aS) (cd h (fun bn h=>?_) (fun bn h=>?_)))))
         ·refine n1 101 bn (m1 (.bool a5) (m3 true (.bool a5) (cg bn) (m1 (.bool a5) (cd h (fun bo h=>?_) (fun bo h=>?_)))))
          ·exact n1 104 bo (m1 (.bool aT) (m3 true (.bool aT) (cg bo) (m2 (.slice a6 ((ag ++ ar) ++ au).length a7) (m2 (.bool aT) (wt (⟨_,((ag ++ ar) ++ au),a6,a7,cA,aT,fR,(cB.sel [1]),cC,(apps_bound bU),h⟩))))))
          ·exact o1 104 bo (m3 false vN (cg bo) (m2 (.slice a6 ((ag ++ ar) ++ au).length a7) (m2 vN (wt (⟨_,((ag ++ ar) ++ au),a6,a7,cA,false,fR,(cB.sel [1]),cC,(apps_bound bU),h⟩)))))
         ·exact o1 101 bn (m3 false vN (cg bn) (m1 vN (o0 104 (m3 false vN rfl (m2 (.slice a6 ((ag ++ ar) ++ au).length a7) (m2 vN (wt (⟨_,((ag ++ ar) ++ au),a6,a7,cA,false,fR,(cB.sel [1]),cC,(apps_bound bU),h⟩))))))))
        ·rintro _ fu ⟨dl,aI,bQ,bR,bS,bT,rfl,ei,ej,ek,h⟩
         unfold f10_j5 at h
         exact wp_exit (thenX (blkX (thenN (⟨_,dk,aI,bQ,bR,bS,bT,fR,(((Y.trans a4.sub).trans bN.sub).trans cz.sub),ei,ej,ek,h⟩))))
     ·refine cF co (wp_skip (thenN (wp_cut (fun a w=>∃ dm ah bV bW cD,a=fr 199 (updL dm [(0,sl Z A ab),(1,iI c),(6,sl bV ah bW),(7,.bool ao),(8,iI (f:Int)),(9,pp (zz x) 0)])∧SR K a3 wi w [] [.box (zz wi) (zz x) (vS s t d ac ad ae S O U C u D G q I V B W y g z).toArray 47,.row (zz wi) (sl bV ah bW) 3 1 ah.length cD]∧Reps (RInt .i64) 1 ah cD∧ah.length * 8 ≤ mB∧f10_j6 k F c f u q g ao ah (f10_l1 k F c N)=some r_) ?_ ?_)))
      ·refine wp_cut (fun a w=>∃ dn cG,a=fr 199 (updL dn [(0,sl Z A ab),(1,iI c),(6,sl ak l al),(7,.bool ao),(8,iI (f:Int)),(9,pp (zz x) 0),(114,.bool cG)])∧SR K a3 wi w [] [.box (zz wi) (zz x) (vS s t d ac ad ae S O U C u D G q I V B W y g z).toArray 47,.row (zz wi) (sl ak l al) 3 1 l.length aZ]∧f10_j10 k F c l f d u q g ao cG (f10_l1 k F c N)=some r_) ?_ ?_
       ·refine wp_region_lit (fd 1 Tyf47_1 rfl (l1 0 (.string t) aH Tya9 (bsc (r:=(!seq t ⟨#[]⟩)) rfl rfl rfl (m1 (.bool (!seq t ⟨#[]⟩)) (cd h (fun aA h=>?_) (fun aA h=>?_))))))
        ·exact n1 110 aA (fd 0 Tyf47_0 rfl (n1 110 aA (l1 0 (iI s) aH Tya3 (n1 110 aA (c0 (s != 2) (m3 true (.bool (s != 2)) (cg aA) (wt (⟨_,(s != 2),fR,aH,h⟩))))))))
        ·exact o1 110 aA (o1 110 aA (o1 110 aA (m3 false vN (cg aA) (wt (⟨_,false,fR,aH,h⟩)))))
       ·rintro _ fv ⟨dn,cG,rfl,cH,h⟩
        unfold f10_j10 at h
        refine cd h (fun cI h=>?_) (fun cI h=>?_)
        ·refine cT cI (wp_region_lit (m1 (sl ak l al) (fd 2 Tyf47_2 rfl (l1 0 (iI d) cH Tya3 (bsl (e:=3) (cells:=#[iI d]) (vs:=[(0,iI d)]) cH rfl (buildSl_one Tye35 Tys3 Tyz3 rfl (by decide) (by decide) rfl) (fun fx el=>?_))))))
         obtain ⟨dp,h⟩:=of_guard h
         refine apR (R:=(RInt .i64)) (p:=d) (i:=2) (j:=0) el rfl rfl Tye35 Tyi3 rfl (by decide) rfl rfl (bu.mono (fun _ _ h=>h)) rfl rfl rfl (Nat.le_refl _) dp (by decide) (fun cJ cK dq em en eo=>?_)
         have ep:=p12 en
         exact m2 (.slice cJ (l ++ [d]).length cK) (wt (⟨_,(l ++ [d]),cJ,cK,dq,fR,ep,eo,(app_bound dp),h⟩))
        ·exact cF cI (wp_skip (thenN (⟨_,l,ak,al,aZ,fR,cH,(bu.mono (fun _ _ h=>h)),c6,h⟩)))
      ·rintro _ fy ⟨dm,ah,bV,bW,cD,rfl,cL,eq,fz,h⟩
       unfold f10_j6 at h
       refine sr (fd 7 Tyf47_7 rfl (l1 0 (sl C u D) cL Tya32 (m1 (iI c) ?_)))
       obtain ⟨⟨av,a8⟩,es,h⟩:=ob h
       refine cv ([sl C u D,iI c]) Tyb10 (IH10 es (hG.mono (an.trans Y)) (ms c8 Y) (pt cL)) ?_
       rintro _ fA ⟨fB,bX,bY,rfl,aB,et⟩
       have cM:=ca aB cL
       refine m1 (.tuple #[sl bX av bY,.bool a8]) (ext (v:=sl bX av bY) rfl rfl (ext (v:=.bool a8) rfl rfl (m2 (sl bX av bY) (m2 (.bool a8) (wt (sr (fd 8 Tyf47_8 rfl (l1 0 (sl G q I) cM Tya32 (m1 (iI c) ?_)))))))))
       obtain ⟨⟨aw,aU⟩,eu,h⟩:=ob h
       refine cv ([sl G q I,iI c]) Tyb10 (IH10 eu (hG.mono ((an.trans Y).trans aB.sub)) (ms c9 (Y.trans aB.sub)) (pt cM)) ?_
       rintro _ fC ⟨cN,bZ,b0,rfl,aJ,ew⟩
       have ex:=ca aJ cM
       refine m1 (.tuple #[sl bZ aw b0,.bool aU]) (ext (v:=sl bZ aw b0) rfl rfl (ext (v:=.bool aU) rfl rfl (m2 (sl bZ aw b0) (m2 (.bool aU) (wt (wp_cut (fun a w=>∃ dr aK b1 b2 b3 b4,a=fr 199 (updL dr [(0,sl Z A ab),(1,iI c),(6,sl b1 aK b2),(7,.bool b4),(8,iI (f:Int)),(9,pp (zz x) 0)])∧SR K cN wi w [] [.box (zz wi) (zz x) (vS s t d ac ad ae S O U C u D G q I V B W y g z).toArray 47,.row (zz wi) (sl b1 aK b2) 3 1 aK.length b3]∧Reps (RInt .i64) 1 aK b3∧aK.length * 8 ≤ mB∧f10_j7 k F c f g aK b4 (f10_l1 k F c N)=some r_) ?_ ?_))))))
       ·refine wp_region_lit (m1 (sl bV ah bW) (m1 (sl bX av bY) ?_))
        obtain ⟨ey,h⟩:=of_guard h
        refine apS (R:=fun K=>(RInt .i64)) (zs:=av) (i:=1) ex rfl Tye35 Tyi3 rfl (by decide) rfl rfl (eq.mono (fun _ _ h=>h)) (et.mono aJ.sub (fun _ _ h=>h)) (fun _ _ h=>RInt.one h) (Nat.le_refl _) ey (by decide) (fun fD fE fF fG ez eA=>(m1 (sl bZ aw b0) ?_))
        obtain ⟨b5,h⟩:=of_guard h
        refine apS (R:=fun K=>(RInt .i64)) (zs:=aw) (i:=1) ez rfl Tye35 Tyi3 rfl (by decide) rfl rfl eA ew (fun _ _ h=>RInt.one h) (Nat.le_refl _) b5 (by decide) (fun a9 ba cO fH cP cQ=>(m1 (.bool ao) (m1 (.bool ao) (cd h (fun bp h=>?_) (fun bp h=>?_)))))
        ·refine n1 140 bp (m1 (.bool a8) (m3 true (.bool a8) (cg bp) (m1 (.bool a8) (cd h (fun bq h=>?_) (fun bq h=>?_)))))
         ·exact n1 143 bq (m1 (.bool aU) (m3 true (.bool aU) (cg bq) (m2 (.slice a9 ((ah ++ av) ++ aw).length ba) (m2 (.bool aU) (wt (⟨_,((ah ++ av) ++ aw),a9,ba,cO,aU,fR,cP,cQ,(apps_bound b5),h⟩))))))
         ·exact o1 143 bq (m3 false vN (cg bq) (m2 (.slice a9 ((ah ++ av) ++ aw).length ba) (m2 vN (wt (⟨_,((ah ++ av) ++ aw),a9,ba,cO,false,fR,cP,cQ,(apps_bound b5),h⟩)))))
        ·exact o1 140 bp (m3 false vN (cg bp) (m1 vN (o0 143 (m3 false vN rfl (m2 (.slice a9 ((ah ++ av) ++ aw).length ba) (m2 vN (wt (⟨_,((ah ++ av) ++ aw),a9,ba,cO,false,fR,cP,cQ,(apps_bound b5),h⟩))))))))
       ·rintro _ fI ⟨dr,aK,b1,b2,b3,b4,rfl,eB,eC,eD,h⟩
        unfold f10_j7 at h
        refine sr (m2 (iI 0) (wt (wp_block (wp_loopG (fun g_ a w=>∃ ds aV aE,∃ (m:Nat),∃ ai bb bd br aL,g_=aE.length∧a=fr 199 (updL ds [(0,sl Z A ab),(1,iI c),(6,sl bb ai bd),(7,.bool aL),(8,iI (f:Int)),(9,pp (zz x) 0),(20,iI (m:Int))])∧KH.sub cN aV∧SR K aV wi w [] [.box (zz wi) (zz x) (vS s t d ac ad ae S O U C u D G q I V B W y g z).toArray 47,.row (zz wi) (sl bb ai bd) 3 1 ai.length br]∧g.drop m=aE∧Reps (RInt .i64) 1 ai br∧ai.length * 8 ≤ mB∧f10_l2 k F c f (f10_l1 k F c N) aE m ai aL=some r_) g.length ?_ ?_))))
        ·exact ⟨_,cN,g,0,aK,b1,b2,b3,b4,rfl,fR,kr,eB,List.drop_zero,eC,eD,h⟩
        ·rintro _ _ fJ ⟨ds,aV,aE,m,ai,bb,bd,br,aL,rfl,rfl,aW,aF,ay,cR,dt,h⟩
         rcases aE with _ | ⟨⟨fK,du,aM,cS,cU⟩,aE⟩
         ·unfold f10_l2 at h
          exact wp_seq (sr (m1 (iI (m:Int)) (fd 10 Tyf47_10 rfl (l1 0 (sl y g z) aF Tya45 (lS g.length Tye45 (bcm (r:=false) rfl rfl (congrArg some (drop_nil_lt ay)) (wt (cndF rfl (wp_exit (thenX (thenX (blkX (blkN (thenN (⟨_,aV,ai,bb,bd,br,aL,fR,(((Y.trans aB.sub).trans aJ.sub).trans aW),(aF.sel [1]),cR,dt,h⟩)))))))))))))))
         ·unfold f10_l2 at h
          refine wp_seq (sr (m1 (iI (m:Int)) (fd 10 Tyf47_10 rfl (l1 0 (sl y g z) aF Tya45 (lS g.length Tye45 (bcm (r:=true) rfl rfl (congrArg some (drop_cons_t ay)) (wt (cndT rfl (wp_skip (thenN (wp_cut (fun a w=>∃ dv b6 aN b7 b8 b9 cb,a=fr 199 (updL dv [(0,sl Z A ab),(1,iI c),(6,sl b7 aN b8),(7,.bool cb),(8,iI (f:Int)),(9,pp (zz x) 0),(20,iI (m:Int))])∧KH.sub aV b6∧SR K b6 wi w [] [.box (zz wi) (zz x) (vS s t d ac ad ae S O U C u D G q I V B W y g z).toArray 47,.row (zz wi) (sl b7 aN b8) 3 1 aN.length b9]∧Reps (RInt .i64) 1 aN b9∧aN.length * 8 ≤ mB∧f10_j8 k F m aN cb (f10_l2 k F c f (f10_l1 k F c N) aE)=some r_) ?_ ?_)))))))))))
          ·refine wp_block (wp_cut (fun a w=>∃ dw aj cc ce cV,a=fr 199 (updL dw [(0,sl Z A ab),(1,iI c),(6,sl cc aj ce),(7,.bool aL),(8,iI (f:Int)),(9,pp (zz x) 0),(20,iI (m:Int))])∧SR K aV wi w [] [.box (zz wi) (zz x) (vS s t d ac ad ae S O U C u D G q I V B W y g z).toArray 47,.row (zz wi) (sl cc aj ce) 3 1 aj.length cV]∧Reps (RInt .i64) 1 aj cV∧aj.length * 8 ≤ mB∧f10_j9 k F c aL m cS cU aj (f10_l2 k F c f (f10_l1 k F c N) aE)=some r_) ?_ ?_)
           ·refine sr (fd 10 Tyf47_10 rfl (l1 0 (sl y g z) aF Tya45 (m1 (iI (m:Int)) ?_)))
            obtain ⟨dx,cf,fL,dy,fM,dz,eE⟩:=((mc cn (((Y.trans aB.sub).trans aJ.sub).trans aW))).row.at_ (drop_cons_at ay)
            obtain ⟨fN,fO,fP,fQ,rfl,fS,fT,fU⟩:=RDCase.open eE
            refine idxN (b:=dx) (o:=cf) (i:=m) Tye45 Tys56 rfl dy rfl (drop_cons_lt ay) (fd (cf + m * 5 + 1) Tyf56_1 rfl (ld1 (v:=.string du) Tya9 rfl (aF.cell (kr.cell (dz 1 _ rfl))) (bsc (r:=(!seq du ⟨#[]⟩)) rfl rfl rfl (wt (cd h (fun cW h=>?_) (fun cW h=>?_))))))
            ·refine cT cW (wp_region_lit (m1 (sl bb ai bd) (fd 10 Tyf47_10 rfl (l1 0 (sl y g z) aF Tya45 (m1 (iI (m:Int)) (idxN (b:=dx) (o:=cf) (i:=m) Tye45 Tys56 rfl dy rfl (drop_cons_lt ay) (fd (cf + m * 5 + 2) Tyf56_2 rfl (ld1 (v:=iI aM) Tya3 rfl (aF.cell (kr.cell (dz 2 _ rfl))) (bsl (e:=3) (cells:=#[iI aM]) (vs:=[(0,iI aM)]) aF rfl (buildSl_one Tye35 Tys3 Tyz3 rfl (by decide) (by decide) rfl) (fun fV eF=>?_))))))))))
             obtain ⟨dA,h⟩:=of_guard h
             refine apR (R:=(RInt .i64)) (p:=aM) (i:=2) (j:=0) eF rfl rfl Tye35 Tyi3 rfl (by decide) rfl rfl cR rfl rfl rfl (Nat.le_refl _) dA (by decide) (fun cX cY dB eG eH eI=>?_)
             have eJ:=p12 eH
             exact m2 (.slice cX (ai ++ [aM]).length cY) (wt (⟨_,(ai ++ [aM]),cX,cY,dB,fR,eJ,eI,(app_bound dA),h⟩))
            ·exact cF cW (wp_skip (thenN (⟨_,ai,bb,bd,br,fR,aF,cR,dt,h⟩)))
           ·rintro _ fW ⟨dw,aj,cc,ce,cV,rfl,ch,eK,fX,h⟩
            unfold f10_j9 at h
            refine sr (fd 10 Tyf47_10 rfl (l1 0 (sl y g z) ch Tya45 (m1 (iI (m:Int)) ?_)))
            obtain ⟨dC,ci,fY,dD,fZ,dE,eL⟩:=((mc cn (((Y.trans aB.sub).trans aJ.sub).trans aW))).row.at_ (drop_cons_at ay)
            obtain ⟨dF,dG,dH,dI,rfl,f0,eM,eN⟩:=RDCase.open eL
            refine idxN (b:=dC) (o:=ci) (i:=m) Tye45 Tys56 rfl dD rfl (drop_cons_lt ay) (fd (ci + m * 5 + 4) Tyf56_4 rfl (ld1 (v:=sl dH cU dI) Tya32 rfl (ch.cell (kr.cell (dE 4 _ rfl))) (m1 (iI c) ?_)))
            obtain ⟨⟨ax,be⟩,eO,h⟩:=ob h
            refine cv ([sl dH cU dI,iI c]) Tyb10 (IH10 eO (hG.mono ((((an.trans Y).trans aB.sub).trans aJ.sub).trans aW)) eN (pt ch)) ?_
            rintro _ f1 ⟨dJ,cj,ck,rfl,aX,eP⟩
            have eQ:=ca aX ch
            refine m1 (.tuple #[sl cj ax ck,.bool be]) (ext (v:=sl cj ax ck) rfl rfl (ext (v:=.bool be) rfl rfl (m2 (sl cj ax ck) (m2 (.bool be) (wt (wp_region_lit (m1 (sl cc aj ce) (m1 (sl cj ax ck) ?_))))))))
            obtain ⟨cl,h⟩:=of_guard h
            refine apS (R:=fun K=>(RInt .i64)) (zs:=ax) (i:=1) eQ rfl Tye35 Tyi3 rfl (by decide) rfl rfl (eK.mono (fun _ _ h=>h)) eP (fun _ _ h=>RInt.one h) (Nat.le_refl _) cl (by decide) (fun bf bg cZ f2 bh c2=>(m1 (.bool aL) (m1 (.bool aL) (cd h (fun bs h=>?_) (fun bs h=>?_)))))
            ·refine n1 184 bs (m1 (.bool be) (m3 true (.bool be) (cg bs) (m1 (.bool be) (cd h (fun J h=>?_) (fun J h=>?_)))))
             ·refine n1 187 J (fd 10 Tyf47_10 rfl (n1 187 J (l1 0 (sl y g z) bh Tya45 (n1 187 J (m1 (iI (m:Int)) (n1 187 J (idxN (b:=dC) (o:=ci) (i:=m) Tye45 Tys56 rfl dD rfl (drop_cons_lt ay) (n1 187 J (fd (ci + m * 5 + 3) Tyf56_3 rfl (n1 187 J (ld1 (v:=sl dF cS dG) Tya44 rfl (bh.cell (aX.sub.cell (dE 3 _ rfl))) (n1 187 J (m1 (iI c) (n1 187 J ?_))))))))))))))
              obtain ⟨c3,eR,h⟩:=ob h
              refine cv ([sl dF cS dG,iI c]) Tyb20 ((f20_ok k) eR (hG.mono (((((an.trans Y).trans aB.sub).trans aJ.sub).trans aW).trans aX.sub)) (me eM aX.sub) (pt bh)) ?_
              rintro _ f3 ⟨eS,rfl,dK⟩
              have eT:=ca dK bh
              exact m3 true (.bool c3) (cg J) (m2 (.slice bf (aj ++ ax).length bg) (m2 (.bool c3) (wpList_nil (blkN (thenN (⟨_,eS,(aj ++ ax),bf,bg,cZ,c3,fR,(aX.sub.trans dK.sub),eT,(c2.mono (fun _ _ h=>h)),(apps_bound cl),h⟩))))))
             ·exact o1 187 J (o1 187 J (o1 187 J (o1 187 J (o1 187 J (o1 187 J (o1 187 J (o1 187 J (m3 false vN (cg J) (m2 (.slice bf (aj ++ ax).length bg) (m2 vN (wpList_nil (blkN (thenN (⟨_,dJ,(aj ++ ax),bf,bg,cZ,false,fR,aX.sub,bh,c2,(apps_bound cl),h⟩))))))))))))))
            ·exact o1 184 bs (m3 false vN (cg bs) (m1 vN (o0 187 (o0 187 (o0 187 (o0 187 (o0 187 (o0 187 (o0 187 (o0 187 (m3 false vN rfl (m2 (.slice bf (aj ++ ax).length bg) (m2 vN (wpList_nil (blkN (thenN (⟨_,dJ,(aj ++ ax),bf,bg,cZ,false,fR,aX.sub,bh,c2,(apps_bound cl),h⟩)))))))))))))))))
          ·rintro _ f8 ⟨dv,b6,aN,b7,b8,b9,cb,rfl,eU,eV,eW,eX,h⟩
           unfold f10_j8 at h
           exact wp_region_lit (m1 (iI (m:Int)) (bar (r:=((m + 1:Nat):Int)) rfl rfl (inc_ok (le_big (((mc cn (((Y.trans aB.sub).trans aJ.sub).trans aW))).len) (by decide) (drop_cons_lt ay))) (m2 (iI ((m + 1:Nat):Int)) (wt (⟨_,Nat.lt_succ_self _,_,b6,aE,m + 1,aN,b7,b8,b9,cb,rfl,fR,(aW.trans eU),eV,drop_cons_next ay,eW,eX,h⟩)))))
   ·rintro _ f9 ⟨c7,bv,aG,bw,bx,bz,bA,rfl,eY,eZ,e0,e1,h⟩
    unfold f10_j1 at h
    exact wp_region_lit (m1 (iI (f:Int)) (bar (r:=((f + 1:Nat):Int)) rfl rfl (inc_ok (le_big (((ms c4 an)).len) (by decide) (drop_cons_lt a2))) (m2 (iI ((f + 1:Nat):Int)) (wt (⟨_,Nat.lt_succ_self _,_,bv,N,f + 1,aG,bw,bx,bz,bA,rfl,fR,(an.trans eY),eZ,drop_cons_next a2,e0,e1,h⟩)))))
theorem fam10_ok (k0:Nat) : ∀ k,f10_spec (fam10 k0 k).f10:=by
 intro k
 induction k with
 | zero=>exact (by unfold f10_spec; intro _ _ _ _ _ _ _ _ h_; cases h_)
 | succ k ih=>exact f10_b_ok k0 (fam10 k0 k) ih
theorem f10_ok (k:Nat):f10_spec (f10 k):=(fam10_ok k k)
theorem f1002949_b_ok (k:Nat):f1002949_spec (f1002949_b k):=by
 unfold f1002949_spec
 intro K wi d u g bs b v w x y z A B C D G h hG e I J N f
 obtain ⟨r_,hr_,h⟩:=rz h
 obtain ⟨a,i,j,l,m,o⟩:=d
 obtain ⟨p,q,s,t,rfl,O,S,U⟩:=RDFunc.open e
 refine enter Tryd.func29 rfl (n:=9) rfl ?_
 unfold f1002949_b at h
 refine sr (bxoC (cs:=(vF a p i q j l m s o t).toArray) f rfl rfl (fun V c=>(m2 vN (wt (sr (fd 0 Tyf34_0 rfl (l1 1 (.string b) c Tya9 (fd 0 Tyf34_0 rfl (l1 0 (.string a) c Tya9 (bsc (r:=(seq b a)) rfl rfl rfl (m2 (.bool (seq b a)) (wt (wp_ret ?_)))))))))))))
 cases (oi h).trans hr_
 exact retA1 rfl (resT rfl) ⟨K,rfl,(c.sel [1])⟩
theorem f1002949_ok (k:Nat):f1002949_spec (f1002949 k):=f1002949_b_ok k
theorem f1003604_b_ok (k:Nat):f1003604_spec (f1003604_b k):=by
 unfold f1003604_spec
 intro K wi d q s g bs t u C D x y z A G I aq h hG J ah ai aj ak
 obtain ⟨r_,hr_,h⟩:=rz h
 refine enter Tryd.func36 rfl (n:=19) rfl ?_
 unfold f1003604_b at h
 refine sr (m2 (iI 0) (wt (wp_seq (sr (m1 (sl q d s) (lS d.length Tye22 (m1 (iI 0) (wt (wp_block (wp_loopG (fun g_ a w=>∃ N m e,∃ (c:Nat),g_=e.length∧a=fr 19 (updL N [(0,sl q d s),(1,.func (.func 29) #[] #[pp g 0]),(7,iI (d.length:Int)),(8,iI (c:Int))])∧KH.sub K m∧SR K m wi w [.box bs g (vF t C u D x y z G A I).toArray 34] [.box bs g (vF t C u D x y z G A I).toArray 34]∧d.drop c=e∧f1003604_l1 k t u x y z A e c=some r_) d.length ?_ ?_))))))))))
 ·exact ⟨_,K,d,0,rfl,fR,kr,ak,List.drop_zero,h⟩
 ·rintro _ _ ar ⟨N,m,e,c,rfl,rfl,f,p,l,h⟩
  rcases e with _ | ⟨⟨O,S,U,V,W,X⟩,e⟩
  ·unfold f1003604_l1 at h
   refine sr (bcm (r:=false) rfl rfl (congrArg some (drop_nil_lt l)) (wt (wp_seq (cndF rfl (wp_exit (thenX (thenX (blkX (thenN (sr (m2 (iI (-1)) (wt (wp_ret ?_)))))))))))))
   cases (oi h).trans hr_
   exact retA1 rfl (resT rfl) ⟨m,rfl,p⟩
  ·unfold f1003604_l1 at h
   refine sr (bcm (r:=true) rfl rfl (congrArg some (drop_cons_t l)) (wt (wp_seq (cndT rfl (wp_skip (thenN (wp_seq (wp_block (sr (m1 (iI (c:Int)) (m2 (iI (c:Int)) (wt (sr (m1 (.func (.func 29) #[] #[pp g 0]) (m1 (sl q d s) (m1 (iI (c:Int)) ?_))))))))))))))))
   obtain ⟨al,am,au,an,av,ao,Y⟩:=((mf J f)).row.at_ (drop_cons_at l)
   obtain ⟨Z,ab,ac,ad,rfl,aw,ax,ay⟩:=RDFunc.open Y
   refine idxN (b:=al) (o:=am) (i:=c) Tye22 Tys34 rfl an rfl (drop_cons_lt l) (lD (vF O Z S ab U V W ac X ad) Tya34 Tys34 rfl (fun j v hj=>p.cell (kr.cell (ao j v hj))) ?_)
   obtain ⟨az,ap,h⟩:=ob h
   refine clV (caps:=#[pp g 0]) (vs:=[.agg (vF O Z S ab U V W ac X ad).toArray,pp g 0]) rfl Tyb29 rfl ((f1002949_ok k) ap (hG.mono f) Y ah (mp ai f) (ms aj f) (pt p)) ?_
   rintro _ aA ⟨ae,rfl,af⟩
   have ag:=ca af p
   refine wt (cd h (fun B h=>?_) (fun B h=>?_))
   ·refine cT B (sr (m1 (iI (c:Int)) (m2 (iI (c:Int)) (wt (wp_ret (blkR (thenR (thenR (blkR (thenR ?_))))))))))
    cases (oi h).trans hr_
    exact retA1 rfl (resT rfl) ⟨ae,rfl,ag⟩
   ·exact cF B (wp_skip (blkN (thenN (wp_region_lit (bar (r:=((c + 1:Nat):Int)) rfl rfl (inc_ok (le_big (((mf J f)).len) (by decide) (drop_cons_lt l))) (m1 (iI ((c + 1:Nat):Int)) (wt (⟨_,Nat.lt_succ_self _,_,ae,e,c + 1,rfl,fR,(f.trans af.sub),ag,drop_cons_next l,h⟩))))))))
theorem f1003604_ok (k:Nat):f1003604_spec (f1003604 k):=f1003604_b_ok k
theorem f1002804_b_ok (k:Nat):f1002804_spec (f1002804_b k):=by
 unfold f1002804_spec
 intro K wi b c d g bs r s t u v w x y z A a h hG f i j l e
 obtain ⟨r_,hr_,h⟩:=rz h
 refine enter Tryd.func28 rfl (n:=9) rfl ?_
 unfold f1002804_b at h
 refine sr (m2 vN (wt (sr (m1 (sl c b d) (m1 (.func (.func 29) #[] #[pp g 0]) ?_)))))
 obtain ⟨a,m,h⟩:=ob h
 refine cv ([sl c b d,.func (.func 29) #[] #[pp g 0]]) Tyb36 ((f1003604_ok k) m (hG.mono kr) f i j l (pt e)) ?_
 rintro _ B ⟨o,rfl,p⟩
 have q:=ca p e
 refine c0 (decide (a ≥ 0)) (m2 (.bool (decide (a ≥ 0))) (wt (wp_ret ?_)))
 cases (oi h).trans hr_
 exact retA1 rfl (resT rfl) ⟨o,rfl,q⟩
theorem f1002804_ok (k:Nat):f1002804_spec (f1002804 k):=f1002804_b_ok k
theorem f25_b_ok (k:Nat):f25_spec (f25_b k):=by
 unfold f25_spec
 intro K wi c a r_ h hG d
 refine enter Tryd.func25 rfl (n:=9) rfl ?_
 unfold f25_b at h
 refine sr (m1 (.bool c) (uN c (wt (cd h (fun b h=>?_) (fun b h=>?_)))))
 ·exact cT b (wp_region_lit (m1 (iI a) (bld (cells:=#[iI a]) (vs:=[(0,iI a)]) rfl (fun w=>by kernel_rfl) (mki (v:=.agg #[iI a]) Tyc63 rfl (pnc rfl (panE (.inr ⟨_,rfl,a,K,(oi h).symm,rfl,d.sel []⟩)))))))
 ·exact cF b (wp_skip (retP (end0 rfl ⟨K,(oi h).symm,rfl,d⟩)))
theorem f25_ok (k:Nat):f25_spec (f25 k):=f25_b_ok k
theorem f42_b_ok (k:Nat):f42_spec (f42_b k):=by
 unfold f42_spec
 intro K wi c e d l h hG g
 obtain ⟨r_,hr_,h⟩:=rz h
 refine enter Tryd.func42 rfl (n:=15) rfl ?_
 unfold f42_b at h
 refine sr (m2 vN (wt (wp_cut (fun a w=>∃ i f,a=fr 15 (updL i [(6,.bool f)])∧SR K K wi w [] []∧f42_j1 k f=some r_) ?_ ?_)))
 ·refine wp_region_lit (m1 (iI c) (m1 (iI e) (c0 (decide (c ≥ e)) (m1 (.bool (decide (c ≥ e))) (cd h (fun b h=>?_) (fun b h=>?_))))))
  ·exact n1 10 b (m1 (iI c) (n1 10 b (m1 (iI d) (n1 10 b (c0 (decide (c ≤ d)) (m3 true (.bool (decide (c ≤ d))) (cg b) (m2 (.bool (decide (c ≤ d))) (wt (⟨_,(decide (c ≤ d)),fR,g,h⟩)))))))))
  ·exact o1 10 b (o1 10 b (o1 10 b (m3 false vN (cg b) (m2 vN (wt (⟨_,false,fR,g,h⟩))))))
 ·rintro _ m ⟨i,f,rfl,j,h⟩
  unfold f42_j1 at h
  refine wp_ret ?_
  cases (oi h).trans hr_
  exact retA1 rfl (resT rfl) ⟨K,rfl,j⟩
theorem f42_ok (k:Nat):f42_spec (f42 k):=f42_b_ok k
theorem f43_b_ok (k:Nat):f43_spec (f43_b k):=by
 unfold f43_spec
 intro K wi g bs c e i d x y z A h hG j
 obtain ⟨r_,hr_,h⟩:=rz h
 refine enter Tryd.func43 rfl (n:=30) rfl ?_
 unfold f43_b at h
 refine sr (m2 vN (wt (sr (m1 (pp g 0) (nilc rfl (fd 0 Tyf77_0 rfl (l1 0 (iI c) j Tya3 (bar (r:=(w64 (c + 1))) rfl rfl rfl (nilc rfl (fd 0 Tyf77_0 rfl (sI 0 (iI (w64 (c + 1))) #[iI (w64 (c + 1)),iI e,.bool i] j Tys3 rfl rfl (fun B j=>(wt (sr (m1 (pp g 0) (m1 (pp g 0) (nilc rfl (fd 1 Tyf77_1 rfl (l1 0 (iI e) j Tya3 (m1 (iI d) (mxb (a:=e) (b:=d) rfl rfl (nilc rfl (fd 1 Tyf77_1 rfl (sI 0 (iI (imax e d)) #[iI (w64 (c + 1)),iI (imax e d),.bool i] j Tys3 rfl rfl (fun C l=>(wt (wp_cut (fun a w=>∃ o m,a=fr 30 (updL o [(4,.bool m)])∧SR K K wi w [.box bs g #[iI c,iI e,.bool i] 77] [.box bs g #[iI (w64 (c + 1)),iI (imax e d),.bool i] 77]∧f43_j1 k c e i d m=some r_) ?_ ?_)))))))))))))))))))))))))))
 ·refine wp_region_lit (m1 (pp g 0) (nilc rfl (fd 0 Tyf77_0 rfl (l1 0 (iI (w64 (c + 1))) l Tya3 (c0 (decide ((w64 (c + 1)) ≤ 600)) (m1 (.bool (decide ((w64 (c + 1)) ≤ 600))) (cd h (fun f h=>?_) (fun f h=>?_))))))))
  ·exact n1 26 f (m1 (iI d) (n1 26 f (c0 (decide (d ≤ 16)) (m3 true (.bool (decide (d ≤ 16))) (cg f) (m2 (.bool (decide (d ≤ 16))) (wt (⟨_,(decide (d ≤ 16)),fR,l,h⟩)))))))
  ·exact o1 26 f (o1 26 f (m3 false vN (cg f) (m2 vN (wt (⟨_,false,fR,l,h⟩)))))
 ·rintro _ D ⟨o,m,rfl,p,h⟩
  unfold f43_j1 at h
  refine wp_ret ?_
  have e_:=(Option.some.inj h).trans hr_
  obtain ⟨q,s⟩:=Prod.mk.inj e_
  obtain ⟨t,u,v⟩:=Dcounter.mk.inj q
  subst t
  subst u
  subst v
  subst s
  exact retA1 rfl (resT rfl) ⟨K,rfl,p⟩
theorem f43_ok (k:Nat):f43_spec (f43 k):=f43_b_ok k
theorem f60_b_ok (k:Nat):f60_spec (f60_b k):=by
 unfold f60_spec
 intro K wi b i h hG e
 obtain ⟨r_,hr_,h⟩:=rz h
 refine enter Tryd.func60 rfl (n:=9) rfl ?_
 unfold f60_b at h
 refine sr (m2 vN (wt (wp_cut (fun a w=>∃ f d,a=fr 9 (updL f [(2,.bool d)])∧SR K K wi w [] []∧f60_j1 k d=some r_) ?_ ?_)))
 ·refine wp_region_lit (m1 (.int .u8 b) (c0 (decide (b ≥ 97)) (m1 (.bool (decide (b ≥ 97))) (cd h (fun c h=>?_) (fun c h=>?_)))))
  ·exact n1 5 c (m1 (.int .u8 b) (n1 5 c (c0 (decide (b ≤ 122)) (m3 true (.bool (decide (b ≤ 122))) (cg c) (m2 (.bool (decide (b ≤ 122))) (wt (⟨_,(decide (b ≤ 122)),fR,e,h⟩)))))))
  ·exact o1 5 c (o1 5 c (m3 false vN (cg c) (m2 vN (wt (⟨_,false,fR,e,h⟩)))))
 ·rintro _ j ⟨f,d,rfl,g,h⟩
  unfold f60_j1 at h
  refine wp_ret ?_
  cases (oi h).trans hr_
  exact retA1 rfl (resT rfl) ⟨K,rfl,g⟩
theorem f60_ok (k:Nat):f60_spec (f60 k):=f60_b_ok k
theorem f61_b_ok (k:Nat):f61_spec (f61_b k):=by
 unfold f61_spec
 intro K wi b i h hG e
 obtain ⟨r_,hr_,h⟩:=rz h
 refine enter Tryd.func61 rfl (n:=9) rfl ?_
 unfold f61_b at h
 refine sr (m2 vN (wt (wp_cut (fun a w=>∃ f d,a=fr 9 (updL f [(2,.bool d)])∧SR K K wi w [] []∧f61_j1 k d=some r_) ?_ ?_)))
 ·refine wp_region_lit (m1 (.int .u8 b) (c0 (decide (b ≥ 48)) (m1 (.bool (decide (b ≥ 48))) (cd h (fun c h=>?_) (fun c h=>?_)))))
  ·exact n1 5 c (m1 (.int .u8 b) (n1 5 c (c0 (decide (b ≤ 57)) (m3 true (.bool (decide (b ≤ 57))) (cg c) (m2 (.bool (decide (b ≤ 57))) (wt (⟨_,(decide (b ≤ 57)),fR,e,h⟩)))))))
  ·exact o1 5 c (o1 5 c (m3 false vN (cg c) (m2 vN (wt (⟨_,false,fR,e,h⟩)))))
 ·rintro _ j ⟨f,d,rfl,g,h⟩
  unfold f61_j1 at h
  refine wp_ret ?_
  cases (oi h).trans hr_
  exact retA1 rfl (resT rfl) ⟨K,rfl,g⟩
theorem f61_ok (k:Nat):f61_spec (f61 k):=f61_b_ok k
theorem f54_b_ok (k:Nat):f54_spec (f54_b k):=by
 unfold f54_spec
 intro K wi b S h hG C D
 obtain ⟨r_,hr_,h⟩:=rz h
 refine enter Tryd.func54 rfl (n:=28) rfl ?_
 unfold f54_b at h
 refine sr (m2 vN (wt (wp_seq (sr (m1 (.string b) (lnT (a:=b) Tyt9 rfl (m1 (iI 0) (wt (wp_block (wp_loopG (fun g_ a w=>∃ u i f,∃ (c:Nat),g_=f.length∧a=fr 28 (updL u [(0,.string b),(5,iI (b.size:Int)),(6,iI (c:Int))])∧KH.sub K i∧SR K i wi w [] []∧b.data.toList.drop c=f∧f54_l1 k b f c=some r_) b.data.toList.length ?_ ?_))))))))))
 ·exact ⟨_,K,b.data.toList,0,rfl,fR,kr,D,List.drop_zero,h⟩
 ·rintro _ _ U ⟨u,i,f,c,rfl,rfl,p,q,g,h⟩
  rcases f with _ | ⟨v,f⟩
  ·unfold f54_l1 at h
   refine sr (bcm (r:=false) rfl rfl (congrArg some (drop_nil_ls g)) (wt (wp_seq (cndF rfl (wp_exit (thenX (thenX (blkX (thenN (sr (m1 (.string b) (bsc (r:=(!seq b ⟨#[]⟩)) rfl rfl rfl (m2 (.bool (!seq b ⟨#[]⟩)) (wt (wp_ret ?_)))))))))))))))
   cases (oi h).trans hr_
   exact retA1 rfl (resT rfl) ⟨i,rfl,q⟩
  ·unfold f54_l1 at h
   refine sr (bcm (r:=true) rfl rfl (congrArg some (drop_cons_ts g)) (wt (wp_seq (cndT rfl (wp_skip (thenN (wp_seq (wp_block (sr (m1 (iI (c:Int)) (m2 (iI (c:Int)) (wt (wp_cut (fun a w=>∃ x j s,a=fr 28 (updL x [(0,.string b),(5,iI (b.size:Int)),(6,iI (c:Int)),(24,.bool s)])∧KH.sub i j∧SR K j wi w [] []∧f54_j1 k c s (f54_l1 k b f)=some r_) ?_ ?_)))))))))))))
   ·refine wp_region_lit (m1 (.string b) (m1 (iI (c:Int)) (ixN Tyt9 rfl rfl g ?_)))
    obtain ⟨y,G,h⟩:=ob h
    refine cv ([.int .u8 (v.toNat:Int)]) Tyb60 ((f60_ok k) G (hG.mono p) (pt q)) ?_
    rintro _ V ⟨z,rfl,l⟩
    have m:=ca l q
    refine uN y (m1 (.bool (!y)) (cd h (fun d h=>?_) (fun d h=>?_)))
    ·refine n1 14 d (m1 (iI (c:Int)) (n1 14 d (c0 ((c:Int) == 0) (n1 14 d (m1 (.bool ((c:Int) == 0)) (cd h (fun e h=>?_) (fun e h=>?_)))))))
     ·exact o1 17 e (o1 17 e (o1 17 e (o1 17 e (o1 17 e (n1 14 d (m3 true vT (cg e) (m3 true vT (cg d) (wt (⟨_,z,true,fR,l.sub,m,h⟩)))))))))
     ·refine n1 17 e (m1 (.string b) (n1 17 e (m1 (iI (c:Int)) (n1 17 e (ixN Tyt9 rfl rfl g (n1 17 e ?_))))))
      obtain ⟨o,I,h⟩:=ob h
      refine cv ([.int .u8 (v.toNat:Int)]) Tyb61 ((f61_ok k) I (hG.mono (p.trans l.sub)) (pt m)) ?_
      rintro _ W ⟨J,rfl,A⟩
      have N:=ca A m
      exact n1 17 e (uN o (n1 14 d (m3 false (.bool (!o)) (cg e) (m3 true (.bool (!o)) (cg d) (wt (⟨_,J,(!o),fR,(l.sub.trans A.sub),N,h⟩))))))
    ·exact o1 14 d (o1 14 d (o1 14 d (ou 17 (ou 17 (ou 17 (ou 17 (ou 17 (o1 14 d (m3 false vN (cg d) (wt (⟨_,z,false,fR,l.sub,m,h⟩)))))))))))
   ·rintro _ X ⟨x,j,s,rfl,O,B,h⟩
    unfold f54_j1 at h
    refine cd h (fun t h=>?_) (fun t h=>?_)
    ·refine cT t (sr (m2 vN (wt (wp_ret (blkR (thenR (thenR (blkR (thenR ?_)))))))))
     cases (oi h).trans hr_
     exact retA1 rfl (resT rfl) ⟨j,rfl,B⟩
    ·exact cF t (wp_skip (blkN (thenN (wp_region_lit (bar (r:=((c + 1:Nat):Int)) rfl rfl (inc_ok (le_bigs C g)) (m1 (iI ((c + 1:Nat):Int)) (wt (⟨_,Nat.lt_succ_self _,_,j,f,c + 1,rfl,fR,(p.trans O),B,drop_cons_next g,h⟩))))))))
theorem f54_ok (k:Nat):f54_spec (f54 k):=f54_b_ok k
theorem f68_b_ok (k:Nat):f68_spec (f68_b k):=by
 unfold f68_spec
 intro K wi d l m g C h hG q D u
 obtain ⟨r_,hr_,h⟩:=rz h
 refine enter Tryd.func68 rfl (n:=19) rfl ?_
 unfold f68_b at h
 refine sr (m2 (iI 0) (wt (wp_seq (sr (m1 (sl l d m) (lS d.length Tye38 (m1 (iI 0) (wt (wp_block (wp_loopG (fun g_ a w=>∃ s e,∃ (c:Nat),g_=e.length∧a=fr 19 (updL s [(0,sl l d m),(1,.string g),(7,iI (d.length:Int)),(8,iI (c:Int))])∧SR K K wi w [] []∧d.drop c=e∧f68_l1 k g e c=some r_) d.length ?_ ?_))))))))))
 ·exact ⟨_,d,0,rfl,fR,u,List.drop_zero,h⟩
 ·rintro _ _ G ⟨s,e,c,rfl,rfl,j,f,h⟩
  rcases e with _ | ⟨t,e⟩
  ·unfold f68_l1 at h
   refine sr (bcm (r:=false) rfl rfl (congrArg some (drop_nil_lt f)) (wt (wp_seq (cndF rfl (wp_exit (thenX (thenX (blkX (thenN (sr (m2 (iI (-1)) (wt (wp_ret ?_)))))))))))))
   cases (oi h).trans hr_
   exact retA1 rfl (resT rfl) ⟨K,rfl,j⟩
  ·unfold f68_l1 at h
   refine sr (bcm (r:=true) rfl rfl (congrArg some (drop_cons_t f)) (wt (wp_seq (cndT rfl (wp_skip (thenN (wp_seq (wp_block (sr (m1 (iI (c:Int)) (m2 (iI (c:Int)) (wt (sr (m1 (.string g) (m1 (sl l d m) (m1 (iI (c:Int)) ?_))))))))))))))))
   obtain ⟨x,y,I,z,J,A,B⟩:=(q).row.at_ (drop_cons_at f)
   obtain ⟨rfl,N⟩:=B
   refine idxN (b:=x) (o:=y) (i:=c) Tye38 Tys9 rfl z rfl (drop_cons_lt f) (ld1 (v:=.string t) Tya9 rfl (j.cell (kr.cell (A 0 _ rfl))) (bsc (r:=(seq g t)) rfl rfl rfl (wt (cd h (fun p h=>?_) (fun p h=>?_)))))
   ·refine cT p (sr (m1 (iI (c:Int)) (m2 (iI (c:Int)) (wt (wp_ret (blkR (thenR (thenR (blkR (thenR ?_))))))))))
    cases (oi h).trans hr_
    exact retA1 rfl (resT rfl) ⟨K,rfl,j⟩
   ·exact cF p (wp_skip (blkN (thenN (wp_region_lit (bar (r:=((c + 1:Nat):Int)) rfl rfl (inc_ok (le_big ((q).len) (by decide) (drop_cons_lt f))) (m1 (iI ((c + 1:Nat):Int)) (wt (⟨_,Nat.lt_succ_self _,_,e,c + 1,rfl,fR,j,drop_cons_next f,h⟩))))))))
theorem f68_ok (k:Nat):f68_spec (f68 k):=f68_b_ok k
theorem f62_b_ok (k:Nat):f62_spec (f62_b k):=by
 unfold f62_spec
 intro K wi b c d e a h hG g i f
 obtain ⟨r_,hr_,h⟩:=rz h
 refine enter Tryd.func62 rfl (n:=9) rfl ?_
 unfold f62_b at h
 refine sr (m2 vN (wt (sr (m1 (sl c b d) (m1 (.string e) ?_)))))
 obtain ⟨a,j,h⟩:=ob h
 refine cv ([sl c b d,.string e]) Tyb68 ((f68_ok k) j (hG.mono kr) g i (pt f)) ?_
 rintro _ p ⟨l,rfl,m⟩
 have o:=ca m f
 refine c0 (decide (a ≥ 0)) (m2 (.bool (decide (a ≥ 0))) (wt (wp_ret ?_)))
 cases (oi h).trans hr_
 exact retA1 rfl (resT rfl) ⟨l,rfl,o⟩
theorem f62_ok (k:Nat):f62_spec (f62 k):=f62_b_ok k
set_option maxRecDepth 100000 in
theorem words_fields:(Lib.fields wordsS.data.toList).map (fun l=>(⟨l.toArray⟩:ByteArray))=wordsL:=by kernel_rfl
theorem words_sizes : ∀ x ∈ wordsL,x.size≤mB:=by
 have h:wordsL.all (fun x=>decide (x.size≤mB))=true:=by kernel_rfl
 intro x hx
 simpa using List.all_eq_true.1 h x hx
set_option maxRecDepth 100000 in
theorem f63_ok (k:Nat):f63_spec (f63 k):=by
 unfold f63_spec
 intro K wi r0 h hG S0
 unfold f63 at h
 obtain rfl:=Option.some.inj h
 refine enter Tryd.func63 rfl (n:=2) rfl ?_
 refine wp_seq ?_
 refine wp_region_lit ?_
 refine asg (v:=.slice none 0 0) rfl ?_
 refine wpList_nil ?_
 refine thenN ?_
 refine wp_seq ?_
 refine wp_region_lit ?_
 have hlen:(Lib.fields wordsS.data.toList).length=wordsL.length:=by rw [← words_fields,List.length_map]
 have hmap:(Lib.fields wordsS.data.toList).map (fun l=>Value.string ⟨l.toArray⟩)=wordsL.map Value.string:=by rw [← words_fields,List.map_map]; rfl
 obtain ⟨K1,S1,hs1,hr1⟩:=S0.texts (xs:=wordsL) 9 words_sizes (by decide)
 refine clV (caps:=#[]) (vs:=[.string wordsS]) (R:=fun v w'=>v=.slice (some ⟨(zz wi),0,none⟩) wordsL.length wordsL.length∧w'=wi.alloc (.cells (wordsL.map Value.string).toArray 9)) rfl (by kernel_rfl) rfl
  ((Any.strings_Fields_core Tryd.lays157 (by kernel_rfl) wordsS wi (by decide) words_ascii (fun c hc=>S0.cell (hG.1 c hc))).mono (fun e w' h=>⟨_,h.1,by rw [hlen],by rw [h.2,hmap]; rfl⟩)) ?_
 rintro _ _ ⟨rfl,rfl⟩
 refine asg (v:=.slice (some ⟨(zz wi),0,none⟩) wordsL.length wordsL.length) rfl ?_
 refine wpList_nil ?_
 refine thenN ?_
 refine wp_ret ?_
 exact retA1 rfl (resT rfl) ⟨K1,_,_,rfl,S1,hr1⟩
theorem f55_b_ok (k:Nat):f55_spec (f55_b k):=by
 unfold f55_spec
 intro K wi a b h hG f c
 obtain ⟨r_,hr_,h⟩:=rz h
 refine enter Tryd.func55 rfl (n:=6) rfl ?_
 unfold f55_b at h
 refine sr (m2 vN (wt (sr ?_)))
 obtain ⟨b,g,h⟩:=ob h
 refine cv ([]) Tyb63 ((f63_ok k) g (hG.mono kr) (pt c)) ?_
 rintro _ s ⟨t,i,j,rfl,d,l⟩
 have e:=ca d c
 refine m1 (.string a) ?_
 obtain ⟨m,o,h⟩:=ob h
 refine cv ([sl i b j,.string a]) Tyb62 ((f62_ok k) o (hG.mono d.sub) l f (pt e)) ?_
 rintro _ u ⟨p,rfl,q⟩
 have r:=ca q e
 refine m2 (.bool m) (wt (wp_ret ?_))
 cases (oi h).trans hr_
 exact retA1 rfl (resT rfl) ⟨p,rfl,r⟩
theorem f55_ok (k:Nat):f55_spec (f55 k):=f55_b_ok k
theorem f44_b_ok (k:Nat):f44_spec (f44_b k):=by
 unfold f44_spec
 intro K wi b y h hG l m
 obtain ⟨r_,hr_,h⟩:=rz h
 refine enter Tryd.func44 rfl (n:=15) rfl ?_
 unfold f44_b at h
 refine sr (m2 vN (wt (wp_cut (fun a w=>∃ o f j,a=fr 15 (updL o [(2,.bool j)])∧KH.sub K f∧SR K f wi w [] []∧f44_j1 k j=some r_) ?_ ?_)))
 ·refine wp_region_lit (m1 (.string b) ?_)
  obtain ⟨r,s,h⟩:=ob h
  refine cv ([.string b]) Tyb54 ((f54_ok k) s (hG.mono kr) l (pt m)) ?_
  rintro _ z ⟨p,rfl,e⟩
  have g:=ca e m
  refine m1 (.bool r) (cd h (fun c h=>?_) (fun c h=>?_))
  ·refine n1 5 c (m1 (.string b) (n1 5 c (lnT (a:=b) Tyt9 rfl (n1 5 c (c0 (decide ((b.size:Int) ≤ 12)) (m3 true (.bool (decide ((b.size:Int) ≤ 12))) (cg c) (m1 (.bool (decide ((b.size:Int) ≤ 12))) (cd h (fun d h=>?_) (fun d h=>?_)))))))))
   ·refine n1 10 d (m1 (.string b) (n1 10 d ?_))
    obtain ⟨i,t,h⟩:=ob h
    refine cv ([.string b]) Tyb55 ((f55_ok k) t (hG.mono e.sub) l (pt g)) ?_
    rintro _ A ⟨u,rfl,q⟩
    have v:=ca q g
    exact n1 10 d (uN i (m3 true (.bool (!i)) (cg d) (m2 (.bool (!i)) (wt (⟨_,u,(!i),fR,(e.sub.trans q.sub),v,h⟩)))))
   ·exact o1 10 d (o1 10 d (o1 10 d (m3 false vN (cg d) (m2 vN (wt (⟨_,p,false,fR,e.sub,g,h⟩))))))
  ·exact o1 5 c (o1 5 c (o1 5 c (m3 false vN (cg c) (m1 vN (o0 10 (o0 10 (o0 10 (m3 false vN rfl (m2 vN (wt (⟨_,p,false,fR,e.sub,g,h⟩)))))))))))
 ·rintro _ B ⟨o,f,j,rfl,C,x,h⟩
  unfold f44_j1 at h
  refine wp_ret ?_
  cases (oi h).trans hr_
  exact retA1 rfl (resT rfl) ⟨f,rfl,x⟩
theorem f44_ok (k:Nat):f44_spec (f44 k):=f44_b_ok k
theorem f64_b_ok (k:Nat):f64_spec (f64_b k):=by
 unfold f64_spec
 intro K wi bh h hG a
 obtain ⟨r_,hr_,h⟩:=rz h
 refine enter Tryd.func64 rfl (n:=32) rfl ?_
 unfold f64_b at h
 refine sr (m2 (.map none) (wt (sr (mkm a (fun bi a=>(bld (cells:=#[iI 1,vN,iI 1,iI 1,vN]) (vs:=[(0,iI 1),(1,vN),(2,iI 1),(3,iI 1),(4,vN)]) rfl (fun w=>by kernel_rfl) (mup_ (kv:=kI) (q:=qI) (R:=(VAgg (RDshape K))) (xs:=([]:List (Int × Dshape))) (k:=1) (u:=(Dshape.mk 1 false 1 1 false)) (uv:=.agg #[iI 1,vN,iI 1,iI 1,vN]) (i:=0) (.inl rfl) a rfl Tym112 (und_i64 Tyk3) keI (mapr0 (kv:=kI) (R:=(VAgg (RDshape K)))) rfl rfl rfl ⟨[iI 1,vN,iI 1,iI 1,vN],rfl,.mk⟩ (fun bj bk bm b c=>(bld (cells:=#[iI 1,vN,iI 1,iI 1,vN]) (vs:=[(0,iI 1),(1,vN),(2,iI 1),(3,iI 1),(4,vN)]) rfl (fun w=>by kernel_rfl) (mup_ (kv:=kI) (q:=qI) (R:=(VAgg (RDshape K))) (k:=2) (u:=(Dshape.mk 1 false 1 1 false)) (uv:=.agg #[iI 1,vN,iI 1,iI 1,vN]) (i:=0) (.inl rfl) b rfl Tym112 (und_i64 Tyk3) keI c rfl rfl rfl ⟨[iI 1,vN,iI 1,iI 1,vN],rfl,.mk⟩ (fun bn bo bp d e=>(bld (cells:=#[iI 2,vT,iI 0,iI 601,vN]) (vs:=[(0,iI 2),(1,vT),(2,iI 0),(3,iI 601),(4,vN)]) rfl (fun w=>by kernel_rfl) (mup_ (kv:=kI) (q:=qI) (R:=(VAgg (RDshape K))) (k:=3) (u:=(Dshape.mk 2 true 0 601 false)) (uv:=.agg #[iI 2,vT,iI 0,iI 601,vN]) (i:=0) (.inl rfl) d rfl Tym112 (und_i64 Tyk3) keI e rfl rfl rfl ⟨[iI 2,vT,iI 0,iI 601,vN],rfl,.mk⟩ (fun f g j l m=>?_))))))))))))))
 have o:SR K K wi j [] [.mp (zz wi) (zz wi) f g]:=l
 refine bld (cells:=#[iI 2,vT,iI 0,iI 601,vN]) (vs:=[(0,iI 2),(1,vT),(2,iI 0),(3,iI 601),(4,vN)]) rfl (fun w=>by kernel_rfl) (mup_ (kv:=kI) (q:=qI) (R:=(VAgg (RDshape K))) (k:=4) (u:=(Dshape.mk 2 true 0 601 false)) (uv:=.agg #[iI 2,vT,iI 0,iI 601,vN]) (i:=0) (.inl rfl) o rfl Tym112 (und_i64 Tyk3) keI m rfl rfl rfl ⟨[iI 2,vT,iI 0,iI 601,vN],rfl,.mk⟩ (fun bq br bs p r=>(bld (cells:=#[iI 2,vN,iI 1,iI 1,vN]) (vs:=[(0,iI 2),(1,vN),(2,iI 1),(3,iI 1),(4,vN)]) rfl (fun w=>by kernel_rfl) (mup_ (kv:=kI) (q:=qI) (R:=(VAgg (RDshape K))) (k:=5) (u:=(Dshape.mk 2 false 1 1 false)) (uv:=.agg #[iI 2,vN,iI 1,iI 1,vN]) (i:=0) (.inl rfl) p rfl Tym112 (und_i64 Tyk3) keI r rfl rfl rfl ⟨[iI 2,vN,iI 1,iI 1,vN],rfl,.mk⟩ (fun bu bv bw s t=>(bld (cells:=#[iI 2,vN,iI 1,iI 1,vN]) (vs:=[(0,iI 2),(1,vN),(2,iI 1),(3,iI 1),(4,vN)]) rfl (fun w=>by kernel_rfl) (mup_ (kv:=kI) (q:=qI) (R:=(VAgg (RDshape K))) (k:=6) (u:=(Dshape.mk 2 false 1 1 false)) (uv:=.agg #[iI 2,vN,iI 1,iI 1,vN]) (i:=0) (.inl rfl) s rfl Tym112 (und_i64 Tyk3) keI t rfl rfl rfl ⟨[iI 2,vN,iI 1,iI 1,vN],rfl,.mk⟩ (fun v x y z A=>?_))))))))
 have B:SR K K wi y [] [.mp (zz wi) (zz wi) v x]:=z
 refine bld (cells:=#[iI 1,vN,iI 1,iI 1,vN]) (vs:=[(0,iI 1),(1,vN),(2,iI 1),(3,iI 1),(4,vN)]) rfl (fun w=>by kernel_rfl) (mup_ (kv:=kI) (q:=qI) (R:=(VAgg (RDshape K))) (k:=7) (u:=(Dshape.mk 1 false 1 1 false)) (uv:=.agg #[iI 1,vN,iI 1,iI 1,vN]) (i:=0) (.inl rfl) B rfl Tym112 (und_i64 Tyk3) keI A rfl rfl rfl ⟨[iI 1,vN,iI 1,iI 1,vN],rfl,.mk⟩ (fun bx bz bA C D=>(bld (cells:=#[iI 1,vN,iI 1,iI 1,vN]) (vs:=[(0,iI 1),(1,vN),(2,iI 1),(3,iI 1),(4,vN)]) rfl (fun w=>by kernel_rfl) (mup_ (kv:=kI) (q:=qI) (R:=(VAgg (RDshape K))) (k:=8) (u:=(Dshape.mk 1 false 1 1 false)) (uv:=.agg #[iI 1,vN,iI 1,iI 1,vN]) (i:=0) (.inl rfl) C rfl Tym112 (und_i64 Tyk3) keI D rfl rfl rfl ⟨[iI 1,vN,iI 1,iI 1,vN],rfl,.mk⟩ (fun bB bC bD G I=>(bld (cells:=#[iI 1,vN,iI 0,iI 0,vN]) (vs:=[(0,iI 1),(1,vN),(2,iI 0),(3,iI 0),(4,vN)]) rfl (fun w=>by kernel_rfl) (mup_ (kv:=kI) (q:=qI) (R:=(VAgg (RDshape K))) (k:=9) (u:=(Dshape.mk 1 false 0 0 false)) (uv:=.agg #[iI 1,vN,iI 0,iI 0,vN]) (i:=0) (.inl rfl) G rfl Tym112 (und_i64 Tyk3) keI I rfl rfl rfl ⟨[iI 1,vN,iI 0,iI 0,vN],rfl,.mk⟩ (fun J N O S U=>?_))))))))
 have V:SR K K wi O [] [.mp (zz wi) (zz wi) J N]:=S
 refine bld (cells:=#[iI 0,vN,iI 2,iI 2,vN]) (vs:=[(0,iI 0),(1,vN),(2,iI 2),(3,iI 2),(4,vN)]) rfl (fun w=>by kernel_rfl) (mup_ (kv:=kI) (q:=qI) (R:=(VAgg (RDshape K))) (k:=10) (u:=(Dshape.mk 0 false 2 2 false)) (uv:=.agg #[iI 0,vN,iI 2,iI 2,vN]) (i:=0) (.inl rfl) V rfl Tym112 (und_i64 Tyk3) keI U rfl rfl rfl ⟨[iI 0,vN,iI 2,iI 2,vN],rfl,.mk⟩ (fun bE bF bG W X=>(bld (cells:=#[iI 0,vN,iI 1,iI 1,vN]) (vs:=[(0,iI 0),(1,vN),(2,iI 1),(3,iI 1),(4,vN)]) rfl (fun w=>by kernel_rfl) (mup_ (kv:=kI) (q:=qI) (R:=(VAgg (RDshape K))) (k:=11) (u:=(Dshape.mk 0 false 1 1 false)) (uv:=.agg #[iI 0,vN,iI 1,iI 1,vN]) (i:=0) (.inl rfl) W rfl Tym112 (und_i64 Tyk3) keI X rfl rfl rfl ⟨[iI 0,vN,iI 1,iI 1,vN],rfl,.mk⟩ (fun bH bI bJ Y Z=>(bld (cells:=#[iI 0,vN,iI 1,iI 1,vN]) (vs:=[(0,iI 0),(1,vN),(2,iI 1),(3,iI 1),(4,vN)]) rfl (fun w=>by kernel_rfl) (mup_ (kv:=kI) (q:=qI) (R:=(VAgg (RDshape K))) (k:=12) (u:=(Dshape.mk 0 false 1 1 false)) (uv:=.agg #[iI 0,vN,iI 1,iI 1,vN]) (i:=0) (.inl rfl) Y rfl Tym112 (und_i64 Tyk3) keI Z rfl rfl rfl ⟨[iI 0,vN,iI 1,iI 1,vN],rfl,.mk⟩ (fun ab ac ad ae af=>?_))))))))
 have ag:SR K K wi ad [] [.mp (zz wi) (zz wi) ab ac]:=ae
 refine bld (cells:=#[iI 0,vN,iI 0,iI 0,vN]) (vs:=[]) rfl (fun w=>by kernel_rfl) (mup_ (kv:=kI) (q:=qI) (R:=(VAgg (RDshape K))) (k:=13) (u:=(Dshape.mk 0 false 0 0 false)) (uv:=.agg #[iI 0,vN,iI 0,iI 0,vN]) (i:=0) (.inl rfl) ag rfl Tym112 (und_i64 Tyk3) keI af rfl rfl rfl ⟨[iI 0,vN,iI 0,iI 0,vN],rfl,.mk⟩ (fun bK bL bM ah ai=>(bld (cells:=#[iI 0,vN,iI 1,iI 1,vN]) (vs:=[(0,iI 0),(1,vN),(2,iI 1),(3,iI 1),(4,vN)]) rfl (fun w=>by kernel_rfl) (mup_ (kv:=kI) (q:=qI) (R:=(VAgg (RDshape K))) (k:=14) (u:=(Dshape.mk 0 false 1 1 false)) (uv:=.agg #[iI 0,vN,iI 1,iI 1,vN]) (i:=0) (.inl rfl) ah rfl Tym112 (und_i64 Tyk3) keI ai rfl rfl rfl ⟨[iI 0,vN,iI 1,iI 1,vN],rfl,.mk⟩ (fun bN bO bP aj ak=>(bld (cells:=#[iI 0,vN,iI 1,iI 1,vN]) (vs:=[(0,iI 0),(1,vN),(2,iI 1),(3,iI 1),(4,vN)]) rfl (fun w=>by kernel_rfl) (mup_ (kv:=kI) (q:=qI) (R:=(VAgg (RDshape K))) (k:=15) (u:=(Dshape.mk 0 false 1 1 false)) (uv:=.agg #[iI 0,vN,iI 1,iI 1,vN]) (i:=0) (.inl rfl) aj rfl Tym112 (und_i64 Tyk3) keI ak rfl rfl rfl ⟨[iI 0,vN,iI 1,iI 1,vN],rfl,.mk⟩ (fun al am an ao ap=>?_))))))))
 have aq:SR K K wi an [] [.mp (zz wi) (zz wi) al am]:=ao
 refine bld (cells:=#[iI 0,vN,iI 1,iI 1,vN]) (vs:=[(0,iI 0),(1,vN),(2,iI 1),(3,iI 1),(4,vN)]) rfl (fun w=>by kernel_rfl) (mup_ (kv:=kI) (q:=qI) (R:=(VAgg (RDshape K))) (k:=16) (u:=(Dshape.mk 0 false 1 1 false)) (uv:=.agg #[iI 0,vN,iI 1,iI 1,vN]) (i:=0) (.inl rfl) aq rfl Tym112 (und_i64 Tyk3) keI ap rfl rfl rfl ⟨[iI 0,vN,iI 1,iI 1,vN],rfl,.mk⟩ (fun bQ bR bS ar au=>(bld (cells:=#[iI 0,vN,iI 0,iI 1,vN]) (vs:=[(0,iI 0),(1,vN),(2,iI 0),(3,iI 1),(4,vN)]) rfl (fun w=>by kernel_rfl) (mup_ (kv:=kI) (q:=qI) (R:=(VAgg (RDshape K))) (k:=17) (u:=(Dshape.mk 0 false 0 1 false)) (uv:=.agg #[iI 0,vN,iI 0,iI 1,vN]) (i:=0) (.inl rfl) ar rfl Tym112 (und_i64 Tyk3) keI au rfl rfl rfl ⟨[iI 0,vN,iI 0,iI 1,vN],rfl,.mk⟩ (fun bT bU bV av aw=>(bld (cells:=#[iI 0,vN,iI 0,iI 0,vN]) (vs:=[]) rfl (fun w=>by kernel_rfl) (mup_ (kv:=kI) (q:=qI) (R:=(VAgg (RDshape K))) (k:=18) (u:=(Dshape.mk 0 false 0 0 false)) (uv:=.agg #[iI 0,vN,iI 0,iI 0,vN]) (i:=0) (.inl rfl) av rfl Tym112 (und_i64 Tyk3) keI aw rfl rfl rfl ⟨[iI 0,vN,iI 0,iI 0,vN],rfl,.mk⟩ (fun ax ay az aA aB=>?_))))))))
 have aE:SR K K wi az [] [.mp (zz wi) (zz wi) ax ay]:=aA
 refine bld (cells:=#[iI 0,vN,iI 0,iI 0,vN]) (vs:=[]) rfl (fun w=>by kernel_rfl) (mup_ (kv:=kI) (q:=qI) (R:=(VAgg (RDshape K))) (k:=19) (u:=(Dshape.mk 0 false 0 0 false)) (uv:=.agg #[iI 0,vN,iI 0,iI 0,vN]) (i:=0) (.inl rfl) aE rfl Tym112 (und_i64 Tyk3) keI aB rfl rfl rfl ⟨[iI 0,vN,iI 0,iI 0,vN],rfl,.mk⟩ (fun bW bX bY aF aG=>(bld (cells:=#[iI 0,vN,iI 1,iI 1,vT]) (vs:=[(0,iI 0),(1,vN),(2,iI 1),(3,iI 1),(4,vT)]) rfl (fun w=>by kernel_rfl) (mup_ (kv:=kI) (q:=qI) (R:=(VAgg (RDshape K))) (k:=20) (u:=(Dshape.mk 0 false 1 1 true)) (uv:=.agg #[iI 0,vN,iI 1,iI 1,vT]) (i:=0) (.inl rfl) aF rfl Tym112 (und_i64 Tyk3) keI aG rfl rfl rfl ⟨[iI 0,vN,iI 1,iI 1,vT],rfl,.mk⟩ (fun bZ b0 b1 aH aI=>(bld (cells:=#[iI 0,vN,iI 1,iI 1,vT]) (vs:=[(0,iI 0),(1,vN),(2,iI 1),(3,iI 1),(4,vT)]) rfl (fun w=>by kernel_rfl) (mup_ (kv:=kI) (q:=qI) (R:=(VAgg (RDshape K))) (k:=21) (u:=(Dshape.mk 0 false 1 1 true)) (uv:=.agg #[iI 0,vN,iI 1,iI 1,vT]) (i:=0) (.inl rfl) aH rfl Tym112 (und_i64 Tyk3) keI aI rfl rfl rfl ⟨[iI 0,vN,iI 1,iI 1,vT],rfl,.mk⟩ (fun aJ aK aL aM aN=>?_))))))))
 have aP:SR K K wi aL [] [.mp (zz wi) (zz wi) aJ aK]:=aM
 refine bld (cells:=#[iI 0,vN,iI 0,iI 1,vT]) (vs:=[(0,iI 0),(1,vN),(2,iI 0),(3,iI 1),(4,vT)]) rfl (fun w=>by kernel_rfl) (mup_ (kv:=kI) (q:=qI) (R:=(VAgg (RDshape K))) (k:=22) (u:=(Dshape.mk 0 false 0 1 true)) (uv:=.agg #[iI 0,vN,iI 0,iI 1,vT]) (i:=0) (.inl rfl) aP rfl Tym112 (und_i64 Tyk3) keI aN rfl rfl rfl ⟨[iI 0,vN,iI 0,iI 1,vT],rfl,.mk⟩ (fun b2 b3 b4 aQ aR=>(bld (cells:=#[iI 0,vN,iI 0,iI 0,vT]) (vs:=[(0,iI 0),(1,vN),(2,iI 0),(3,iI 0),(4,vT)]) rfl (fun w=>by kernel_rfl) (mup_ (kv:=kI) (q:=qI) (R:=(VAgg (RDshape K))) (k:=23) (u:=(Dshape.mk 0 false 0 0 true)) (uv:=.agg #[iI 0,vN,iI 0,iI 0,vT]) (i:=0) (.inl rfl) aQ rfl Tym112 (und_i64 Tyk3) keI aR rfl rfl rfl ⟨[iI 0,vN,iI 0,iI 0,vT],rfl,.mk⟩ (fun b5 b6 b7 aS aT=>(bld (cells:=#[iI 2,vN,iI 0,iI 0,vT]) (vs:=[(0,iI 2),(1,vN),(2,iI 0),(3,iI 0),(4,vT)]) rfl (fun w=>by kernel_rfl) (mup_ (kv:=kI) (q:=qI) (R:=(VAgg (RDshape K))) (k:=24) (u:=(Dshape.mk 2 false 0 0 true)) (uv:=.agg #[iI 2,vN,iI 0,iI 0,vT]) (i:=0) (.inl rfl) aS rfl Tym112 (und_i64 Tyk3) keI aT rfl rfl rfl ⟨[iI 2,vN,iI 0,iI 0,vT],rfl,.mk⟩ (fun aU aV aW aX aY=>?_))))))))
 have aZ:SR K K wi aW [] [.mp (zz wi) (zz wi) aU aV]:=aX
 refine bld (cells:=#[iI 1,vN,iI 1,iI 1,vT]) (vs:=[(0,iI 1),(1,vN),(2,iI 1),(3,iI 1),(4,vT)]) rfl (fun w=>by kernel_rfl) (mup_ (kv:=kI) (q:=qI) (R:=(VAgg (RDshape K))) (k:=25) (u:=(Dshape.mk 1 false 1 1 true)) (uv:=.agg #[iI 1,vN,iI 1,iI 1,vT]) (i:=0) (.inl rfl) aZ rfl Tym112 (und_i64 Tyk3) keI aY rfl rfl rfl ⟨[iI 1,vN,iI 1,iI 1,vT],rfl,.mk⟩ (fun b8 b9 cb a0 a1=>(bld (cells:=#[iI 0,vN,iI 1,iI 1,vT]) (vs:=[(0,iI 0),(1,vN),(2,iI 1),(3,iI 1),(4,vT)]) rfl (fun w=>by kernel_rfl) (mup_ (kv:=kI) (q:=qI) (R:=(VAgg (RDshape K))) (k:=26) (u:=(Dshape.mk 0 false 1 1 true)) (uv:=.agg #[iI 0,vN,iI 1,iI 1,vT]) (i:=0) (.inl rfl) a0 rfl Tym112 (und_i64 Tyk3) keI a1 rfl rfl rfl ⟨[iI 0,vN,iI 1,iI 1,vT],rfl,.mk⟩ (fun cc ce cf a2 a3=>(bld (cells:=#[iI 0,vN,iI 0,iI 0,vN]) (vs:=[]) rfl (fun w=>by kernel_rfl) (mup_ (kv:=kI) (q:=qI) (R:=(VAgg (RDshape K))) (k:=27) (u:=(Dshape.mk 0 false 0 0 false)) (uv:=.agg #[iI 0,vN,iI 0,iI 0,vN]) (i:=0) (.inl rfl) a2 rfl Tym112 (und_i64 Tyk3) keI a3 rfl rfl rfl ⟨[iI 0,vN,iI 0,iI 0,vN],rfl,.mk⟩ (fun a4 a5 a6 a7 a8=>?_))))))))
 have a9:SR K K wi a6 [] [.mp (zz wi) (zz wi) a4 a5]:=a7
 refine bld (cells:=#[iI 1,vT,iI 0,iI 601,vT]) (vs:=[(0,iI 1),(1,vT),(2,iI 0),(3,iI 601),(4,vT)]) rfl (fun w=>by kernel_rfl) (mup_ (kv:=kI) (q:=qI) (R:=(VAgg (RDshape K))) (k:=28) (u:=(Dshape.mk 1 true 0 601 true)) (uv:=.agg #[iI 1,vT,iI 0,iI 601,vT]) (i:=0) (.inl rfl) a9 rfl Tym112 (und_i64 Tyk3) keI a8 rfl rfl rfl ⟨[iI 1,vT,iI 0,iI 601,vT],rfl,.mk⟩ (fun ch ci cj ba bb=>(bld (cells:=#[iI 0,vN,iI 1,iI 1,vN]) (vs:=[(0,iI 0),(1,vN),(2,iI 1),(3,iI 1),(4,vN)]) rfl (fun w=>by kernel_rfl) (mup_ (kv:=kI) (q:=qI) (R:=(VAgg (RDshape K))) (k:=29) (u:=(Dshape.mk 0 false 1 1 false)) (uv:=.agg #[iI 0,vN,iI 1,iI 1,vN]) (i:=0) (.inl rfl) ba rfl Tym112 (und_i64 Tyk3) keI bb rfl rfl rfl ⟨[iI 0,vN,iI 1,iI 1,vN],rfl,.mk⟩ (fun bd be ck bf bg=>(m1 (.map (some (zz wi))) (m2 (.map (some (zz wi))) (wt (wp_ret ?_)))))))))
 cases (oi h).trans hr_
 exact retA1 rfl (resT rfl) ⟨K,(zz wi),bd,be,rfl,bf,bg⟩
theorem f64_ok (k:Nat):f64_spec (f64 k):=f64_b_ok k
theorem f65_b_ok (k:Nat):f65_spec (f65_b k):=by
 unfold f65_spec
 intro K wi aI a3 a4 h hG aJ aK
 obtain ⟨r_,hr_,h⟩:=rz h
 obtain ⟨f,g,S,U,V,b,W,X,j,d,Y⟩:=aI
 obtain ⟨Z,ab,ac,ad,D,G,x,y,ae,af,rfl,a5,a6,a7,a8,a9,ba,bb⟩:=RDStmt.open aJ
 refine enter Tryd.func65 rfl (n:=97) rfl ?_
 unfold f65_b at h
 refine sr (bxoC (cs:=(vS f g S U V b Z W ab ac X ad D j G x d y ae Y af).toArray) aK rfl rfl (fun bd c=>(m2 vN (wt (sr (m2 vN (m2 vN (wt (sr (fd 5 Tyf47_5 rfl (l1 0 (iI b) c Tya3 (c0 (b == 0) (m2 (.bool (b == 0)) (wt (wp_cut (fun a w=>∃ au z A v B,a=fr 97 (updL au [(1,pp (zz wi) 0),(3,.bool A),(4,.bool v),(5,.bool B)])∧KH.sub K z∧SR K z wi w [] [.box (zz wi) (zz wi) (vS f g S U V b Z W ab ac X ad D j G x d y ae Y af).toArray 47]∧f65_j1 k j d A v B=some r_) ?_ ?_)))))))))))))))
 ·refine sr (fd 0 Tyf47_0 rfl (l1 0 (iI f) c Tya3 (wt (wp_block (sr (c0 (f == 6) (m2 (.bool (f == 6)) (wt (cd h (fun ag h=>?_) (fun ag h=>?_))))))))))
  ·refine cT ag (wp_region_lit (fd 5 Tyf47_5 rfl (l1 0 (iI b) c Tya3 ?_)))
   obtain ⟨aL,aM,h⟩:=ob h
   refine cv ([iI b,iI 0,iI 1]) Tyb42 ((f42_ok k) aM (hG.mono kr) (pt c)) ?_
   rintro _ be ⟨ah,rfl,I⟩
   have C:=ca I c
   refine m1 (.bool aL) (cd h (fun i h=>?_) (fun i h=>?_))
   ·refine n1 16 i (fd 5 Tyf47_5 rfl (n1 16 i (l1 0 (iI b) C Tya3 (n1 16 i (c0 (b == 0) (n1 16 i (m1 (.bool (b == 0)) (cd h (fun t h=>?_) (fun t h=>?_)))))))))
    ·exact o1 20 t (o1 20 t (o1 20 t (n1 16 i (m3 true vT (cg t) (m3 true vT (cg i) (m2 vT (wpList_nil (blkN (thenN (⟨_,ah,false,false,true,fR,I.sub,C,h⟩))))))))))
    ·exact n1 20 t (fd 1 Tyf47_1 rfl (n1 20 t (l1 0 (.string g) C Tya9 (n1 20 t (bsc (r:=(!seq g ⟨#[]⟩)) rfl rfl rfl (n1 16 i (m3 false (.bool (!seq g ⟨#[]⟩)) (cg t) (m3 true (.bool (!seq g ⟨#[]⟩)) (cg i) (m2 (.bool (!seq g ⟨#[]⟩)) (wpList_nil (blkN (thenN (⟨_,ah,false,false,(!seq g ⟨#[]⟩),fR,I.sub,C,h⟩)))))))))))))
   ·exact o1 16 i (o1 16 i (o1 16 i (o1 16 i (ou 20 (ou 20 (ou 20 (o1 16 i (m3 false vN (cg i) (m2 vN (wpList_nil (blkN (thenN (⟨_,ah,false,false,false,fR,I.sub,C,h⟩)))))))))))))
  ·refine cF ag (sr (c0 (f == 7) (m2 (.bool (f == 7)) (wt (cd h (fun ai h=>?_) (fun ai h=>?_))))))
   ·refine cT ai (wp_region_lit (fd 5 Tyf47_5 rfl (l1 0 (iI b) c Tya3 ?_)))
    obtain ⟨av,aN,h⟩:=ob h
    refine cv ([iI b,iI 0,iI 2]) Tyb42 ((f42_ok k) aN (hG.mono kr) (pt c)) ?_
    rintro _ bf ⟨aP,rfl,aw⟩
    have aQ:=ca aw c
    exact m2 (.bool av) (wpList_nil (blkN (thenN (⟨_,aP,false,false,av,fR,aw.sub,aQ,h⟩))))
   ·refine cF ai (sr (c0 (f == 22) (m2 (.bool (f == 22)) (wt (cd h (fun aj h=>?_) (fun aj h=>?_))))))
    ·refine cT aj (wp_region_lit (fd 5 Tyf47_5 rfl (l1 0 (iI b) c Tya3 ?_)))
     obtain ⟨ax,aR,h⟩:=ob h
     refine cv ([iI b,iI 0,iI 1]) Tyb42 ((f42_ok k) aR (hG.mono kr) (pt c)) ?_
     rintro _ bg ⟨aS,rfl,ay⟩
     have aT:=ca ay c
     exact m2 (.bool ax) (wpList_nil (blkN (thenN (⟨_,aS,false,false,ax,fR,ay.sub,aT,h⟩))))
    ·refine cF aj (sr (c0 (f == 20) (m2 (.bool (f == 20)) (wt (cd h (fun ak h=>?_) (fun ak h=>?_))))))
     ·refine cT ak (sr (fd 5 Tyf47_5 rfl (l1 0 (iI b) c Tya3 ?_)))
      obtain ⟨az,aU,h⟩:=ob h
      refine cv ([iI b,iI 0,iI 1]) Tyb42 ((f42_ok k) aU (hG.mono kr) (pt c)) ?_
      rintro _ bh ⟨aV,rfl,aA⟩
      have aB:=ca aA c
      exact m2 (.bool az) (wt (wp_region_lit (fd 5 Tyf47_5 rfl (l1 0 (iI b) aB Tya3 (c0 (b == 1) (m2 (.bool (b == 1)) (wpList_nil (blkN (thenN (⟨_,aV,(b == 1),false,az,fR,aA.sub,aB,h⟩))))))))))
     ·refine cF ak (sr (c0 (f == 24) (m2 (.bool (f == 24)) (wt (cd h (fun al h=>?_) (fun al h=>?_))))))
      ·refine cT al (wp_cut (fun a w=>∃ aE J N,a=fr 97 (updL aE [(1,pp (zz wi) 0),(5,.bool N)])∧KH.sub K J∧SR K J wi w [] [.box (zz wi) (zz wi) (vS f g S U V b Z W ab ac X ad D j G x d y ae Y af).toArray 47]∧f65_j3 k b j d N=some r_) ?_ ?_)
       ·refine wp_region_lit (fd 5 Tyf47_5 rfl (l1 0 (iI b) c Tya3 ?_))
        obtain ⟨aW,aX,h⟩:=ob h
        refine cv ([iI b,iI 1,iI 3]) Tyb42 ((f42_ok k) aX (hG.mono kr) (pt c)) ?_
        rintro _ bi ⟨aF,rfl,am⟩
        have O:=ca am c
        refine m1 (.bool aW) (cd h (fun e h=>?_) (fun e h=>?_))
        ·exact n1 49 e (fd 1 Tyf47_1 rfl (n1 49 e (l1 0 (.string g) O Tya9 (n1 49 e (bsc (r:=(!seq g ⟨#[]⟩)) rfl rfl rfl (n1 49 e (fd 5 Tyf47_5 rfl (n1 49 e (l1 0 (iI b) O Tya3 (n1 49 e (bbt (r:=(IntKind.i64.wrap (BitVec.ofInt IntKind.i64.bits b &&& BitVec.ofInt IntKind.i64.bits 1).toNat)) rfl rfl rfl (n1 49 e (c0 ((IntKind.i64.wrap (BitVec.ofInt IntKind.i64.bits b &&& BitVec.ofInt IntKind.i64.bits 1).toNat) == 1) (n1 49 e (bbo (r:=((!seq g ⟨#[]⟩) == ((IntKind.i64.wrap (BitVec.ofInt IntKind.i64.bits b &&& BitVec.ofInt IntKind.i64.bits 1).toNat) == 1))) Tyo4 rfl rfl rfl (m3 true (.bool ((!seq g ⟨#[]⟩) == ((IntKind.i64.wrap (BitVec.ofInt IntKind.i64.bits b &&& BitVec.ofInt IntKind.i64.bits 1).toNat) == 1))) (cg e) (m2 (.bool ((!seq g ⟨#[]⟩) == ((IntKind.i64.wrap (BitVec.ofInt IntKind.i64.bits b &&& BitVec.ofInt IntKind.i64.bits 1).toNat) == 1))) (wt (⟨_,aF,((!seq g ⟨#[]⟩) == ((IntKind.i64.wrap (BitVec.ofInt IntKind.i64.bits b &&& BitVec.ofInt IntKind.i64.bits 1).toNat) == 1)),fR,am.sub,O,h⟩)))))))))))))))))))
        ·exact o1 49 e (o1 49 e (o1 49 e (o1 49 e (o1 49 e (o1 49 e (o1 49 e (o1 49 e (m3 false vN (cg e) (m2 vN (wt (⟨_,aF,false,fR,am.sub,O,h⟩)))))))))))
       ·rintro _ bj ⟨aE,J,N,rfl,aY,an,h⟩
        unfold f65_j3 at h
        exact sr (fd 5 Tyf47_5 rfl (l1 0 (iI b) an Tya3 (bbt (r:=(IntKind.i64.wrap (BitVec.ofInt IntKind.i64.bits b &&& BitVec.ofInt IntKind.i64.bits 1).toNat)) rfl rfl rfl (c0 ((IntKind.i64.wrap (BitVec.ofInt IntKind.i64.bits b &&& BitVec.ofInt IntKind.i64.bits 1).toNat) == 1) (m2 (.bool ((IntKind.i64.wrap (BitVec.ofInt IntKind.i64.bits b &&& BitVec.ofInt IntKind.i64.bits 1).toNat) == 1)) (wt (wp_region_lit (fd 5 Tyf47_5 rfl (l1 0 (iI b) an Tya3 (bbt (r:=(IntKind.i64.wrap (BitVec.ofInt IntKind.i64.bits b &&& BitVec.ofInt IntKind.i64.bits 2).toNat)) rfl rfl rfl (c0 ((IntKind.i64.wrap (BitVec.ofInt IntKind.i64.bits b &&& BitVec.ofInt IntKind.i64.bits 2).toNat) == 2) (m2 (.bool ((IntKind.i64.wrap (BitVec.ofInt IntKind.i64.bits b &&& BitVec.ofInt IntKind.i64.bits 2).toNat) == 2)) (wpList_nil (blkN (thenN (⟨_,J,((IntKind.i64.wrap (BitVec.ofInt IntKind.i64.bits b &&& BitVec.ofInt IntKind.i64.bits 1).toNat) == 1),((IntKind.i64.wrap (BitVec.ofInt IntKind.i64.bits b &&& BitVec.ofInt IntKind.i64.bits 2).toNat) == 2),N,fR,aY,an,h⟩))))))))))))))))
      ·refine cF al (sr (c0 (f == 28) (m2 (.bool (f == 28)) (wt (cd h (fun ao h=>?_) (fun ao h=>?_))))))
       ·refine cT ao (wp_region_lit (fd 5 Tyf47_5 rfl (l1 0 (iI b) c Tya3 ?_)))
        obtain ⟨aZ,a1,h⟩:=ob h
        refine cv ([iI b,iI 0,iI 66]) Tyb42 ((f42_ok k) a1 (hG.mono kr) (pt c)) ?_
        rintro _ bk ⟨aG,rfl,ap⟩
        have aq:=ca ap c
        refine m1 (.bool aZ) (cd h (fun l h=>?_) (fun l h=>?_))
        ·exact n1 72 l (fd 5 Tyf47_5 rfl (n1 72 l (l1 0 (iI b) aq Tya3 (n1 72 l (bdv (r:=(b.tmod 4)) rfl rfl (by decide) rfl (n1 72 l (c0 (decide ((b.tmod 4) < 3)) (m3 true (.bool (decide ((b.tmod 4) < 3))) (cg l) (m2 (.bool (decide ((b.tmod 4) < 3))) (wpList_nil (blkN (thenN (⟨_,aG,false,false,(decide ((b.tmod 4) < 3)),fR,ap.sub,aq,h⟩)))))))))))))
        ·exact o1 72 l (o1 72 l (o1 72 l (o1 72 l (m3 false vN (cg l) (m2 vN (wpList_nil (blkN (thenN (⟨_,aG,false,false,false,fR,ap.sub,aq,h⟩)))))))))
       ·exact cF ao (wp_skip (blkN (thenN (⟨_,K,false,false,(b == 0),fR,kr,c,h⟩))))
 ·rintro _ bm ⟨au,z,A,v,B,rfl,bn,u,h⟩
  unfold f65_j1 at h
  refine wp_cut (fun a w=>∃ aH ar,a=fr 97 (updL aH [(2,.bool ar)])∧SR K z wi w [] []∧f65_j2 k ar=some r_) ?_ ?_
  ·refine wp_region_lit (m1 (.bool B) (m1 (.bool B) (cd h (fun m h=>?_) (fun m h=>?_))))
   ·refine n1 79 m (m1 (.bool A) (n1 79 m (m1 (.bool A) (cd h (fun o h=>?_) (fun o h=>?_)))))
    ·refine o1 81 o (o1 81 o (o1 81 o (o1 81 o (n1 79 m (m3 true vT (cg o) (m3 true vT (cg m) (m1 vT (n0 88 (m1 (.bool v) (n0 88 (m1 (.bool v) (cd h (fun p h=>?_) (fun p h=>?_)))))))))))))
     ·exact o1 90 p (o1 90 p (o1 90 p (o1 90 p (n0 88 (m3 true vT (cg p) (m3 true vT rfl (m2 vT (wt (⟨_,true,fR,(u.sel []),h⟩)))))))))
     ·exact n1 90 p (fd 9 Tyf47_9 rfl (n1 90 p (l1 0 (sl x d y) u Tya32 (n1 90 p (lS d.length Tye32 (n1 90 p (c0 ((d.length:Int) == 0) (n0 88 (m3 false (.bool ((d.length:Int) == 0)) (cg p) (m3 true (.bool ((d.length:Int) == 0)) rfl (m2 (.bool ((d.length:Int) == 0)) (wt (⟨_,((d.length:Int) == 0),fR,(u.sel []),h⟩)))))))))))))
    ·refine n1 81 o (fd 8 Tyf47_8 rfl (n1 81 o (l1 0 (sl D j G) u Tya32 (n1 81 o (lS j.length Tye32 (n1 81 o (c0 ((j.length:Int) == 0) (n1 79 m (m3 false (.bool ((j.length:Int) == 0)) (cg o) (m3 true (.bool ((j.length:Int) == 0)) (cg m) (m1 (.bool ((j.length:Int) == 0)) (cd h (fun q h=>?_) (fun q h=>?_)))))))))))))
     ·refine n1 88 q (m1 (.bool v) (n1 88 q (m1 (.bool v) (cd h (fun s h=>?_) (fun s h=>?_)))))
      ·exact o1 90 s (o1 90 s (o1 90 s (o1 90 s (n1 88 q (m3 true vT (cg s) (m3 true vT (cg q) (m2 vT (wt (⟨_,true,fR,(u.sel []),h⟩)))))))))
      ·exact n1 90 s (fd 9 Tyf47_9 rfl (n1 90 s (l1 0 (sl x d y) u Tya32 (n1 90 s (lS d.length Tye32 (n1 90 s (c0 ((d.length:Int) == 0) (n1 88 q (m3 false (.bool ((d.length:Int) == 0)) (cg s) (m3 true (.bool ((d.length:Int) == 0)) (cg q) (m2 (.bool ((d.length:Int) == 0)) (wt (⟨_,((d.length:Int) == 0),fR,(u.sel []),h⟩)))))))))))))
     ·exact o1 88 q (o1 88 q (ou 90 (ou 90 (ou 90 (ou 90 (o1 88 q (m3 false vN (cg q) (m2 vN (wt (⟨_,false,fR,(u.sel []),h⟩))))))))))
   ·exact o1 79 m (o1 79 m (ou 81 (ou 81 (ou 81 (ou 81 (o1 79 m (m3 false vN (cg m) (m1 vN (o0 88 (o0 88 (ou 90 (ou 90 (ou 90 (ou 90 (o0 88 (m3 false vN rfl (m2 vN (wt (⟨_,false,fR,(u.sel []),h⟩)))))))))))))))))))
  ·rintro _ bo ⟨aH,ar,rfl,a2,h⟩
   unfold f65_j2 at h
   refine wp_ret ?_
   cases (oi h).trans hr_
   exact retA1 rfl (resT rfl) ⟨z,rfl,a2⟩
theorem f65_ok (k:Nat):f65_spec (f65 k):=f65_b_ok k
theorem f78_b_ok (k:Nat):f78_spec (f78_b k):=by
 unfold f78_spec
 intro K wi b t h hG q s
 obtain ⟨r_,hr_,h⟩:=rz h
 refine enter Tryd.func78 rfl (n:=23) rfl ?_
 unfold f78_b at h
 refine sr (m2 vN (wt (wp_seq (sr (m1 (.string b) (lnT (a:=b) Tyt9 rfl (m1 (iI 0) (wt (wp_block (wp_loopG (fun g_ a w=>∃ m e,∃ (c:Nat),g_=e.length∧a=fr 23 (updL m [(0,.string b),(5,iI (b.size:Int)),(6,iI (c:Int))])∧SR K K wi w [] []∧b.data.toList.drop c=e∧f78_l1 k b e c=some r_) b.data.toList.length ?_ ?_))))))))))
 ·exact ⟨_,b.data.toList,0,rfl,fR,s,List.drop_zero,h⟩
 ·rintro _ _ u ⟨m,e,c,rfl,rfl,i,f,h⟩
  rcases e with _ | ⟨g,e⟩
  ·unfold f78_l1 at h
   refine sr (bcm (r:=false) rfl rfl (congrArg some (drop_nil_ls f)) (wt (wp_seq (cndF rfl (wp_exit (thenX (thenX (blkX (thenN (sr (m1 (.string b) (lnT (a:=b) Tyt9 rfl (c0 (decide ((b.size:Int) ≤ 60)) (m2 (.bool (decide ((b.size:Int) ≤ 60))) (wt (wp_ret ?_))))))))))))))))
   cases (oi h).trans hr_
   exact retA1 rfl (resT rfl) ⟨K,rfl,i⟩
  ·unfold f78_l1 at h
   refine sr (bcm (r:=true) rfl rfl (congrArg some (drop_cons_ts f)) (wt (wp_seq (cndT rfl (wp_skip (thenN (wp_seq (wp_block (sr (m1 (iI (c:Int)) (m2 (iI (c:Int)) (wt (wp_cut (fun a w=>∃ o j,a=fr 23 (updL o [(0,.string b),(5,iI (b.size:Int)),(6,iI (c:Int)),(18,.bool j)])∧SR K K wi w [] []∧f78_j1 k c j (f78_l1 k b e)=some r_) ?_ ?_)))))))))))))
   ·refine wp_region_lit (m1 (.string b) (m1 (iI (c:Int)) (ixN Tyt9 rfl rfl f (c0 (decide ((g.toNat:Int) < 32)) (m1 (.bool (decide ((g.toNat:Int) < 32))) (cd h (fun d h=>?_) (fun d h=>?_)))))))
    ·exact o1 13 d (o1 13 d (o1 13 d (o1 13 d (m3 true vT (cg d) (wt (⟨_,true,fR,i,h⟩))))))
    ·exact n1 13 d (m1 (.string b) (n1 13 d (m1 (iI (c:Int)) (n1 13 d (ixN Tyt9 rfl rfl f (n1 13 d (c0 (decide ((g.toNat:Int) > 126)) (m3 false (.bool (decide ((g.toNat:Int) > 126))) (cg d) (wt (⟨_,(decide ((g.toNat:Int) > 126)),fR,i,h⟩))))))))))
   ·rintro _ v ⟨o,j,rfl,p,h⟩
    unfold f78_j1 at h
    refine cd h (fun l h=>?_) (fun l h=>?_)
    ·refine cT l (sr (m2 vN (wt (wp_ret (blkR (thenR (thenR (blkR (thenR ?_)))))))))
     cases (oi h).trans hr_
     exact retA1 rfl (resT rfl) ⟨K,rfl,p⟩
    ·exact cF l (wp_skip (blkN (thenN (wp_region_lit (bar (r:=((c + 1:Nat):Int)) rfl rfl (inc_ok (le_bigs q f)) (m1 (iI ((c + 1:Nat):Int)) (wt (⟨_,Nat.lt_succ_self _,_,e,c + 1,rfl,fR,p,drop_cons_next f,h⟩))))))))
theorem f78_ok (k:Nat):f78_spec (f78 k):=f78_b_ok k
theorem isText_short (k:Nat) (a:ByteArray) : ∀ (l:List UInt8) (i:Nat),f78_l1 k a l i=some true→a.size≤60
 | [],i,h=>by
  unfold f78_l1 at h
  have:=of_decide_eq_true (Option.some.inj h)
  omega
 | e :: l,i,h=>by
  unfold f78_l1 at h
  rcases Bool.eq_false_or_eq_true (decide ((e.toNat:Int) < 32)) with h1 | h1
  ·rw [h1] at h
   simp [f78_j1] at h
  ·rw [h1] at h
   simp only [cond_false,f78_j1] at h
   rcases Bool.eq_false_or_eq_true (decide ((e.toNat:Int) > 126)) with h2 | h2
   ·rw [h2] at h
    simp at h
   ·rw [h2] at h
    exact isText_short k a l _ h
theorem quote_ok (k:Nat) (h162:f78_spec (f78 k)) {K:KH} {wi:World} {a:ByteArray} {r:Bool} (h:f78 k a=some r) (hG:GK K) (ha:a.size≤mB) (S0:Sx K K wi wi (fun b=>b ∈ Ents.blks []) []) :
  Calls Tryd.prog 75 #[.string a] wi (Ret fun v w'=>∃ (K' : KH) (s:ByteArray),v=.tuple #[.string s,.int .i64 (cond r 0 2)]∧Sx K K' wi w' (fun b=>b ∈ Ents.blks []) []):=by
 refine enter Tryd.func75 rfl (n:=12) rfl ?_
 refine wp_seq ?_
 refine wp_region_lit ?_
 refine asg (v:=.string ⟨#[]⟩) rfl ?_
 refine asg (v:=.int .i64 0) rfl ?_
 refine wpList_nil ?_
 refine thenN ?_
 refine wp_seq ?_
 refine wp_seq ?_
 refine wp_region_lit ?_
 refine mv (v:=.string a) rfl ?_
 refine clV (caps:=#[]) (vs:=[.string a]) rfl (by kernel_rfl) rfl (h162 h hG ha S0) ?_
 rintro _ w1 ⟨K1,rfl,T1⟩
 refine unot (a:=r) rfl ?_
 refine wpList_nil ?_
 refine thenN ?_
 rcases r with _ | _
 ·refine cndT rfl ?_
  refine wp_seq ?_
  refine wp_region_lit ?_
  refine asg (v:=.string ⟨#[]⟩) rfl ?_
  refine asg (v:=.int .i64 2) rfl ?_
  refine wpList_nil ?_
  refine thenN ?_
  refine wp_ret ?_
  refine thenR ?_
  exact retA2 rfl (resT rfl) (resT rfl) ⟨K1,_,rfl,T1⟩
 ·have hsh:a.size≤60:=isText_short k a _ _ h
  refine cndF rfl ?_
  refine wp_skip ?_
  refine thenN ?_
  refine wp_seq ?_
  refine wp_region_lit ?_
  refine mv (v:=.string a) rfl ?_
  have hG1:=hG.mono T1.sub
  refine clV (caps:=#[]) (vs:=[.string a,.string ⟨#[92]⟩,.string ⟨#[92,92]⟩]) rfl (by kernel_rfl) rfl (replAll T1 hG1 a ⟨#[92]⟩ ⟨#[92,92]⟩ (by omega) (by decide) (by decide)) ?_
  rintro _ w2 ⟨s2,rfl,hs2,T2⟩
  refine clV (caps:=#[]) (vs:=[.string s2,.string ⟨#[34]⟩,.string ⟨#[92,34]⟩]) rfl (by kernel_rfl) rfl (replAll T2 hG1 s2 ⟨#[34]⟩ ⟨#[92,34]⟩ (by omega) (by decide) (by decide)) ?_
  rintro _ w3 ⟨s3,rfl,hs3,T3⟩
  refine bsa (a:=⟨#[34]⟩) (b:=s3) rfl rfl (by have:(⟨#[34]⟩:ByteArray).size=1:=rfl; omega) ?_
  refine bsa (a:=⟨#[34]⟩ ++ s3) (b:=⟨#[34]⟩) rfl rfl (by have:(⟨#[34]⟩:ByteArray).size=1:=rfl; rw [ByteArray.size_append]; omega) ?_
  refine asg (v:=.string (⟨#[34]⟩ ++ s3 ++ ⟨#[34]⟩)) rfl ?_
  refine asg (v:=.int .i64 0) rfl ?_
  refine wpList_nil ?_
  refine thenN ?_
  refine wp_ret ?_
  exact retA2 rfl (resT rfl) (resT rfl) ⟨K1,_,rfl,T3⟩
theorem f73_ok (k:Nat):f73_spec (f73 k):=by
 unfold f73_spec
 intro K wi a0 r0 h hG ha0 S0
 unfold f73 at h
 refine enter Tryd.func73 rfl (n:=12) rfl ?_
 refine wp_seq ?_
 refine wp_region_lit ?_
 refine asg (v:=.bool false) rfl ?_
 refine wpList_nil ?_
 refine thenN ?_
 refine wp_seq ?_
 refine wp_region_lit ?_
 refine mv (v:=.string a0) rfl ?_
 refine clV (caps:=#[]) (vs:=[.string a0]) rfl (by kernel_rfl) rfl (quote_ok k (f78_ok k) h hG ha0 S0) ?_
 rintro _ w1 ⟨K1,s1,rfl,T1⟩
 refine mv (v:=.tuple #[.string s1,.int .i64 (cond r0 0 2)]) rfl ?_
 refine ext (v:=.string s1) rfl rfl ?_
 refine ext (v:=.int .i64 (cond r0 0 2)) rfl rfl ?_
 refine asg (v:=.string s1) rfl ?_
 refine asg (v:=.int .i64 (cond r0 0 2)) rfl ?_
 refine wpList_nil ?_
 refine thenN ?_
 refine wp_seq ?_
 refine wp_region_lit ?_
 refine mv (v:=.int .i64 (cond r0 0 2)) rfl ?_
 refine bcm (r:=decide ((cond r0 0 2:Int)=0)) rfl rfl rfl ?_
 refine asg (v:=.bool (decide ((cond r0 0 2:Int)=0))) rfl ?_
 refine wpList_nil ?_
 refine thenN ?_
 refine wp_ret ?_
 exact retA1 rfl (resT rfl) ⟨K1,by cases r0 <;> rfl,T1⟩
theorem f67_b_ok (k:Nat) (F:Fam67) (IH67:f67_spec F.f67) (IH70:f70_spec F.f70):f67_spec (f67_b k F):=by
 unfold f67_spec
 intro K wi g bs D G I d O S y aG aH aI aJ h hG U ac
 obtain ⟨r_,hr_,h⟩:=rz h
 refine enter Tryd.func67 rfl (n:=21) rfl ?_
 unfold f67_b at h
 refine sr (m2 vN (wt (wp_seq (sr (m1 (sl O d S) (lS d.length Tye44 (m1 (iI 0) (wt (wp_block (wp_loopG (fun g_ a w=>∃ V x e,∃ (c:Nat),∃ z A B,g_=e.length∧a=fr 21 (updL V [(0,pp g 0),(2,iI y),(9,sl O d S),(10,iI (d.length:Int)),(11,iI (c:Int))])∧KH.sub K x∧SR K x wi w [.box bs g #[iI D,iI G,.bool I] 77] [.box bs g #[iI z,iI A,.bool B] 77]∧d.drop c=e∧f67_l1 k F y e c z A B=some r_) d.length ?_ ?_))))))))))
 ·exact ⟨_,K,d,0,D,G,I,rfl,fR,kr,ac,List.drop_zero,h⟩
 ·rintro _ _ ad ⟨V,x,e,c,z,A,B,rfl,rfl,C,J,f,h⟩
  rcases e with _ | ⟨⟨l,m,p,q,s⟩,e⟩
  ·unfold f67_l1 at h
   refine sr (bcm (r:=false) rfl rfl (congrArg some (drop_nil_lt f)) (wt (wp_seq (cndF rfl (wp_exit (thenX (thenX (blkX (thenN (sr (m2 vT (wt (wp_ret ?_)))))))))))))
   have e_:=(Option.some.inj h).trans hr_
   obtain ⟨ae,af⟩:=Prod.mk.inj e_
   obtain ⟨ag,ah,ai⟩:=Dcounter.mk.inj ae
   subst ag
   subst ah
   subst ai
   subst af
   exact retA1 rfl (resT rfl) ⟨x,rfl,J⟩
  ·unfold f67_l1 at h
   refine sr (bcm (r:=true) rfl rfl (congrArg some (drop_cons_t f)) (wt (wp_seq (cndT rfl (wp_skip (thenN (wp_seq (wp_block (sr ?_)))))))))
   obtain ⟨aj,ak,aK,al,aL,am,an⟩:=((me U C)).row.at_ (drop_cons_at f)
   obtain ⟨t,u,rfl,ao,ap⟩:=RDExpr.open an
   refine idxN (b:=aj) (o:=ak) (i:=c) Tye44 Tys61 rfl al rfl (drop_cons_lt f) (lD (vE l m p q t s u) Tya61 Tys61 rfl (fun j v hj=>J.cell (kr.cell (am j v hj))) (aC zE.toArray J Tyz61 (fun aM aq=>(sI 0 (.agg (vE l m p q t s u).toArray) ((vE l m p q t s u).toArray) aq Tys61 rfl rfl (fun ar W=>(wt (sr (m1 (pp g 0) (lN 0 (vE l m p q t s u) W Tya61 Tys61 (m1 (iI y) ?_))))))))))
   have X:=p10 W
   obtain ⟨⟨⟨au,av,aw⟩,ax⟩,ay,h⟩:=ob h
   refine cv ([pp g 0,.agg (vE l m p q t s u).toArray,iI y]) Tyb70 (IH70 ay (hG.mono C) (RDExpr.intro ao ap) (pt X)) ?_
   rintro _ aN ⟨Y,rfl,Z⟩
   have ab:=ca Z X
   refine uN ax (wt (cd h (fun N h=>?_) (fun N h=>?_)))
   ·refine cT N (sr (m2 vN (wt (wp_ret (blkR (thenR (thenR (blkR (thenR ?_)))))))))
    have e_:=(Option.some.inj h).trans hr_
    obtain ⟨az,aA⟩:=Prod.mk.inj e_
    obtain ⟨aB,aE,aF⟩:=Dcounter.mk.inj az
    subst aB
    subst aE
    subst aF
    subst aA
    exact retA1 rfl (resT rfl) ⟨Y,rfl,(ab.sel [0])⟩
   ·exact cF N (wp_skip (blkN (thenN (wp_region_lit (bar (r:=((c + 1:Nat):Int)) rfl rfl (inc_ok (le_big (((me U C)).len) (by decide) (drop_cons_lt f))) (m1 (iI ((c + 1:Nat):Int)) (wt (⟨_,Nat.lt_succ_self _,_,Y,e,c + 1,au,av,aw,rfl,fR,(C.trans Z.sub),(ab.sel [0]),drop_cons_next f,h⟩))))))))
theorem f70_b_ok (k:Nat) (F:Fam67) (IH67:f67_spec F.f67) (IH70:f70_spec F.f70):f70_spec (f70_b k F):=by
 unfold f70_spec
 intro K wi g bs I J N a0 bK i bL bM bN bO h hG a3 a4
 obtain ⟨r_,hr_,h⟩:=rz h
 obtain ⟨c,d,b,u,f⟩:=a0
 obtain ⟨v,x,rfl,aK,a5⟩:=RDExpr.open a3
 refine enter Tryd.func70 rfl (n:=107) rfl ?_
 unfold f70_b at h
 refine sr (bxoC (cs:=(vE c d b u v f x).toArray) a4 rfl rfl (fun a6 a7=>(m2 vN (wt (wp_seq (wp_cut (fun a w=>∃ aL t m o p ai,a=fr 107 (updL aL [(0,pp g 0),(2,iI i),(4,pp (zz wi) 0),(24,.bool ai)])∧KH.sub K t∧SR K t wi w [.box bs g #[iI I,iI J,.bool N] 77] [.box bs g #[iI m,iI o,.bool p] 77,.box (zz wi) (zz wi) (vE c d b u v f x).toArray 61]∧f70_j1 k F c d b f i m o p ai=some r_) ?_ ?_))))))
 ·refine wp_region_lit (m1 (pp g 0) (m1 (iI i) ?_))
  have aM:=p10 a7
  obtain ⟨⟨⟨aj,ak,O⟩,aN⟩,a8,h⟩:=ob h
  refine cv ([pp g 0,iI i]) Tyb43 ((f43_ok k) a8 (hG.mono kr) (pt aM)) ?_
  rintro _ bP ⟨al,rfl,ac⟩
  have Y:=ca ac aM
  refine uN aN (m1 (.bool (!aN)) (cd h (fun j h=>?_) (fun j h=>?_)))
  ·exact o1 13 j (o1 13 j (o1 13 j (o1 13 j (ou 17 (ou 17 (ou 17 (ou 17 (ou 17 (o1 13 j (m3 true vT (cg j) (wt (⟨_,al,aj,ak,O,true,fR,ac.sub,Y,h⟩))))))))))))
  ·refine n1 13 j (fd 3 Tyf61_3 rfl (n1 13 j (l1 1 (iI u) Y Tya3 (n1 13 j (c0 (u != 0) (n1 13 j (m1 (.bool (u != 0)) (cd h (fun q h=>?_) (fun q h=>?_)))))))))
   ·exact n1 17 q (m1 (pp g 0) (n1 17 q (nilc rfl (n1 17 q (fd 2 Tyf77_2 rfl (n1 17 q (l1 0 (.bool O) Y Tya4 (n1 17 q (uN O (n1 13 j (m3 true (.bool (!O)) (cg q) (m3 false (.bool (!O)) (cg j) (wt (⟨_,al,aj,ak,O,(!O),fR,ac.sub,Y,h⟩))))))))))))))
   ·exact o1 17 q (o1 17 q (o1 17 q (o1 17 q (o1 17 q (n1 13 j (m3 false vN (cg q) (m3 false vN (cg j) (wt (⟨_,al,aj,ak,O,false,fR,ac.sub,Y,h⟩)))))))))
 ·rintro _ bQ ⟨aL,t,m,o,p,ai,rfl,S,e,h⟩
  unfold f70_j1 at h
  refine cd h (fun am h=>?_) (fun am h=>?_)
  ·refine cT am (sr (m2 vN (wt (wp_ret (thenR ?_)))))
   have e_:=(Option.some.inj h).trans hr_
   obtain ⟨a9,ba⟩:=Prod.mk.inj e_
   obtain ⟨bb,bd,be⟩:=Dcounter.mk.inj a9
   subst bb
   subst bd
   subst be
   subst ba
   exact retA1 rfl (resT rfl) ⟨t,rfl,(e.sel [0])⟩
  ·refine cF am (wp_skip (thenN (sr (m2 (iI 0) (wt (sr (m2 vN (wt (wp_cut (fun a w=>∃ aP W U Z,a=fr 107 (updL aP [(0,pp g 0),(2,iI i),(4,pp (zz wi) 0),(7,iI U),(8,.bool Z)])∧KH.sub t W∧SR K W wi w [.box bs g #[iI I,iI J,.bool N] 77] [.box bs g #[iI m,iI o,.bool p] 77,.box (zz wi) (zz wi) (vE c d b u v f x).toArray 61]∧f70_j2 k F f i m o p U Z=some r_) ?_ ?_)))))))))
   ·refine sr (fd 0 Tyf61_0 rfl (l1 1 (iI c) e Tya3 (wt (wp_block (sr (c0 (c == 1) (m2 (.bool (c == 1)) (wt (cd h (fun an h=>?_) (fun an h=>?_))))))))))
    ·refine cT an (wp_region_lit (fd 1 Tyf61_1 rfl (l1 1 (iI d) e Tya3 ?_)))
     obtain ⟨bf,bg,h⟩:=ob h
     refine cv ([iI d,iI 0,iI 1000000000000]) Tyb42 ((f42_ok k) bg (hG.mono S) (pt e)) ?_
     rintro _ bR ⟨aQ,rfl,ao⟩
     have ap:=ca ao e
     refine m1 (.bool bf) (cd h (fun y h=>?_) (fun y h=>?_))
     ·exact n1 45 y (fd 2 Tyf61_2 rfl (n1 45 y (l1 1 (.string b) ap Tya9 (n1 45 y (bsc (r:=(seq b ⟨#[]⟩)) rfl rfl rfl (m3 true (.bool (seq b ⟨#[]⟩)) (cg y) (m2 (.bool (seq b ⟨#[]⟩)) (wpList_nil (blkN (thenN (⟨_,aQ,0,(seq b ⟨#[]⟩),fR,ao.sub,ap,h⟩)))))))))))
     ·exact o1 45 y (o1 45 y (o1 45 y (m3 false vN (cg y) (m2 vN (wpList_nil (blkN (thenN (⟨_,aQ,0,false,fR,ao.sub,ap,h⟩))))))))
    ·refine cF an (sr (c0 (c == 2) (m2 (.bool (c == 2)) (wt (cd h (fun aq h=>?_) (fun aq h=>?_))))))
     ·refine cT aq (wp_region_lit (fd 1 Tyf61_1 rfl (l1 1 (iI d) e Tya3 ?_)))
      obtain ⟨bh,bi,h⟩:=ob h
      refine cv ([iI d,iI 0,iI 1]) Tyb42 ((f42_ok k) bi (hG.mono S) (pt e)) ?_
      rintro _ bS ⟨aR,rfl,ar⟩
      have au:=ca ar e
      refine m1 (.bool bh) (cd h (fun z h=>?_) (fun z h=>?_))
      ·exact n1 55 z (fd 2 Tyf61_2 rfl (n1 55 z (l1 1 (.string b) au Tya9 (n1 55 z (bsc (r:=(seq b ⟨#[]⟩)) rfl rfl rfl (m3 true (.bool (seq b ⟨#[]⟩)) (cg z) (m2 (.bool (seq b ⟨#[]⟩)) (wpList_nil (blkN (thenN (⟨_,aR,0,(seq b ⟨#[]⟩),fR,ar.sub,au,h⟩)))))))))))
      ·exact o1 55 z (o1 55 z (o1 55 z (m3 false vN (cg z) (m2 vN (wpList_nil (blkN (thenN (⟨_,aR,0,false,fR,ar.sub,au,h⟩))))))))
     ·refine cF aq (sr (c0 (c == 3) (m2 (.bool (c == 3)) (wt (cd h (fun av h=>?_) (fun av h=>?_))))))
      ·refine cT av (wp_region_lit (fd 1 Tyf61_1 rfl (l1 1 (iI d) e Tya3 (c0 (d == 0) (m1 (.bool (d == 0)) (cd h (fun A h=>?_) (fun A h=>?_)))))))
       ·refine n1 65 A (fd 2 Tyf61_2 rfl (n1 65 A (l1 1 (.string b) e Tya9 (n1 65 A ?_))))
        obtain ⟨aw,bj,h⟩:=ob h
        refine cv ([.string b]) Tyb73 ((f73_ok k) bj (hG.mono S) aK (pt e)) ?_
        rintro _ bT ⟨bk,rfl,aS⟩
        have bm:=ca aS e
        exact m3 true (.bool aw) (cg A) (m2 (.bool aw) (wpList_nil (blkN (thenN (⟨_,bk,0,aw,fR,aS.sub,bm,h⟩)))))
       ·exact o1 65 A (o1 65 A (o1 65 A (m3 false vN (cg A) (m2 vN (wpList_nil (blkN (thenN (⟨_,t,0,false,fR,kr,e,h⟩))))))))
      ·refine cF av (sr (c0 (c == 4) (m2 (.bool (c == 4)) (wt (cd h (fun ax h=>?_) (fun ax h=>?_))))))
       ·refine cT ax (wp_region_lit (fd 1 Tyf61_1 rfl (l1 1 (iI d) e Tya3 (c0 (d == 0) (m1 (.bool (d == 0)) (cd h (fun B h=>?_) (fun B h=>?_)))))))
        ·refine n1 75 B (fd 2 Tyf61_2 rfl (n1 75 B (l1 1 (.string b) e Tya9 (n1 75 B ?_))))
         obtain ⟨ay,bn,h⟩:=ob h
         refine cv ([.string b]) Tyb44 ((f44_ok k) bn (hG.mono S) aK (pt e)) ?_
         rintro _ bU ⟨bo,rfl,aT⟩
         have bp:=ca aT e
         exact m3 true (.bool ay) (cg B) (m2 (.bool ay) (wpList_nil (blkN (thenN (⟨_,bo,0,ay,fR,aT.sub,bp,h⟩)))))
        ·exact o1 75 B (o1 75 B (o1 75 B (m3 false vN (cg B) (m2 vN (wpList_nil (blkN (thenN (⟨_,t,0,false,fR,kr,e,h⟩))))))))
       ·refine cF ax (wp_cut (fun a w=>∃ aU az,a=fr 107 (updL aU [(0,pp g 0),(2,iI i),(4,pp (zz wi) 0),(80,.bool az)])∧SR K t wi w [.box bs g #[iI I,iI J,.bool N] 77] [.box bs g #[iI m,iI o,.bool p] 77,.box (zz wi) (zz wi) (vE c d b u v f x).toArray 61]∧f70_j4 k F c d b f i m o p az=some r_) ?_ ?_)
        ·refine sr (c0 (c == 5) (m2 (.bool (c == 5)) (wt (cd h (fun aA h=>?_) (fun aA h=>?_)))))
         ·exact cT aA (wp_skip (thenN (⟨_,(c == 5),fR,e,h⟩)))
         ·exact cF aA (wp_region_lit (c0 (c == 6) (m2 (.bool (c == 6)) (wt (⟨_,(c == 6),fR,e,h⟩)))))
        ·rintro _ bV ⟨aU,az,rfl,V,h⟩
         unfold f70_j4 at h
         refine cd h (fun aB h=>?_) (fun aB h=>?_)
         ·refine cT aB (wp_cut (fun a w=>∃ aV ad,a=fr 107 (updL aV [(0,pp g 0),(2,iI i),(4,pp (zz wi) 0),(8,.bool ad)])∧SR K t wi w [.box bs g #[iI I,iI J,.bool N] 77] [.box bs g #[iI m,iI o,.bool p] 77,.box (zz wi) (zz wi) (vE c d b u v f x).toArray 61]∧f70_j5 k F f i m o p ad=some r_) ?_ ?_)
          ·refine wp_region_lit (fd 1 Tyf61_1 rfl (l1 1 (iI d) V Tya3 (c0 (d == 0) (m1 (.bool (d == 0)) (cd h (fun C h=>?_) (fun C h=>?_))))))
           ·exact n1 86 C (fd 2 Tyf61_2 rfl (n1 86 C (l1 1 (.string b) V Tya9 (n1 86 C (bsc (r:=(seq b ⟨#[]⟩)) rfl rfl rfl (m3 true (.bool (seq b ⟨#[]⟩)) (cg C) (m2 (.bool (seq b ⟨#[]⟩)) (wt (⟨_,(seq b ⟨#[]⟩),fR,V,h⟩)))))))))
           ·exact o1 86 C (o1 86 C (o1 86 C (m3 false vN (cg C) (m2 vN (wt (⟨_,false,fR,V,h⟩))))))
          ·rintro _ bW ⟨aV,ad,rfl,bq,h⟩
           unfold f70_j5 at h
           exact wp_region_lit (m2 (iI 1) (wpList_nil (blkN (thenN (⟨_,t,1,ad,fR,kr,bq,h⟩)))))
         ·refine cF aB (wp_cut (fun a w=>∃ aW ae af,a=fr 107 (updL aW [(0,pp g 0),(2,iI i),(4,pp (zz wi) 0),(8,.bool af)])∧KH.sub t ae∧SR K ae wi w [.box bs g #[iI I,iI J,.bool N] 77] [.box bs g #[iI m,iI o,.bool p] 77,.box (zz wi) (zz wi) (vE c d b u v f x).toArray 61]∧f70_j6 k F f i m o p af=some r_) ?_ ?_)
          ·refine wp_region_lit (fd 0 Tyf61_0 rfl (l1 1 (iI c) V Tya3 ?_))
           obtain ⟨br,bu,h⟩:=ob h
           refine cv ([iI c,iI 7,iI 19]) Tyb42 ((f42_ok k) bu (hG.mono S) (pt V)) ?_
           rintro _ bX ⟨aE,rfl,ag⟩
           have ab:=ca ag V
           refine m1 (.bool br) (cd h (fun D h=>?_) (fun D h=>?_))
           ·refine n1 30 D (fd 1 Tyf61_1 rfl (n1 30 D (l1 1 (iI d) ab Tya3 (n1 30 D (c0 (d == 0) (m3 true (.bool (d == 0)) (cg D) (m1 (.bool (d == 0)) (cd h (fun G h=>?_) (fun G h=>?_)))))))))
            ·exact n1 35 G (fd 2 Tyf61_2 rfl (n1 35 G (l1 1 (.string b) ab Tya9 (n1 35 G (bsc (r:=(seq b ⟨#[]⟩)) rfl rfl rfl (m3 true (.bool (seq b ⟨#[]⟩)) (cg G) (m2 (.bool (seq b ⟨#[]⟩)) (wt (⟨_,aE,(seq b ⟨#[]⟩),fR,ag.sub,ab,h⟩)))))))))
            ·exact o1 35 G (o1 35 G (o1 35 G (m3 false vN (cg G) (m2 vN (wt (⟨_,aE,false,fR,ag.sub,ab,h⟩))))))
           ·exact o1 30 D (o1 30 D (o1 30 D (m3 false vN (cg D) (m1 vN (o0 35 (o0 35 (o0 35 (m3 false vN rfl (m2 vN (wt (⟨_,aE,false,fR,ag.sub,ab,h⟩)))))))))))
          ·rintro _ bY ⟨aW,ae,af,rfl,bv,bw,h⟩
           unfold f70_j6 at h
           exact wp_region_lit (m2 (iI 2) (wpList_nil (blkN (thenN (⟨_,ae,2,af,fR,bv,bw,h⟩)))))
   ·rintro _ bZ ⟨aP,W,U,Z,rfl,aX,X,h⟩
    unfold f70_j2 at h
    refine wp_cut (fun a w=>∃ aY ah aF aG aH aI,a=fr 107 (updL aY [(6,.bool aF)])∧KH.sub W ah∧SR K ah wi w [.box bs g #[iI I,iI J,.bool N] 77] [.box bs g #[iI aG,iI aH,.bool aI] 77]∧f70_j3 k F aF aG aH aI=some r_) ?_ ?_
    ·refine wp_region_lit (m1 (.bool Z) (m1 (.bool Z) (cd h (fun s h=>?_) (fun s h=>?_))))
     ·refine n1 92 s (fd 4 Tyf61_4 rfl (n1 92 s (l1 1 (sl v f x) X Tya44 (n1 92 s (lS f.length Tye44 (n1 92 s (m1 (iI U) (n1 92 s (c0 ((f.length:Int) == U) (m3 true (.bool ((f.length:Int) == U)) (cg s) (m1 (.bool ((f.length:Int) == U)) (cd h (fun l h=>?_) (fun l h=>?_)))))))))))))
      ·refine n1 99 l (m1 (pp g 0) (n1 99 l (fd 4 Tyf61_4 rfl (n1 99 l (l1 1 (sl v f x) X Tya44 (n1 99 l (m1 (iI i) (n1 99 l (bar (r:=(w64 (i + 1))) rfl rfl rfl (n1 99 l ?_))))))))))
       obtain ⟨⟨⟨bx,bz,bA⟩,aJ⟩,bB,h⟩:=ob h
       refine cv ([pp g 0,sl v f x,iI (w64 (i + 1))]) Tyb67 (IH67 bB (hG.mono (S.trans aX)) (me a5 (S.trans aX)) (pt X)) ?_
       rintro _ b0 ⟨bC,rfl,aZ⟩
       have bD:=ca aZ X
       exact m3 true (.bool aJ) (cg l) (m2 (.bool aJ) (wt (⟨_,bC,aJ,bx,bz,bA,fR,aZ.sub,(bD.sel [0]),h⟩)))
      ·exact o1 99 l (o1 99 l (o1 99 l (o1 99 l (o1 99 l (o1 99 l (m3 false vN (cg l) (m2 vN (wt (⟨_,W,false,m,o,p,fR,kr,(X.sel [0]),h⟩)))))))))
     ·exact o1 92 s (o1 92 s (o1 92 s (o1 92 s (o1 92 s (m3 false vN (cg s) (m1 vN (o0 99 (o0 99 (o0 99 (o0 99 (o0 99 (o0 99 (m3 false vN rfl (m2 vN (wt (⟨_,W,false,m,o,p,fR,kr,(X.sel [0]),h⟩))))))))))))))))
    ·rintro _ b1 ⟨aY,ah,aF,aG,aH,aI,rfl,b2,bE,h⟩
     unfold f70_j3 at h
     refine wp_ret ?_
     have e_:=(Option.some.inj h).trans hr_
     obtain ⟨bF,bG⟩:=Prod.mk.inj e_
     obtain ⟨bH,bI,bJ⟩:=Dcounter.mk.inj bF
     subst bH
     subst bI
     subst bJ
     subst bG
     exact retA1 rfl (resT rfl) ⟨ah,rfl,bE⟩
theorem fam67_ok (k0:Nat) : ∀ k,f67_spec (fam67 k0 k).f67∧f70_spec (fam67 k0 k).f70:=by
 intro k
 induction k with
 | zero=>exact ⟨(by unfold f67_spec; intro _ _ _ _ _ _ _ _ _ _ _ _ _ _ _ h_; cases h_),(by unfold f70_spec; intro _ _ _ _ _ _ _ _ _ _ _ _ _ _ h_; cases h_)⟩
 | succ k ih=>exact ⟨f67_b_ok k0 (fam67 k0 k) ih.1 ih.2,f70_b_ok k0 (fam67 k0 k) ih.1 ih.2⟩
theorem f67_ok (k:Nat):f67_spec (f67 k):=(fam67_ok k k).1
theorem f70_ok (k:Nat):f70_spec (f70 k):=(fam67_ok k k).2
theorem f45_b_ok (k:Nat) (F:Fam45) (IH45:f45_spec F.f45) (IH56:f56_spec F.f56) (IH66:f66_spec F.f66):f45_spec (f45_b k F):=by
 unfold f45_spec
 intro K wi g bs ac ad ae d ah ai W a0 a3 a4 a5 h hG aj aq
 obtain ⟨r_,hr_,h⟩:=rz h
 refine enter Tryd.func45 rfl (n:=21) rfl ?_
 unfold f45_b at h
 refine sr (m2 vN (wt (wp_seq (sr (m1 (sl ah d ai) (lS d.length Tye32 (m1 (iI 0) (wt (wp_block (wp_loopG (fun g_ a w=>∃ ak V e,∃ (c:Nat),∃ X Y Z,g_=e.length∧a=fr 21 (updL ak [(0,pp g 0),(2,iI W),(9,sl ah d ai),(10,iI (d.length:Int)),(11,iI (c:Int))])∧KH.sub K V∧SR K V wi w [.box bs g #[iI ac,iI ad,.bool ae] 77] [.box bs g #[iI X,iI Y,.bool Z] 77]∧d.drop c=e∧f45_l1 k F W e c X Y Z=some r_) d.length ?_ ?_))))))))))
 ·exact ⟨_,K,d,0,ac,ad,ae,rfl,fR,kr,aq,List.drop_zero,h⟩
 ·rintro _ _ ar ⟨ak,V,e,c,X,Y,Z,rfl,rfl,ab,af,f,h⟩
  rcases e with _ | ⟨⟨l,m,p,q,s,t,u,x,y,z,A⟩,e⟩
  ·unfold f45_l1 at h
   refine sr (bcm (r:=false) rfl rfl (congrArg some (drop_nil_lt f)) (wt (wp_seq (cndF rfl (wp_exit (thenX (thenX (blkX (thenN (sr (m2 vT (wt (wp_ret ?_)))))))))))))
   have e_:=(Option.some.inj h).trans hr_
   obtain ⟨au,av⟩:=Prod.mk.inj e_
   obtain ⟨aw,ax,ay⟩:=Dcounter.mk.inj au
   subst aw
   subst ax
   subst ay
   subst av
   exact retA1 rfl (resT rfl) ⟨V,rfl,af⟩
  ·unfold f45_l1 at h
   refine sr (bcm (r:=true) rfl rfl (congrArg some (drop_cons_t f)) (wt (wp_seq (cndT rfl (wp_skip (thenN (wp_seq (wp_block (sr ?_)))))))))
   obtain ⟨az,aA,a6,aB,a7,aE,aF⟩:=((ms aj ab)).row.at_ (drop_cons_at f)
   obtain ⟨B,C,D,G,I,J,N,O,S,U,rfl,aG,aH,aI,aJ,aK,aL,aM⟩:=RDStmt.open aF
   refine idxN (b:=az) (o:=aA) (i:=c) Tye32 Tys47 rfl aB rfl (drop_cons_lt f) (lD (vS l m p q s t B u C D x G I y J N z O S A U) Tya47 Tys47 rfl (fun j v hj=>af.cell (kr.cell (aE j v hj))) (aC zS.toArray af Tyz47 (fun a8 aN=>(sI 0 (.agg (vS l m p q s t B u C D x G I y J N z O S A U).toArray) ((vS l m p q s t B u C D x G I y J N z O S A U).toArray) aN Tys47 rfl rfl (fun aP al=>(wt (sr (m1 (pp g 0) (lN 0 (vS l m p q s t B u C D x G I y J N z O S A U) al Tya47 Tys47 (m1 (iI W) ?_))))))))))
   have am:=p10 al
   obtain ⟨⟨⟨aQ,aR,aS⟩,aT⟩,aU,h⟩:=ob h
   refine cv ([pp g 0,.agg (vS l m p q s t B u C D x G I y J N z O S A U).toArray,iI W]) Tyb56 (IH56 aU (hG.mono ab) (RDStmt.intro aG aH aI aJ aK aL aM) (pt am)) ?_
   rintro _ a9 ⟨an,rfl,ao⟩
   have ap:=ca ao am
   refine uN aT (wt (cd h (fun ag h=>?_) (fun ag h=>?_)))
   ·refine cT ag (sr (m2 vN (wt (wp_ret (blkR (thenR (thenR (blkR (thenR ?_)))))))))
    have e_:=(Option.some.inj h).trans hr_
    obtain ⟨aV,aW⟩:=Prod.mk.inj e_
    obtain ⟨aX,aY,aZ⟩:=Dcounter.mk.inj aV
    subst aX
    subst aY
    subst aZ
    subst aW
    exact retA1 rfl (resT rfl) ⟨an,rfl,(ap.sel [0])⟩
   ·exact cF ag (wp_skip (blkN (thenN (wp_region_lit (bar (r:=((c + 1:Nat):Int)) rfl rfl (inc_ok (le_big (((ms aj ab)).len) (by decide) (drop_cons_lt f))) (m1 (iI ((c + 1:Nat):Int)) (wt (⟨_,Nat.lt_succ_self _,_,an,e,c + 1,aQ,aR,aS,rfl,fR,(ab.trans ao.sub),(ap.sel [0]),drop_cons_next f,h⟩))))))))
theorem f56_b_ok (k:Nat) (F:Fam45) (IH45:f45_spec F.f45) (IH56:f56_spec F.f56) (IH66:f66_spec F.f66):f56_spec (f56_b k F):=by
 unfold f56_spec
 intro K wi g bs aB aE aF dH fF l fG fH fI fJ h hG dI dJ
 obtain ⟨r_,hr_,h⟩:=rz h
 obtain ⟨d,m,V,e,U,ah,u,p,B,C,c⟩:=dH
 obtain ⟨W,X,Y,Z,ad,ae,af,ag,x,y,rfl,b5,bD,b6,b7,b8,b9,bU⟩:=RDStmt.open dI
 refine enter Tryd.func56 rfl (n:=192) rfl ?_
 unfold f56_b at h
 refine sr (bxoC (cs:=(vS d m V e U ah W u X Y p Z ad B ae af C ag x c y).toArray) dJ rfl rfl (fun c4 dK=>(m2 vN (wt (wp_cut (fun a w=>∃ c5 bV bE ab s ba bb a8 bI,a=fr 192 (updL c5 [(0,pp g 0),(2,iI l),(4,pp (zz wi) 0),(7,pp bE 0),(8,.bool bI)])∧KH.sub K bV∧SR K bV wi w [.box bs g #[iI aB,iI aE,.bool aF] 77] [.box bs g #[iI aB,iI aE,.bool aF] 77,.box (zz wi) (zz wi) (vS d m V e U ah W u X Y p Z ad B ae af C ag x c y).toArray 47,.box (zz wi) bE #[iI ab,.bool s,iI ba,iI bb,.bool a8] 110]∧f56_j1 k F aB aE aF d m V e U ah u p B C c l ab s ba bb a8 bI=some r_) ?_ ?_)))))
 ·have bJ:=dK.drew
  refine regAny (E:=[3,8]) (F:=FW K [.box (zz wi) (zz wi) (vS d m V e U ah W u X Y p Z ad B ae af C ag x c y).toArray 47,.box bs g #[iI aB,iI aE,.bool aF] 77]) (L:=(lb 10 0)) ymx rfl rfl (tk 1 (pp (zz wi) 0) (lb 10 2) rfl (fun w=>fld_r (o':=0) Tyf47_0 rfl rfl) (heldF (fq [0,1] bJ)) (tf 2 (iI d) ([[3,2],[8,2]]) (lb 10 6) rfl (fq [0,1] bJ) (fun w hF=>lb1_r (i:=0) (v:=iI d) hF rfl Tya3 rfl rfl) (anyAll (rs:=[0,7]) (by kernel_rfl) (by decide) (allC ?_ (allC ?_ allN)))))
  ·refine opL (i:=0) rfl ?_
   obtain ⟨a9,dL,h⟩:=ob h
   refine cv ([]) Tyb64 ((f64_ok k) dL (hG.mono kr) (pt bJ)) ?_
   rintro _ cb ⟨bu,fK,fL,fM,rfl,bF,cc⟩
   have dM:=ca bF bJ
   have bK:=dM.lowerm_ (i:=0) rfl bJ.size
   refine wt ⟨heldF (fwOf (is:=[1,2]) bK bF.sub rfl),anyAll (rs:=[3,7]) (by kernel_rfl) (by decide) (allC ?_ (allC ?_ allN))⟩
   ·refine opL (i:=3) rfl ?_
    rcases bG:mget qI d a9 with _ | ⟨D,G,I,J,N⟩
    ·have h:=of_mcase_n bG h
     exact lkN (kv:=kI) (q:=qI) (R:=(VAgg (RDshape bu))) (xs:=a9) (k:=d) (bK.entAt (i:=0) rfl).1 Tym112 (und_i64 Tyk3) keI Tyz110 cc rfl rfl bG (wt ⟨heldE (i:=3) rfl rfl,tk 4 (.tuple #[.agg #[iI 0,vN,iI 0,iI 0,vN],vN]) (lb 10 31) rfl (fun w=>mv_r (v:=.tuple #[.agg #[iI 0,vN,iI 0,iI 0,vN],vN]) rfl) (heldE (i:=3) rfl rfl) (tk 5 (.agg #[iI 0,vN,iI 0,iI 0,vN]) (lb 10 63) rfl (fun w=>ext_r (v:=.agg #[iI 0,vN,iI 0,iI 0,vN]) rfl rfl) (heldE (i:=3) rfl rfl) (tk 6 vN (lb 10 127) rfl (fun w=>ext_r (v:=vN) rfl rfl) (heldE (i:=3) rfl rfl) (aO 7 rfl (aC #[iI 0,vN,iI 0,iI 0,vN] bK Tyz110 (fun fN dN=>(wt ⟨heldE (i:=3) rfl rfl,aO 8 rfl (sI 0 (.agg #[iI 0,vN,iI 0,iI 0,vN]) #[iI 0,vN,iI 0,iI 0,vN] dN Tys110 rfl rfl (fun c7 bW=>(wt ⟨heldE (i:=8) rfl rfl,tk 9 vN (lb 10 1023) rfl (fun w=>asg_r (v:=vN) rfl) (heldE (i:=3) rfl rfl) (aD (thenN (⟨_,bu,(zz cb),0,false,0,0,false,false,fR,bF.sub,(bW.sel [3,2,0]),h⟩)))⟩)))⟩))))))⟩)
    ·have h:=of_mcase_s bG h
     refine lkS (kv:=kI) (q:=qI) (R:=(VAgg (RDshape bu))) (xs:=a9) (k:=d) (bK.entAt (i:=0) rfl).1 Tym112 (und_i64 Tyk3) keI cc rfl rfl bG (fun fO dO=>?_)
     obtain ⟨c8,rfl,bX⟩:=dO
     obtain rfl:=RDshape.open bX
     exact wt ⟨heldE (i:=3) rfl rfl,tk 4 (.tuple #[.agg #[iI D,.bool G,iI I,iI J,.bool N],vT]) (lb 10 31) rfl (fun w=>mv_r (v:=.tuple #[.agg #[iI D,.bool G,iI I,iI J,.bool N],vT]) rfl) (heldE (i:=3) rfl rfl) (tk 5 (.agg #[iI D,.bool G,iI I,iI J,.bool N]) (lb 10 63) rfl (fun w=>ext_r (v:=.agg #[iI D,.bool G,iI I,iI J,.bool N]) rfl rfl) (heldE (i:=3) rfl rfl) (tk 6 vT (lb 10 127) rfl (fun w=>ext_r (v:=vT) rfl rfl) (heldE (i:=3) rfl rfl) (aO 7 rfl (aC #[iI 0,vN,iI 0,iI 0,vN] bK Tyz110 (fun da bY=>(wt ⟨heldE (i:=3) rfl rfl,aO 8 rfl (sI 0 (.agg #[iI D,.bool G,iI I,iI J,.bool N]) #[iI D,.bool G,iI I,iI J,.bool N] bY Tys110 rfl rfl (fun fP dP=>(wt ⟨heldE (i:=8) rfl rfl,tk 9 vT (lb 10 1023) rfl (fun w=>asg_r (v:=vT) rfl) (heldE (i:=3) rfl rfl) (aD (thenN (⟨_,bu,(zz cb),D,G,I,J,N,true,fR,bF.sub,(dP.sel [3,2,0]),h⟩)))⟩)))⟩))))))⟩
   ·refine opL (i:=7) rfl (aC #[iI 0,vN,iI 0,iI 0,vN] bK Tyz110 (fun fQ bZ=>(wt ⟨heldF (fwOf (is:=[2,3]) bZ bF.sub rfl),aO 3 rfl ?_⟩)))
    rcases bd:mget qI d a9 with _ | ⟨D,G,I,J,N⟩
    ·have h:=of_mcase_n bd h
     exact lkN (kv:=kI) (q:=qI) (R:=(VAgg (RDshape bu))) (xs:=a9) (k:=d) (bZ.entAt (i:=1) rfl).1 Tym112 (und_i64 Tyk3) keI Tyz110 cc rfl rfl bd (wt ⟨heldE (i:=3) rfl rfl,tk 4 (.tuple #[.agg #[iI 0,vN,iI 0,iI 0,vN],vN]) (lb 10 159) rfl (fun w=>mv_r (v:=.tuple #[.agg #[iI 0,vN,iI 0,iI 0,vN],vN]) rfl) (heldE (i:=3) rfl rfl) (tk 5 (.agg #[iI 0,vN,iI 0,iI 0,vN]) (lb 10 191) rfl (fun w=>ext_r (v:=.agg #[iI 0,vN,iI 0,iI 0,vN]) rfl rfl) (heldE (i:=3) rfl rfl) (tk 6 vN (lb 10 255) rfl (fun w=>ext_r (v:=vN) rfl rfl) (heldE (i:=3) rfl rfl) (aO 8 rfl (sI 0 (.agg #[iI 0,vN,iI 0,iI 0,vN]) #[iI 0,vN,iI 0,iI 0,vN] bZ Tys110 rfl rfl (fun c7 bW=>(wt ⟨heldE (i:=8) rfl rfl,tk 9 vN (lb 10 1023) rfl (fun w=>asg_r (v:=vN) rfl) (heldE (i:=3) rfl rfl) (aD (thenN (⟨_,bu,(zz cb),0,false,0,0,false,false,fR,bF.sub,(bW.sel [3,2,0]),h⟩)))⟩))))))⟩)
    ·have h:=of_mcase_s bd h
     refine lkS (kv:=kI) (q:=qI) (R:=(VAgg (RDshape bu))) (xs:=a9) (k:=d) (bZ.entAt (i:=1) rfl).1 Tym112 (und_i64 Tyk3) keI cc rfl rfl bd (fun dQ cB=>?_)
     obtain ⟨c8,rfl,bX⟩:=cB
     obtain rfl:=RDshape.open bX
     exact wt ⟨heldE (i:=3) rfl rfl,tk 4 (.tuple #[.agg #[iI D,.bool G,iI I,iI J,.bool N],vT]) (lb 10 159) rfl (fun w=>mv_r (v:=.tuple #[.agg #[iI D,.bool G,iI I,iI J,.bool N],vT]) rfl) (heldE (i:=3) rfl rfl) (tk 5 (.agg #[iI D,.bool G,iI I,iI J,.bool N]) (lb 10 191) rfl (fun w=>ext_r (v:=.agg #[iI D,.bool G,iI I,iI J,.bool N]) rfl rfl) (heldE (i:=3) rfl rfl) (tk 6 vT (lb 10 255) rfl (fun w=>ext_r (v:=vT) rfl rfl) (heldE (i:=3) rfl rfl) (aO 8 rfl (sI 0 (.agg #[iI D,.bool G,iI I,iI J,.bool N]) #[iI D,.bool G,iI I,iI J,.bool N] bZ Tys110 rfl rfl (fun da bY=>(wt ⟨heldE (i:=8) rfl rfl,tk 9 vT (lb 10 1023) rfl (fun w=>asg_r (v:=vT) rfl) (heldE (i:=3) rfl rfl) (aD (thenN (⟨_,bu,(zz cb),D,G,I,J,N,true,fR,bF.sub,(bY.sel [3,2,0]),h⟩)))⟩))))))⟩
  ·refine opL (i:=7) rfl (aC #[iI 0,vN,iI 0,iI 0,vN] bJ Tyz110 (fun fS ce=>(wt ⟨heldF (fq [1,2] ce),aO 0 rfl ?_⟩)))
   obtain ⟨a9,dR,h⟩:=ob h
   refine cv ([]) Tyb64 ((f64_ok k) dR (hG.mono kr) (pt ce)) ?_
   rintro _ fT ⟨cf,fU,fV,fW,rfl,ch,bG⟩
   have dS:=ca ch ce
   have b0:=dS.lowerm_ (i:=0) rfl ce.size
   refine wt ⟨heldF (fwOf (is:=[2,3]) b0 ch.sub rfl),aO 3 rfl ?_⟩
   rcases bd:mget qI d a9 with _ | ⟨D,G,I,J,N⟩
   ·have h:=of_mcase_n bd h
    exact lkN (kv:=kI) (q:=qI) (R:=(VAgg (RDshape cf))) (xs:=a9) (k:=d) (b0.entAt (i:=0) rfl).1 Tym112 (und_i64 Tyk3) keI Tyz110 bG rfl rfl bd (wt ⟨heldE (i:=3) rfl rfl,tk 4 (.tuple #[.agg #[iI 0,vN,iI 0,iI 0,vN],vN]) (lb 10 159) rfl (fun w=>mv_r (v:=.tuple #[.agg #[iI 0,vN,iI 0,iI 0,vN],vN]) rfl) (heldE (i:=3) rfl rfl) (tk 5 (.agg #[iI 0,vN,iI 0,iI 0,vN]) (lb 10 191) rfl (fun w=>ext_r (v:=.agg #[iI 0,vN,iI 0,iI 0,vN]) rfl rfl) (heldE (i:=3) rfl rfl) (tk 6 vN (lb 10 255) rfl (fun w=>ext_r (v:=vN) rfl rfl) (heldE (i:=3) rfl rfl) (aO 8 rfl (sI 1 (.agg #[iI 0,vN,iI 0,iI 0,vN]) #[iI 0,vN,iI 0,iI 0,vN] b0 Tys110 rfl rfl (fun c7 bW=>(wt ⟨heldE (i:=8) rfl rfl,tk 9 vN (lb 10 1023) rfl (fun w=>asg_r (v:=vN) rfl) (heldE (i:=3) rfl rfl) (aD (thenN (⟨_,cf,(zz c4.drew),0,false,0,0,false,false,fR,ch.sub,(bW.sel [3,2,1]),h⟩)))⟩))))))⟩)
   ·have h:=of_mcase_s bd h
    refine lkS (kv:=kI) (q:=qI) (R:=(VAgg (RDshape cf))) (xs:=a9) (k:=d) (b0.entAt (i:=0) rfl).1 Tym112 (und_i64 Tyk3) keI bG rfl rfl bd (fun dQ cB=>?_)
    obtain ⟨c8,rfl,bX⟩:=cB
    obtain rfl:=RDshape.open bX
    exact wt ⟨heldE (i:=3) rfl rfl,tk 4 (.tuple #[.agg #[iI D,.bool G,iI I,iI J,.bool N],vT]) (lb 10 159) rfl (fun w=>mv_r (v:=.tuple #[.agg #[iI D,.bool G,iI I,iI J,.bool N],vT]) rfl) (heldE (i:=3) rfl rfl) (tk 5 (.agg #[iI D,.bool G,iI I,iI J,.bool N]) (lb 10 191) rfl (fun w=>ext_r (v:=.agg #[iI D,.bool G,iI I,iI J,.bool N]) rfl rfl) (heldE (i:=3) rfl rfl) (tk 6 vT (lb 10 255) rfl (fun w=>ext_r (v:=vT) rfl rfl) (heldE (i:=3) rfl rfl) (aO 8 rfl (sI 1 (.agg #[iI D,.bool G,iI I,iI J,.bool N]) #[iI D,.bool G,iI I,iI J,.bool N] b0 Tys110 rfl rfl (fun da bY=>(wt ⟨heldE (i:=8) rfl rfl,tk 9 vT (lb 10 1023) rfl (fun w=>asg_r (v:=vT) rfl) (heldE (i:=3) rfl rfl) (aD (thenN (⟨_,cf,(zz c4.drew),D,G,I,J,N,true,fR,ch.sub,(bY.sel [3,2,1]),h⟩)))⟩))))))⟩
 ·rintro _ fX ⟨c5,bV,bE,ab,s,ba,bb,a8,bI,rfl,f,cC,h⟩
  unfold f56_j1 at h
  refine wp_seq (wp_cut (fun a w=>∃ db aU bv bw bx cD,a=fr 192 (updL db [(0,pp g 0),(2,iI l),(4,pp (zz wi) 0),(7,pp bE 0),(48,.bool cD)])∧KH.sub bV aU∧SR K aU wi w [.box bs g #[iI aB,iI aE,.bool aF] 77] [.box bs g #[iI bv,iI bw,.bool bx] 77,.box (zz wi) (zz wi) (vS d m V e U ah W u X Y p Z ad B ae af C ag x c y).toArray 47,.box (zz wi) bE #[iI ab,.bool s,iI ba,iI bb,.bool a8] 110]∧f56_j2 k F d m e u p B C c l ab s ba bb a8 bv bw bx cD=some r_) ?_ ?_)
  ·refine wp_region_lit (m1 (.bool bI) (uN bI (m1 (.bool (!bI)) (cd h (fun aV h=>?_) (fun aV h=>?_)))))
   ·exact o1 21 aV (o1 21 aV (o1 21 aV (o1 21 aV (m3 true vT (cg aV) (m1 vT (o0 27 (o0 27 (o0 27 (o0 27 (ou 31 (ou 31 (ou 31 (o0 27 (o0 27 (ou 36 (ou 36 (ou 36 (ou 36 (ou 36 (o0 27 (m3 true vT rfl (m1 vT (o0 44 (o0 44 (o0 44 (m3 true vT rfl (wt (⟨_,bV,aB,aE,aF,true,fR,kr,cC,h⟩))))))))))))))))))))))))))))
   ·refine n1 21 aV (m1 (pp g 0) (n1 21 aV (m1 (iI l) (n1 21 aV ?_))))
    obtain ⟨⟨⟨bL,bM,ak⟩,cG⟩,dT,h⟩:=ob h
    refine cv ([pp g 0,iI l]) Tyb43 ((f43_ok k) dT (hG.mono f) (pt cC)) ?_
    rintro _ fY ⟨cH,rfl,z⟩
    have al:=ca z cC
    refine n1 21 aV (uN cG (m3 false (.bool (!cG)) (cg aV) (m1 (.bool (!cG)) (cd h (fun O h=>?_) (fun O h=>?_)))))
    ·exact o1 27 O (o1 27 O (o1 27 O (o1 27 O (ou 31 (ou 31 (ou 31 (o1 27 O (o1 27 O (ou 36 (ou 36 (ou 36 (ou 36 (ou 36 (o1 27 O (m3 true vT (cg O) (m1 vT (o0 44 (o0 44 (o0 44 (m3 true vT rfl (wt (⟨_,cH,bL,bM,ak,true,fR,z.sub,al,h⟩))))))))))))))))))))))
    ·refine n1 27 O (fd 2 Tyf47_2 rfl (n1 27 O (l1 1 (iI V) al Tya3 (n1 27 O (c0 (V != 0) (n1 27 O (m1 (.bool (V != 0)) (cd h (fun be h=>?_) (fun be h=>?_)))))))))
     ·refine o1 31 be (o1 31 be (o1 31 be (n1 27 O (m3 true vT (cg be) (n1 27 O (m1 vT (n0 36 (m1 (pp g 0) (n0 36 (nilc rfl (n0 36 (fd 2 Tyf77_2 rfl (n0 36 (l1 0 (.bool ak) al Tya4 (n0 36 (uN ak (n1 27 O (m3 true (.bool (!ak)) rfl (m3 false (.bool (!ak)) (cg O) (m1 (.bool (!ak)) (cd h (fun bf h=>?_) (fun bf h=>?_))))))))))))))))))))))
      ·exact o1 44 bf (o1 44 bf (o1 44 bf (m3 true vT (cg bf) (wt (⟨_,cH,bL,bM,ak,true,fR,z.sub,al,h⟩)))))
      ·refine n1 44 bf (lN 1 (vS d m V e U ah W u X Y p Z ad B ae af C ag x c y) al Tya47 Tys47 (n1 44 bf ?_))
       obtain ⟨cI,dU,h⟩:=ob h
       refine cv ([.agg (vS d m V e U ah W u X Y p Z ad B ae af C ag x c y).toArray]) Tyb65 ((f65_ok k) dU (hG.mono (f.trans z.sub)) (RDStmt.intro b5 bD (me b6 (f.trans z.sub)) (ms b7 (f.trans z.sub)) (ms b8 (f.trans z.sub)) (ms b9 (f.trans z.sub)) (mc bU (f.trans z.sub))) (pt al)) ?_
       rintro _ fZ ⟨dV,rfl,dc⟩
       have dW:=ca dc al
       exact n1 44 bf (uN cI (m3 false (.bool (!cI)) (cg bf) (wt (⟨_,dV,bL,bM,ak,(!cI),fR,(z.sub.trans dc.sub),dW,h⟩))))
     ·refine n1 31 be (fd 4 Tyf47_4 rfl (n1 31 be (l1 1 (iI U) al Tya3 (n1 31 be (c0 (U != 0) (n1 27 O (m3 false (.bool (U != 0)) (cg be) (n1 27 O (m1 (.bool (U != 0)) (cd h (fun aG h=>?_) (fun aG h=>?_)))))))))))
      ·refine n1 36 aG (m1 (pp g 0) (n1 36 aG (nilc rfl (n1 36 aG (fd 2 Tyf77_2 rfl (n1 36 aG (l1 0 (.bool ak) al Tya4 (n1 36 aG (uN ak (n1 27 O (m3 true (.bool (!ak)) (cg aG) (m3 false (.bool (!ak)) (cg O) (m1 (.bool (!ak)) (cd h (fun bg h=>?_) (fun bg h=>?_)))))))))))))))
       ·exact o1 44 bg (o1 44 bg (o1 44 bg (m3 true vT (cg bg) (wt (⟨_,cH,bL,bM,ak,true,fR,z.sub,al,h⟩)))))
       ·refine n1 44 bg (lN 1 (vS d m V e U ah W u X Y p Z ad B ae af C ag x c y) al Tya47 Tys47 (n1 44 bg ?_))
        obtain ⟨cJ,dX,h⟩:=ob h
        refine cv ([.agg (vS d m V e U ah W u X Y p Z ad B ae af C ag x c y).toArray]) Tyb65 ((f65_ok k) dX (hG.mono (f.trans z.sub)) (RDStmt.intro b5 bD (me b6 (f.trans z.sub)) (ms b7 (f.trans z.sub)) (ms b8 (f.trans z.sub)) (ms b9 (f.trans z.sub)) (mc bU (f.trans z.sub))) (pt al)) ?_
        rintro _ f0 ⟨dY,rfl,dd⟩
        have dZ:=ca dd al
        exact n1 44 bg (uN cJ (m3 false (.bool (!cJ)) (cg bg) (wt (⟨_,dY,bL,bM,ak,(!cJ),fR,(z.sub.trans dd.sub),dZ,h⟩))))
      ·refine o1 36 aG (o1 36 aG (o1 36 aG (o1 36 aG (o1 36 aG (n1 27 O (m3 false vN (cg aG) (m3 false vN (cg O) (m1 vN (n0 44 (lN 1 (vS d m V e U ah W u X Y p Z ad B ae af C ag x c y) al Tya47 Tys47 (n0 44 ?_)))))))))))
       obtain ⟨cK,d0,h⟩:=ob h
       refine cv ([.agg (vS d m V e U ah W u X Y p Z ad B ae af C ag x c y).toArray]) Tyb65 ((f65_ok k) d0 (hG.mono (f.trans z.sub)) (RDStmt.intro b5 bD (me b6 (f.trans z.sub)) (ms b7 (f.trans z.sub)) (ms b8 (f.trans z.sub)) (ms b9 (f.trans z.sub)) (mc bU (f.trans z.sub))) (pt al)) ?_
       rintro _ f1 ⟨d1,rfl,de⟩
       have d2:=ca de al
       exact n0 44 (uN cK (m3 false (.bool (!cK)) rfl (wt (⟨_,d1,bL,bM,ak,(!cK),fR,(z.sub.trans de.sub),d2,h⟩))))
  ·rintro _ f2 ⟨db,aU,bv,bw,bx,cD,rfl,S,A,h⟩
   unfold f56_j2 at h
   refine cd h (fun cL h=>?_) (fun cL h=>?_)
   ·refine cT cL (sr (m2 vN (wt (wp_ret (thenR ?_)))))
    have e_:=(Option.some.inj h).trans hr_
    obtain ⟨d3,d4⟩:=Prod.mk.inj e_
    obtain ⟨d5,d6,d7⟩:=Dcounter.mk.inj d3
    subst d5
    subst d6
    subst d7
    subst d4
    exact retA1 rfl (resT rfl) ⟨aU,rfl,(A.sel [0])⟩
   ·refine cF cL (wp_skip (thenN (sr (fd 1 Tyf47_1 rfl (l1 1 (.string m) A Tya9 (bsc (r:=(!seq m ⟨#[]⟩)) rfl rfl rfl (m2 (.bool (!seq m ⟨#[]⟩)) (wt (wp_seq (wp_cut (fun a w=>∃ df b1 cM,a=fr 192 (updL df [(0,pp g 0),(2,iI l),(4,pp (zz wi) 0),(7,pp bE 0),(90,.bool cM)])∧KH.sub aU b1∧SR K b1 wi w [.box bs g #[iI aB,iI aE,.bool aF] 77] [.box bs g #[iI bv,iI bw,.bool bx] 77,.box (zz wi) (zz wi) (vS d m V e U ah W u X Y p Z ad B ae af C ag x c y).toArray 47,.box (zz wi) bE #[iI ab,.bool s,iI ba,iI bb,.bool a8] 110]∧f56_j3 k F d u p B C c l ba bb a8 bv bw bx cM=some r_) ?_ ?_))))))))))
    ·refine wp_region_lit (m1 (.bool (!seq m ⟨#[]⟩)) (m1 (.bool (!seq m ⟨#[]⟩)) (cd h (fun an h=>?_) (fun an h=>?_))))
     ·refine n1 53 an (fd 0 Tyf110_0 rfl (n1 53 an (l1 2 (iI ab) A Tya3 (n1 53 an (c0 (ab == 0) (n1 53 an (m1 (.bool (ab == 0)) (cd h (fun aW h=>?_) (fun aW h=>?_)))))))))
      ·exact o1 57 aW (o1 57 aW (o1 57 aW (o1 57 aW (n1 53 an (m3 true vT (cg aW) (m3 true vT (cg an) (m1 vT (o0 64 (o0 64 (o0 64 (ou 67 (ou 67 (ou 67 (o0 64 (m3 true vT rfl (m1 vT (o0 73 (o0 73 (o0 73 (o0 73 (o0 73 (o0 73 (m3 true vT rfl (m1 vT (o0 81 (o0 81 (o0 81 (ou 84 (ou 84 (ou 84 (ou 84 (o0 81 (m3 true vT rfl (wt (⟨_,aU,true,fR,kr,A,h⟩)))))))))))))))))))))))))))))))))))
      ·refine n1 57 aW (fd 1 Tyf47_1 rfl (n1 57 aW (l1 1 (.string m) A Tya9 (n1 57 aW ?_))))
       obtain ⟨ci,d8,h⟩:=ob h
       refine cv ([.string m]) Tyb44 ((f44_ok k) d8 (hG.mono (f.trans S)) b5 (pt A)) ?_
       rintro _ f3 ⟨bN,rfl,aX⟩
       have ac:=ca aX A
       refine n1 57 aW (uN ci (n1 53 an (m3 false (.bool (!ci)) (cg aW) (m3 true (.bool (!ci)) (cg an) (m1 (.bool (!ci)) (cd h (fun aH h=>?_) (fun aH h=>?_)))))))
       ·exact o1 64 aH (o1 64 aH (o1 64 aH (ou 67 (ou 67 (ou 67 (o1 64 aH (m3 true vT (cg aH) (m1 vT (o0 73 (o0 73 (o0 73 (o0 73 (o0 73 (o0 73 (m3 true vT rfl (m1 vT (o0 81 (o0 81 (o0 81 (ou 84 (ou 84 (ou 84 (ou 84 (o0 81 (m3 true vT rfl (wt (⟨_,bN,true,fR,aX.sub,ac,h⟩)))))))))))))))))))))))))))
       ·refine n1 64 aH (m1 (.bool (!seq m ⟨#[]⟩)) (n1 64 aH (uN (!seq m ⟨#[]⟩) (n1 64 aH (m1 (.bool (!(!seq m ⟨#[]⟩))) (cd h (fun bh h=>?_) (fun bh h=>?_)))))))
        ·refine n1 67 bh (fd 0 Tyf110_0 rfl (n1 67 bh (l1 2 (iI ab) ac Tya3 (n1 67 bh (c0 (ab == 1) (n1 64 aH (m3 true (.bool (ab == 1)) (cg bh) (m3 false (.bool (ab == 1)) (cg aH) (m1 (.bool (ab == 1)) (cd h (fun ao h=>?_) (fun ao h=>?_)))))))))))
         ·exact o1 73 ao (o1 73 ao (o1 73 ao (o1 73 ao (o1 73 ao (o1 73 ao (m3 true vT (cg ao) (m1 vT (o0 81 (o0 81 (o0 81 (ou 84 (ou 84 (ou 84 (ou 84 (o0 81 (m3 true vT rfl (wt (⟨_,bN,true,fR,aX.sub,ac,h⟩))))))))))))))))))
         ·refine n1 73 ao (fd 3 Tyf47_3 rfl (n1 73 ao (l1 1 (.string e) ac Tya9 (n1 73 ao (bsc (r:=(!seq e ⟨#[]⟩)) rfl rfl rfl (n1 73 ao (fd 1 Tyf110_1 rfl (n1 73 ao (l1 2 (.bool s) ac Tya4 (n1 73 ao (bbo (r:=(!((!seq e ⟨#[]⟩) == s))) Tyo4 rfl rfl rfl (m3 false (.bool (!((!seq e ⟨#[]⟩) == s))) (cg ao) (m1 (.bool (!((!seq e ⟨#[]⟩) == s))) (cd h (fun aI h=>?_) (fun aI h=>?_)))))))))))))))
          ·exact o1 81 aI (o1 81 aI (o1 81 aI (ou 84 (ou 84 (ou 84 (ou 84 (o1 81 aI (m3 true vT (cg aI) (wt (⟨_,bN,true,fR,aX.sub,ac,h⟩))))))))))
          ·refine n1 81 aI (fd 1 Tyf110_1 rfl (n1 81 aI (l1 2 (.bool s) ac Tya4 (n1 81 aI (m1 (.bool s) (cd h (fun aY h=>?_) (fun aY h=>?_)))))))
           ·refine n1 84 aY (fd 3 Tyf47_3 rfl (n1 84 aY (l1 1 (.string e) ac Tya9 (n1 84 aY ?_))))
            obtain ⟨cj,d9,h⟩:=ob h
            refine cv ([.string e]) Tyb44 ((f44_ok k) d9 (hG.mono ((f.trans S).trans aX.sub)) bD (pt ac)) ?_
            rintro _ f8 ⟨ea,rfl,dg⟩
            have ec:=ca dg ac
            exact n1 84 aY (uN cj (n1 81 aI (m3 true (.bool (!cj)) (cg aY) (m3 false (.bool (!cj)) (cg aI) (wt (⟨_,ea,(!cj),fR,(aX.sub.trans dg.sub),ec,h⟩))))))
           ·exact o1 84 aY (o1 84 aY (o1 84 aY (o1 84 aY (n1 81 aI (m3 false vN (cg aY) (m3 false vN (cg aI) (wt (⟨_,bN,false,fR,aX.sub,ac,h⟩))))))))
        ·refine o1 67 bh (o1 67 bh (o1 67 bh (n1 64 aH (m3 false vN (cg bh) (m3 false vN (cg aH) (m1 vN (n0 73 (fd 3 Tyf47_3 rfl (n0 73 (l1 1 (.string e) ac Tya9 (n0 73 (bsc (r:=(!seq e ⟨#[]⟩)) rfl rfl rfl (n0 73 (fd 1 Tyf110_1 rfl (n0 73 (l1 2 (.bool s) ac Tya4 (n0 73 (bbo (r:=(!((!seq e ⟨#[]⟩) == s))) Tyo4 rfl rfl rfl (m3 false (.bool (!((!seq e ⟨#[]⟩) == s))) rfl (m1 (.bool (!((!seq e ⟨#[]⟩) == s))) (cd h (fun aJ h=>?_) (fun aJ h=>?_))))))))))))))))))))))
         ·exact o1 81 aJ (o1 81 aJ (o1 81 aJ (ou 84 (ou 84 (ou 84 (ou 84 (o1 81 aJ (m3 true vT (cg aJ) (wt (⟨_,bN,true,fR,aX.sub,ac,h⟩))))))))))
         ·refine n1 81 aJ (fd 1 Tyf110_1 rfl (n1 81 aJ (l1 2 (.bool s) ac Tya4 (n1 81 aJ (m1 (.bool s) (cd h (fun aZ h=>?_) (fun aZ h=>?_)))))))
          ·refine n1 84 aZ (fd 3 Tyf47_3 rfl (n1 84 aZ (l1 1 (.string e) ac Tya9 (n1 84 aZ ?_))))
           obtain ⟨ck,ed,h⟩:=ob h
           refine cv ([.string e]) Tyb44 ((f44_ok k) ed (hG.mono ((f.trans S).trans aX.sub)) bD (pt ac)) ?_
           rintro _ f9 ⟨ee,rfl,dh⟩
           have ef:=ca dh ac
           exact n1 84 aZ (uN ck (n1 81 aJ (m3 true (.bool (!ck)) (cg aZ) (m3 false (.bool (!ck)) (cg aJ) (wt (⟨_,ee,(!ck),fR,(aX.sub.trans dh.sub),ef,h⟩))))))
          ·exact o1 84 aZ (o1 84 aZ (o1 84 aZ (o1 84 aZ (n1 81 aJ (m3 false vN (cg aZ) (m3 false vN (cg aJ) (wt (⟨_,bN,false,fR,aX.sub,ac,h⟩))))))))
     ·refine o1 53 an (o1 53 an (o1 53 an (o1 53 an (ou 57 (ou 57 (ou 57 (ou 57 (o1 53 an (m3 false vN (cg an) (m1 vN (n0 64 (m1 (.bool (!seq m ⟨#[]⟩)) (n0 64 (uN (!seq m ⟨#[]⟩) (n0 64 (m1 (.bool (!(!seq m ⟨#[]⟩))) (cd h (fun bi h=>?_) (fun bi h=>?_))))))))))))))))))
      ·refine n1 67 bi (fd 0 Tyf110_0 rfl (n1 67 bi (l1 2 (iI ab) A Tya3 (n1 67 bi (c0 (ab == 1) (n0 64 (m3 true (.bool (ab == 1)) (cg bi) (m3 false (.bool (ab == 1)) rfl (m1 (.bool (ab == 1)) (cd h (fun ap h=>?_) (fun ap h=>?_)))))))))))
       ·exact o1 73 ap (o1 73 ap (o1 73 ap (o1 73 ap (o1 73 ap (o1 73 ap (m3 true vT (cg ap) (m1 vT (o0 81 (o0 81 (o0 81 (ou 84 (ou 84 (ou 84 (ou 84 (o0 81 (m3 true vT rfl (wt (⟨_,aU,true,fR,kr,A,h⟩))))))))))))))))))
       ·refine n1 73 ap (fd 3 Tyf47_3 rfl (n1 73 ap (l1 1 (.string e) A Tya9 (n1 73 ap (bsc (r:=(!seq e ⟨#[]⟩)) rfl rfl rfl (n1 73 ap (fd 1 Tyf110_1 rfl (n1 73 ap (l1 2 (.bool s) A Tya4 (n1 73 ap (bbo (r:=(!((!seq e ⟨#[]⟩) == s))) Tyo4 rfl rfl rfl (m3 false (.bool (!((!seq e ⟨#[]⟩) == s))) (cg ap) (m1 (.bool (!((!seq e ⟨#[]⟩) == s))) (cd h (fun aK h=>?_) (fun aK h=>?_)))))))))))))))
        ·exact o1 81 aK (o1 81 aK (o1 81 aK (ou 84 (ou 84 (ou 84 (ou 84 (o1 81 aK (m3 true vT (cg aK) (wt (⟨_,aU,true,fR,kr,A,h⟩))))))))))
        ·refine n1 81 aK (fd 1 Tyf110_1 rfl (n1 81 aK (l1 2 (.bool s) A Tya4 (n1 81 aK (m1 (.bool s) (cd h (fun a0 h=>?_) (fun a0 h=>?_)))))))
         ·refine n1 84 a0 (fd 3 Tyf47_3 rfl (n1 84 a0 (l1 1 (.string e) A Tya9 (n1 84 a0 ?_))))
          obtain ⟨cl,eg,h⟩:=ob h
          refine cv ([.string e]) Tyb44 ((f44_ok k) eg (hG.mono (f.trans S)) bD (pt A)) ?_
          rintro _ ga ⟨eh,rfl,di⟩
          have ei:=ca di A
          exact n1 84 a0 (uN cl (n1 81 aK (m3 true (.bool (!cl)) (cg a0) (m3 false (.bool (!cl)) (cg aK) (wt (⟨_,eh,(!cl),fR,di.sub,ei,h⟩))))))
         ·exact o1 84 a0 (o1 84 a0 (o1 84 a0 (o1 84 a0 (n1 81 aK (m3 false vN (cg a0) (m3 false vN (cg aK) (wt (⟨_,aU,false,fR,kr,A,h⟩))))))))
      ·refine o1 67 bi (o1 67 bi (o1 67 bi (n0 64 (m3 false vN (cg bi) (m3 false vN rfl (m1 vN (n0 73 (fd 3 Tyf47_3 rfl (n0 73 (l1 1 (.string e) A Tya9 (n0 73 (bsc (r:=(!seq e ⟨#[]⟩)) rfl rfl rfl (n0 73 (fd 1 Tyf110_1 rfl (n0 73 (l1 2 (.bool s) A Tya4 (n0 73 (bbo (r:=(!((!seq e ⟨#[]⟩) == s))) Tyo4 rfl rfl rfl (m3 false (.bool (!((!seq e ⟨#[]⟩) == s))) rfl (m1 (.bool (!((!seq e ⟨#[]⟩) == s))) (cd h (fun aL h=>?_) (fun aL h=>?_))))))))))))))))))))))
       ·exact o1 81 aL (o1 81 aL (o1 81 aL (ou 84 (ou 84 (ou 84 (ou 84 (o1 81 aL (m3 true vT (cg aL) (wt (⟨_,aU,true,fR,kr,A,h⟩))))))))))
       ·refine n1 81 aL (fd 1 Tyf110_1 rfl (n1 81 aL (l1 2 (.bool s) A Tya4 (n1 81 aL (m1 (.bool s) (cd h (fun a3 h=>?_) (fun a3 h=>?_)))))))
        ·refine n1 84 a3 (fd 3 Tyf47_3 rfl (n1 84 a3 (l1 1 (.string e) A Tya9 (n1 84 a3 ?_))))
         obtain ⟨cm,ej,h⟩:=ob h
         refine cv ([.string e]) Tyb44 ((f44_ok k) ej (hG.mono (f.trans S)) bD (pt A)) ?_
         rintro _ gb ⟨ek,rfl,dj⟩
         have el:=ca dj A
         exact n1 84 a3 (uN cm (n1 81 aL (m3 true (.bool (!cm)) (cg a3) (m3 false (.bool (!cm)) (cg aL) (wt (⟨_,ek,(!cm),fR,dj.sub,el,h⟩))))))
        ·exact o1 84 a3 (o1 84 a3 (o1 84 a3 (o1 84 a3 (n1 81 aL (m3 false vN (cg a3) (m3 false vN (cg aL) (wt (⟨_,aU,false,fR,kr,A,h⟩))))))))
    ·rintro _ gc ⟨df,b1,cM,rfl,ai,bO,h⟩
     unfold f56_j3 at h
     refine cd h (fun cN h=>?_) (fun cN h=>?_)
     ·refine cT cN (sr (m2 vN (wt (wp_ret (thenR ?_)))))
      have e_:=(Option.some.inj h).trans hr_
      obtain ⟨em,en⟩:=Prod.mk.inj e_
      obtain ⟨eo,ep,eq⟩:=Dcounter.mk.inj em
      subst eo
      subst ep
      subst eq
      subst en
      exact retA1 rfl (resT rfl) ⟨b1,rfl,(bO.sel [0])⟩
     ·refine cF cN (wp_skip (thenN (wp_seq (wp_cut (fun a w=>∃ dk bP cO,a=fr 192 (updL dk [(0,pp g 0),(2,iI l),(4,pp (zz wi) 0),(133,.bool cO)])∧KH.sub b1 bP∧SR K bP wi w [.box bs g #[iI aB,iI aE,.bool aF] 77] [.box bs g #[iI bv,iI bw,.bool bx] 77,.box (zz wi) (zz wi) (vS d m V e U ah W u X Y p Z ad B ae af C ag x c y).toArray 47]∧f56_j4 k F u p B C c l bv bw bx cO=some r_) ?_ ?_))))
      ·refine wp_region_lit (fd 6 Tyf47_6 rfl (l1 1 (sl W u X) bO Tya44 (lS u.length Tye44 (fd 2 Tyf110_2 rfl (l1 2 (iI ba) bO Tya3 (fd 3 Tyf110_3 rfl (l1 2 (iI bb) bO Tya3 ?_)))))))
       obtain ⟨dl,es,h⟩:=ob h
       refine cv ([iI (u.length:Int),iI ba,iI bb]) Tyb42 ((f42_ok k) es (hG.mono ((f.trans S).trans ai)) (pt bO)) ?_
       rintro _ gd ⟨bz,rfl,aj⟩
       have t:=ca aj bO
       refine uN dl (m1 (.bool (!dl)) (cd h (fun aq h=>?_) (fun aq h=>?_)))
       ·exact o1 100 aq (o1 100 aq (o1 100 aq (o1 100 aq (ou 104 (ou 104 (ou 104 (ou 104 (o1 100 aq (m3 true vT (cg aq) (m1 vT (o0 111 (o0 111 (o0 111 (o0 111 (ou 115 (ou 115 (ou 115 (ou 115 (o0 111 (m3 true vT rfl (m1 vT (o0 122 (o0 122 (o0 122 (o0 122 (ou 126 (ou 126 (ou 126 (ou 126 (ou 126 (o0 122 (m3 true vT rfl (wt (⟨_,bz,true,fR,aj.sub,(t.sel [0,1]),h⟩))))))))))))))))))))))))))))))))))
       ·refine n1 100 aq (fd 4 Tyf110_4 rfl (n1 100 aq (l1 2 (.bool a8) t Tya4 (n1 100 aq (uN a8 (n1 100 aq (m1 (.bool (!a8)) (cd h (fun a4 h=>?_) (fun a4 h=>?_)))))))))
        ·refine n1 104 a4 (fd 7 Tyf47_7 rfl (n1 104 a4 (l1 1 (sl Y p Z) t Tya32 (n1 104 a4 (lS p.length Tye32 (n1 104 a4 (c0 (decide ((p.length:Int) > 0)) (n1 100 aq (m3 true (.bool (decide ((p.length:Int) > 0))) (cg a4) (m3 false (.bool (decide ((p.length:Int) > 0))) (cg aq) (m1 (.bool (decide ((p.length:Int) > 0))) (cd h (fun ar h=>?_) (fun ar h=>?_)))))))))))))
         ·exact o1 111 ar (o1 111 ar (o1 111 ar (o1 111 ar (ou 115 (ou 115 (ou 115 (ou 115 (o1 111 ar (m3 true vT (cg ar) (m1 vT (o0 122 (o0 122 (o0 122 (o0 122 (ou 126 (ou 126 (ou 126 (ou 126 (ou 126 (o0 122 (m3 true vT rfl (wt (⟨_,bz,true,fR,aj.sub,(t.sel [0,1]),h⟩)))))))))))))))))))))))
         ·refine n1 111 ar (fd 0 Tyf47_0 rfl (n1 111 ar (l1 1 (iI d) t Tya3 (n1 111 ar (c0 (d != 27) (n1 111 ar (m1 (.bool (d != 27)) (cd h (fun a5 h=>?_) (fun a5 h=>?_)))))))))
          ·refine n1 115 a5 (fd 10 Tyf47_10 rfl (n1 115 a5 (l1 1 (sl x c y) t Tya45 (n1 115 a5 (lS c.length Tye45 (n1 115 a5 (c0 (decide ((c.length:Int) > 0)) (n1 111 ar (m3 true (.bool (decide ((c.length:Int) > 0))) (cg a5) (m3 false (.bool (decide ((c.length:Int) > 0))) (cg ar) (m1 (.bool (decide ((c.length:Int) > 0))) (cd h (fun au h=>?_) (fun au h=>?_)))))))))))))
           ·exact o1 122 au (o1 122 au (o1 122 au (o1 122 au (ou 126 (ou 126 (ou 126 (ou 126 (ou 126 (o1 122 au (m3 true vT (cg au) (wt (⟨_,bz,true,fR,aj.sub,(t.sel [0,1]),h⟩))))))))))))
           ·refine n1 122 au (fd 0 Tyf47_0 rfl (n1 122 au (l1 1 (iI d) t Tya3 (n1 122 au (c0 (d == 27) (n1 122 au (m1 (.bool (d == 27)) (cd h (fun aM h=>?_) (fun aM h=>?_)))))))))
            ·refine n1 126 aM (fd 10 Tyf47_10 rfl (n1 126 aM (l1 1 (sl x c y) t Tya45 (n1 126 aM (lS c.length Tye45 (n1 126 aM ?_))))))
             obtain ⟨cn,et,h⟩:=ob h
             refine cv ([iI (c.length:Int),iI 1,iI 4]) Tyb42 ((f42_ok k) et (hG.mono (((f.trans S).trans ai).trans aj.sub)) (pt t)) ?_
             rintro _ ge ⟨eu,rfl,dm⟩
             have ew:=ca dm t
             exact n1 126 aM (uN cn (n1 122 au (m3 true (.bool (!cn)) (cg aM) (m3 false (.bool (!cn)) (cg au) (wt (⟨_,eu,(!cn),fR,(aj.sub.trans dm.sub),(ew.sel [0,1]),h⟩))))))
            ·exact o1 126 aM (o1 126 aM (o1 126 aM (o1 126 aM (o1 126 aM (n1 122 au (m3 false vN (cg aM) (m3 false vN (cg au) (wt (⟨_,bz,false,fR,aj.sub,(t.sel [0,1]),h⟩)))))))))
          ·refine o1 115 a5 (o1 115 a5 (o1 115 a5 (o1 115 a5 (n1 111 ar (m3 false vN (cg a5) (m3 false vN (cg ar) (m1 vN (n0 122 (fd 0 Tyf47_0 rfl (n0 122 (l1 1 (iI d) t Tya3 (n0 122 (c0 (d == 27) (n0 122 (m1 (.bool (d == 27)) (cd h (fun aN h=>?_) (fun aN h=>?_)))))))))))))))))
           ·refine n1 126 aN (fd 10 Tyf47_10 rfl (n1 126 aN (l1 1 (sl x c y) t Tya45 (n1 126 aN (lS c.length Tye45 (n1 126 aN ?_))))))
            obtain ⟨co,ex,h⟩:=ob h
            refine cv ([iI (c.length:Int),iI 1,iI 4]) Tyb42 ((f42_ok k) ex (hG.mono (((f.trans S).trans ai).trans aj.sub)) (pt t)) ?_
            rintro _ gf ⟨ey,rfl,dn⟩
            have ez:=ca dn t
            exact n1 126 aN (uN co (n0 122 (m3 true (.bool (!co)) (cg aN) (m3 false (.bool (!co)) rfl (wt (⟨_,ey,(!co),fR,(aj.sub.trans dn.sub),(ez.sel [0,1]),h⟩))))))
           ·exact o1 126 aN (o1 126 aN (o1 126 aN (o1 126 aN (o1 126 aN (n0 122 (m3 false vN (cg aN) (m3 false vN rfl (wt (⟨_,bz,false,fR,aj.sub,(t.sel [0,1]),h⟩)))))))))
        ·refine o1 104 a4 (o1 104 a4 (o1 104 a4 (o1 104 a4 (n1 100 aq (m3 false vN (cg a4) (m3 false vN (cg aq) (m1 vN (n0 111 (fd 0 Tyf47_0 rfl (n0 111 (l1 1 (iI d) t Tya3 (n0 111 (c0 (d != 27) (n0 111 (m1 (.bool (d != 27)) (cd h (fun a6 h=>?_) (fun a6 h=>?_)))))))))))))))))
         ·refine n1 115 a6 (fd 10 Tyf47_10 rfl (n1 115 a6 (l1 1 (sl x c y) t Tya45 (n1 115 a6 (lS c.length Tye45 (n1 115 a6 (c0 (decide ((c.length:Int) > 0)) (n0 111 (m3 true (.bool (decide ((c.length:Int) > 0))) (cg a6) (m3 false (.bool (decide ((c.length:Int) > 0))) rfl (m1 (.bool (decide ((c.length:Int) > 0))) (cd h (fun av h=>?_) (fun av h=>?_)))))))))))))
          ·exact o1 122 av (o1 122 av (o1 122 av (o1 122 av (ou 126 (ou 126 (ou 126 (ou 126 (ou 126 (o1 122 av (m3 true vT (cg av) (wt (⟨_,bz,true,fR,aj.sub,(t.sel [0,1]),h⟩))))))))))))
          ·refine n1 122 av (fd 0 Tyf47_0 rfl (n1 122 av (l1 1 (iI d) t Tya3 (n1 122 av (c0 (d == 27) (n1 122 av (m1 (.bool (d == 27)) (cd h (fun aP h=>?_) (fun aP h=>?_)))))))))
           ·refine n1 126 aP (fd 10 Tyf47_10 rfl (n1 126 aP (l1 1 (sl x c y) t Tya45 (n1 126 aP (lS c.length Tye45 (n1 126 aP ?_))))))
            obtain ⟨cq,eA,h⟩:=ob h
            refine cv ([iI (c.length:Int),iI 1,iI 4]) Tyb42 ((f42_ok k) eA (hG.mono (((f.trans S).trans ai).trans aj.sub)) (pt t)) ?_
            rintro _ gg ⟨eB,rfl,dp⟩
            have eC:=ca dp t
            exact n1 126 aP (uN cq (n1 122 av (m3 true (.bool (!cq)) (cg aP) (m3 false (.bool (!cq)) (cg av) (wt (⟨_,eB,(!cq),fR,(aj.sub.trans dp.sub),(eC.sel [0,1]),h⟩))))))
           ·exact o1 126 aP (o1 126 aP (o1 126 aP (o1 126 aP (o1 126 aP (n1 122 av (m3 false vN (cg aP) (m3 false vN (cg av) (wt (⟨_,bz,false,fR,aj.sub,(t.sel [0,1]),h⟩)))))))))
         ·refine o1 115 a6 (o1 115 a6 (o1 115 a6 (o1 115 a6 (n0 111 (m3 false vN (cg a6) (m3 false vN rfl (m1 vN (n0 122 (fd 0 Tyf47_0 rfl (n0 122 (l1 1 (iI d) t Tya3 (n0 122 (c0 (d == 27) (n0 122 (m1 (.bool (d == 27)) (cd h (fun aQ h=>?_) (fun aQ h=>?_)))))))))))))))))
          ·refine n1 126 aQ (fd 10 Tyf47_10 rfl (n1 126 aQ (l1 1 (sl x c y) t Tya45 (n1 126 aQ (lS c.length Tye45 (n1 126 aQ ?_))))))
           obtain ⟨cr,eD,h⟩:=ob h
           refine cv ([iI (c.length:Int),iI 1,iI 4]) Tyb42 ((f42_ok k) eD (hG.mono (((f.trans S).trans ai).trans aj.sub)) (pt t)) ?_
           rintro _ gh ⟨eE,rfl,dq⟩
           have eF:=ca dq t
           exact n1 126 aQ (uN cr (n0 122 (m3 true (.bool (!cr)) (cg aQ) (m3 false (.bool (!cr)) rfl (wt (⟨_,eE,(!cr),fR,(aj.sub.trans dq.sub),(eF.sel [0,1]),h⟩))))))
          ·exact o1 126 aQ (o1 126 aQ (o1 126 aQ (o1 126 aQ (o1 126 aQ (n0 122 (m3 false vN (cg aQ) (m3 false vN rfl (wt (⟨_,bz,false,fR,aj.sub,(t.sel [0,1]),h⟩)))))))))
      ·rintro _ gi ⟨dk,bP,cO,rfl,aS,cP,h⟩
       unfold f56_j4 at h
       refine cd h (fun cQ h=>?_) (fun cQ h=>?_)
       ·refine cT cQ (sr (m2 vN (wt (wp_ret (thenR ?_)))))
        have e_:=(Option.some.inj h).trans hr_
        obtain ⟨eG,eH⟩:=Prod.mk.inj e_
        obtain ⟨eI,eJ,eK⟩:=Dcounter.mk.inj eG
        subst eI
        subst eJ
        subst eK
        subst eH
        exact retA1 rfl (resT rfl) ⟨bP,rfl,(cP.sel [0])⟩
       ·refine cF cQ (wp_skip (thenN (wp_seq (sr (fd 10 Tyf47_10 rfl (l1 1 (sl x c y) cP Tya45 (lS c.length Tye45 (m1 (iI 0) (wt (wp_block (wp_loopG (fun g_ a w=>∃ dr bA bB,∃ (am:Nat),∃ bQ bR bS,g_=bB.length∧a=fr 192 (updL dr [(0,pp g 0),(2,iI l),(4,pp (zz wi) 0),(135,sl x c y),(136,iI (c.length:Int)),(137,iI (am:Int))])∧KH.sub bP bA∧SR K bA wi w [.box bs g #[iI aB,iI aE,.bool aF] 77] [.box bs g #[iI bQ,iI bR,.bool bS] 77,.box (zz wi) (zz wi) (vS d m V e U ah W u X Y p Z ad B ae af C ag x c y).toArray 47]∧c.drop am=bB∧f56_l1 k F u p B C c l bB am bQ bR bS=some r_) c.length ?_ ?_)))))))))))
        ·exact ⟨_,bP,c,0,bv,bw,bx,rfl,fR,kr,cP,List.drop_zero,h⟩
        ·rintro _ _ ds ⟨dr,bA,bB,am,bQ,bR,bS,rfl,rfl,aR,b2,bT,h⟩
         rcases bB with _ | ⟨⟨aT,bj,bk,bm,bn⟩,bB⟩
         ·unfold f56_l1 at h
          refine sr (bcm (r:=false) rfl rfl (congrArg some (drop_nil_lt bT)) (wt (wp_seq (cndF rfl (wp_exit (thenX (thenX (blkX (thenN (wp_cut (fun a w=>∃ dt ct cR cS cU cV,a=fr 192 (updL dt [(6,.bool cR)])∧KH.sub bA ct∧SR K ct wi w [.box bs g #[iI aB,iI aE,.bool aF] 77] [.box bs g #[iI cS,iI cU,.bool cV] 77]∧f56_j5 k F cR cS cU cV=some r_) ?_ ?_))))))))))
          ·refine wp_region_lit (m1 (pp g 0) (fd 6 Tyf47_6 rfl (l1 1 (sl W u X) b2 Tya44 (m1 (iI l) (bar (r:=(w64 (l + 1))) rfl rfl rfl ?_)))))
           obtain ⟨⟨⟨eL,eM,eN⟩,eO⟩,eP,h⟩:=ob h
           refine cv ([pp g 0,sl W u X,iI (w64 (l + 1))]) Tyb67 ((f67_ok k) eP (hG.mono ((((f.trans S).trans ai).trans aS).trans aR)) (me b6 ((((f.trans S).trans ai).trans aS).trans aR)) (pt b2)) ?_
           rintro _ gj ⟨eQ,rfl,a7⟩
           have cu:=ca a7 b2
           refine m1 (.bool eO) (cd h (fun aw h=>?_) (fun aw h=>?_))
           ·refine n1 168 aw (m1 (pp g 0) (n1 168 aw (fd 7 Tyf47_7 rfl (n1 168 aw (l1 1 (sl Y p Z) cu Tya32 (n1 168 aw (m1 (iI l) (n1 168 aw (bar (r:=(w64 (l + 1))) rfl rfl rfl (n1 168 aw ?_))))))))))
            obtain ⟨⟨⟨eR,eS,eT⟩,du⟩,eU,h⟩:=ob h
            refine cv ([pp g 0,sl Y p Z,iI (w64 (l + 1))]) Tyb45 (IH45 eU (hG.mono (((((f.trans S).trans ai).trans aS).trans aR).trans a7.sub)) (ms b7 (((((f.trans S).trans ai).trans aS).trans aR).trans a7.sub)) (pt cu)) ?_
            rintro _ gk ⟨eV,rfl,bC⟩
            have cw:=ca bC cu
            refine m3 true (.bool du) (cg aw) (m1 (.bool du) (cd h (fun ax h=>?_) (fun ax h=>?_)))
            ·refine n1 176 ax (m1 (pp g 0) (n1 176 ax (fd 8 Tyf47_8 rfl (n1 176 ax (l1 1 (sl ad B ae) cw Tya32 (n1 176 ax (m1 (iI l) (n1 176 ax (bar (r:=(w64 (l + 1))) rfl rfl rfl (n1 176 ax ?_))))))))))
             obtain ⟨⟨⟨eW,eX,eY⟩,dv⟩,eZ,h⟩:=ob h
             refine cv ([pp g 0,sl ad B ae,iI (w64 (l + 1))]) Tyb45 (IH45 eZ (hG.mono ((((((f.trans S).trans ai).trans aS).trans aR).trans a7.sub).trans bC.sub)) (ms b8 ((((((f.trans S).trans ai).trans aS).trans aR).trans a7.sub).trans bC.sub)) (pt cw)) ?_
             rintro _ gl ⟨e0,rfl,b3⟩
             have cx:=ca b3 cw
             refine m3 true (.bool dv) (cg ax) (m1 (.bool dv) (cd h (fun ay h=>?_) (fun ay h=>?_)))
             ·refine n1 184 ay (m1 (pp g 0) (n1 184 ay (fd 9 Tyf47_9 rfl (n1 184 ay (l1 1 (sl af C ag) cx Tya32 (n1 184 ay (m1 (iI l) (n1 184 ay (bar (r:=(w64 (l + 1))) rfl rfl rfl (n1 184 ay ?_))))))))))
              obtain ⟨⟨⟨e1,e2,e3⟩,cW⟩,e4,h⟩:=ob h
              refine cv ([pp g 0,sl af C ag,iI (w64 (l + 1))]) Tyb45 (IH45 e4 (hG.mono (((((((f.trans S).trans ai).trans aS).trans aR).trans a7.sub).trans bC.sub).trans b3.sub)) (ms b9 (((((((f.trans S).trans ai).trans aS).trans aR).trans a7.sub).trans bC.sub).trans b3.sub)) (pt cx)) ?_
              rintro _ gm ⟨e5,rfl,dw⟩
              have e6:=ca dw cx
              exact m3 true (.bool cW) (cg ay) (m2 (.bool cW) (wt (⟨_,e5,cW,e1,e2,e3,fR,(((a7.sub.trans bC.sub).trans b3.sub).trans dw.sub),(e6.sel [0]),h⟩)))
             ·exact o1 184 ay (o1 184 ay (o1 184 ay (o1 184 ay (o1 184 ay (o1 184 ay (m3 false vN (cg ay) (m2 vN (wt (⟨_,e0,false,eW,eX,eY,fR,((a7.sub.trans bC.sub).trans b3.sub),(cx.sel [0]),h⟩)))))))))
            ·exact o1 176 ax (o1 176 ax (o1 176 ax (o1 176 ax (o1 176 ax (o1 176 ax (m3 false vN (cg ax) (m1 vN (o0 184 (o0 184 (o0 184 (o0 184 (o0 184 (o0 184 (m3 false vN rfl (m2 vN (wt (⟨_,eV,false,eR,eS,eT,fR,(a7.sub.trans bC.sub),(cw.sel [0]),h⟩)))))))))))))))))
           ·exact o1 168 aw (o1 168 aw (o1 168 aw (o1 168 aw (o1 168 aw (o1 168 aw (m3 false vN (cg aw) (m1 vN (o0 176 (o0 176 (o0 176 (o0 176 (o0 176 (o0 176 (m3 false vN rfl (m1 vN (o0 184 (o0 184 (o0 184 (o0 184 (o0 184 (o0 184 (m3 false vN rfl (m2 vN (wt (⟨_,eQ,false,eL,eM,eN,fR,a7.sub,(cu.sel [0]),h⟩)))))))))))))))))))))))))
          ·rintro _ gn ⟨dt,ct,cR,cS,cU,cV,rfl,go,e7,h⟩
           unfold f56_j5 at h
           refine wp_ret ?_
           have e_:=(Option.some.inj h).trans hr_
           obtain ⟨e8,e9⟩:=Prod.mk.inj e_
           obtain ⟨fa,fb,fc⟩:=Dcounter.mk.inj e8
           subst fa
           subst fb
           subst fc
           subst e9
           exact retA1 rfl (resT rfl) ⟨ct,rfl,e7⟩
         ·unfold f56_l1 at h
          refine sr (bcm (r:=true) rfl rfl (congrArg some (drop_cons_t bT)) (wt (wp_seq (cndT rfl (wp_skip (thenN (wp_seq (wp_block (sr (m1 (iI (am:Int)) ?_))))))))))
          obtain ⟨fe,ff,gp,fg,gq,fh,fi⟩:=((mc bU ((((f.trans S).trans ai).trans aS).trans aR))).row.at_ (drop_cons_at bT)
          obtain ⟨bo,bp,bq,br,rfl,dx,dy,dz⟩:=RDCase.open fi
          refine idxN (b:=fe) (o:=ff) (i:=am) Tye45 Tys56 rfl fg rfl (drop_cons_lt bT) (lD (vC aT bj bk bo bm bp bq bn br) Tya56 Tys56 rfl (fun j v hj=>b2.cell (kr.cell (fh j v hj))) (aC zC.toArray b2 Tyz56 (fun gr fj=>(m2 (iI (am:Int)) (sI 0 (.agg (vC aT bj bk bo bm bp bq bn br).toArray) ((vC aT bj bk bo bm bp bq bn br).toArray) fj Tys56 rfl rfl (fun dA bH=>(wt (wp_cut (fun a w=>∃ dB b4 cy cz cA cX,a=fr 192 (updL dB [(0,pp g 0),(2,iI l),(4,pp (zz wi) 0),(135,sl x c y),(136,iI (c.length:Int)),(137,iI (am:Int)),(160,.bool cX)])∧KH.sub bA b4∧SR K b4 wi w [.box bs g #[iI aB,iI aE,.bool aF] 77] [.box bs g #[iI cy,iI cz,.bool cA] 77,.box (zz wi) (zz wi) (vS d m V e U ah W u X Y p Z ad B ae af C ag x c y).toArray 47]∧f56_j6 k F am cy cz cA cX (f56_l1 k F u p B C c l bB)=some r_) ?_ ?_))))))))
          ·refine wp_region_lit (fd 0 Tyf56_0 rfl (l1 0 (iI aT) bH Tya3 (c0 (aT == 4) (m1 (.bool (aT == 4)) (cd h (fun az h=>?_) (fun az h=>?_))))))
           ·refine n1 145 az (m1 (iI (am:Int)) (n1 145 az (fd 10 Tyf47_10 rfl (n1 145 az (l1 2 (sl x c y) bH Tya45 (n1 145 az (lS c.length Tye45 (n1 145 az (bar (r:=(w64 ((c.length:Int) - 1))) rfl rfl rfl (n1 145 az (c0 (decide ((am:Int) < (w64 ((c.length:Int) - 1)))) (m3 true (.bool (decide ((am:Int) < (w64 ((c.length:Int) - 1))))) (cg az) (m1 (.bool (decide ((am:Int) < (w64 ((c.length:Int) - 1))))) (cd h (fun aA h=>?_) (fun aA h=>?_)))))))))))))))
            ·exact o1 153 aA (o1 153 aA (o1 153 aA (o1 153 aA (o1 153 aA (o1 153 aA (m3 true vT (cg aA) (wt (⟨_,bA,bQ,bR,bS,true,fR,kr,(bH.sel [1,2]),h⟩))))))))
            ·refine n1 153 aA (m1 (pp g 0) (n1 153 aA (lN 0 (vC aT bj bk bo bm bp bq bn br) bH Tya56 Tys56 (n1 153 aA (m1 (iI l) (n1 153 aA (bar (r:=(w64 (l + 1))) rfl rfl rfl (n1 153 aA ?_))))))))
             have dC:=p102 bH
             obtain ⟨⟨⟨fk,fl,fm⟩,cY⟩,fn,h⟩:=ob h
             refine cv ([pp g 0,.agg (vC aT bj bk bo bm bp bq bn br).toArray,iI (w64 (l + 1))]) Tyb66 (IH66 fn (hG.mono ((((f.trans S).trans ai).trans aS).trans aR)) (RDCase.intro dx dy dz) (pt dC)) ?_
             rintro _ gs ⟨fo,rfl,dD⟩
             have fp:=ca dD dC
             exact n1 153 aA (uN cY (m3 false (.bool (!cY)) (cg aA) (wt (⟨_,fo,fk,fl,fm,(!cY),fR,dD.sub,(fp.sel [0,2]),h⟩))))
           ·refine o1 145 az (o1 145 az (o1 145 az (o1 145 az (o1 145 az (o1 145 az (m3 false vN (cg az) (m1 vN (n0 153 (m1 (pp g 0) (n0 153 (lN 0 (vC aT bj bk bo bm bp bq bn br) bH Tya56 Tys56 (n0 153 (m1 (iI l) (n0 153 (bar (r:=(w64 (l + 1))) rfl rfl rfl (n0 153 ?_))))))))))))))))
            have dE:=p102 bH
            obtain ⟨⟨⟨fs,ft,fu⟩,cZ⟩,fv,h⟩:=ob h
            refine cv ([pp g 0,.agg (vC aT bj bk bo bm bp bq bn br).toArray,iI (w64 (l + 1))]) Tyb66 (IH66 fv (hG.mono ((((f.trans S).trans ai).trans aS).trans aR)) (RDCase.intro dx dy dz) (pt dE)) ?_
            rintro _ gt ⟨fx,rfl,dF⟩
            have fy:=ca dF dE
            exact n0 153 (uN cZ (m3 false (.bool (!cZ)) rfl (wt (⟨_,fx,fs,ft,fu,(!cZ),fR,dF.sub,(fy.sel [0,2]),h⟩))))
          ·rintro _ gu ⟨dB,b4,cy,cz,cA,cX,rfl,fz,dG,h⟩
           unfold f56_j6 at h
           refine cd h (fun c2 h=>?_) (fun c2 h=>?_)
           ·refine cT c2 (sr (m2 vN (wt (wp_ret (blkR (thenR (thenR (blkR (thenR ?_)))))))))
            have e_:=(Option.some.inj h).trans hr_
            obtain ⟨fA,fB⟩:=Prod.mk.inj e_
            obtain ⟨fC,fD,fE⟩:=Dcounter.mk.inj fA
            subst fC
            subst fD
            subst fE
            subst fB
            exact retA1 rfl (resT rfl) ⟨b4,rfl,(dG.sel [0])⟩
           ·exact cF c2 (wp_skip (blkN (thenN (wp_region_lit (bar (r:=((am + 1:Nat):Int)) rfl rfl (inc_ok (le_big (((mc bU ((((f.trans S).trans ai).trans aS).trans aR))).len) (by decide) (drop_cons_lt bT))) (m1 (iI ((am + 1:Nat):Int)) (wt (⟨_,Nat.lt_succ_self _,_,b4,bB,am + 1,cy,cz,cA,rfl,fR,(aR.trans fz),dG,drop_cons_next bT,h⟩))))))))
theorem f66_b_ok (k:Nat) (F:Fam45) (IH45:f45_spec F.f45) (IH56:f56_spec F.f56) (IH66:f66_spec F.f66):f66_spec (f66_b k F):=by
 unfold f66_spec
 intro K wi g bs U V W aI bK C bL bM bN bO h hG aJ aK
 obtain ⟨r_,hr_,h⟩:=rz h
 obtain ⟨d,b,O,e,S⟩:=aI
 obtain ⟨I,J,X,Y,rfl,ay,aL,aM⟩:=RDCase.open aJ
 refine enter Tryd.func66 rfl (n:=80) rfl ?_
 unfold f66_b at h
 refine sr (bxoC (cs:=(vC d b O I e J X S Y).toArray) aK rfl rfl (fun Z aN=>(m2 vN (wt (sr (mkm aN (fun bP aP=>(mup_ (kv:=kI) (q:=qI) (R:=VInt) (xs:=([]:List (Int × Int))) (k:=1) (u:=1) (uv:=iI 1) (i:=0) (.inl rfl) aP rfl Tym118 (und_i64 Tyk3) keI (mapr0 (kv:=kI) (R:=VInt)) rfl rfl rfl rfl (fun bQ bR bS aQ aR=>(mup_ (kv:=kI) (q:=qI) (R:=VInt) (k:=2) (u:=2) (uv:=iI 2) (i:=0) (.inl rfl) aQ rfl Tym118 (und_i64 Tyk3) keI aR rfl rfl rfl rfl (fun bT bU bV aS aT=>(mup_ (kv:=kI) (q:=qI) (R:=VInt) (k:=3) (u:=1) (uv:=iI 1) (i:=0) (.inl rfl) aS rfl Tym118 (und_i64 Tyk3) keI aT rfl rfl rfl rfl (fun aU aV aW aX aY=>?_)))))))))))))
 have aZ:SR K K wi aW [.box bs g #[iI U,iI V,.bool W] 77] [.mp (zz wi) (zz Z) aU aV,.box (zz wi) (zz wi) (vC d b O I e J X S Y).toArray 56,.box bs g #[iI U,iI V,.bool W] 77]:=aX
 refine mup_ (kv:=kI) (q:=qI) (R:=VInt) (k:=4) (u:=0) (uv:=iI 0) (i:=0) (.inl rfl) aZ rfl Tym118 (und_i64 Tyk3) keI aY rfl rfl rfl rfl (fun a0 a3 a4 ab az=>(m1 (.map (some (zz Z))) (m2 (.map (some (zz Z))) (wt (sr (m1 (.map (some (zz Z))) (fd 0 Tyf56_0 rfl (l1 1 (iI d) ab Tya3 ?_))))))))
 rcases ae:mget qI d (mput qI 4 0 (mput qI 3 1 (mput qI 2 2 (mput qI 1 1 ([]:List (Int × Int)))))) with _ | z
 ·have h:=of_mcase_n ae h
  refine lkN (kv:=kI) (q:=qI) (R:=VInt) (xs:=(mput qI 4 0 (mput qI 3 1 (mput qI 2 2 (mput qI 1 1 ([]:List (Int × Int))))))) (k:=d) (ab.entAt (i:=0) rfl).1 Tym118 (und_i64 Tyk3) keI Tyz3 az rfl rfl ae (m1 (.tuple #[iI 0,vN]) (ext (v:=iI 0) rfl rfl (ext (v:=vN) rfl rfl (m2 (iI 0) (m2 vN (wt (wp_seq (sr (m1 vN (unot rfl (m1 vT (o0 21 (o0 21 (o0 21 (o0 21 (m3 true vT rfl (m1 vT (o0 27 (o0 27 (o0 27 (o0 27 (ou 31 (ou 31 (ou 31 (ou 31 (ou 31 (o0 27 (m3 true vT rfl (m1 vT (o0 39 (o0 39 (o0 39 (o0 39 (o0 39 (m3 true vT rfl (m1 vT (o0 46 (o0 46 (o0 46 (o0 46 (o0 46 (o0 46 (o0 46 (m3 true vT rfl (m1 vT (o0 55 (o0 55 (o0 55 (o0 55 (ou 59 (ou 59 (ou 59 (ou 59 (o0 55 (m3 true vT rfl (wt (cndT rfl (sr (m2 vN (wt (wp_ret (thenR ?_))))))))))))))))))))))))))))))))))))))))))))))))))))))))))))))
  have e_:=(Option.some.inj h).trans hr_
  obtain ⟨a5,a6⟩:=Prod.mk.inj e_
  obtain ⟨a7,a8,a9⟩:=Dcounter.mk.inj a5
  subst a7
  subst a8
  subst a9
  subst a6
  exact retA1 rfl (resT rfl) ⟨K,rfl,(ab.sel [2])⟩
 ·have h:=of_mcase_s ae h
  refine lkS (kv:=kI) (q:=qI) (R:=VInt) (xs:=(mput qI 4 0 (mput qI 3 1 (mput qI 2 2 (mput qI 1 1 ([]:List (Int × Int))))))) (k:=d) (ab.entAt (i:=0) rfl).1 Tym118 (und_i64 Tyk3) keI az rfl rfl ae (fun bW ba=>?_)
  obtain rfl:=ba
  refine m1 (.tuple #[iI z,vT]) (ext (v:=iI z) rfl rfl (ext (v:=vT) rfl rfl (m2 (iI z) (m2 vT (wt (wp_seq (wp_cut (fun a w=>∃ aA ac al am an ao,a=fr 80 (updL aA [(0,pp g 0),(2,iI C),(4,pp (zz wi) 0),(65,.bool ao)])∧KH.sub K ac∧SR K ac wi w [.box bs g #[iI U,iI V,.bool W] 77] [.box bs g #[iI al,iI am,.bool an] 77,.box (zz wi) (zz wi) (vC d b O I e J X S Y).toArray 56]∧f66_j1 k F e S C al am an ao=some r_) ?_ ?_)))))))
  ·refine wp_region_lit (m1 vT (unot rfl (m1 vN (n0 21 (m1 (pp g 0) (n0 21 (m1 (iI C) (n0 21 ?_))))))))
   have aB:=p201 ab
   obtain ⟨⟨⟨D,G,l⟩,ap⟩,bb,h⟩:=ob h
   refine cv ([pp g 0,iI C]) Tyb43 ((f43_ok k) bb (hG.mono kr) (pt aB)) ?_
   rintro _ bX ⟨N,rfl,t⟩
   have c:=ca t aB
   refine n0 21 (uN ap (m3 false (.bool (!ap)) rfl (m1 (.bool (!ap)) (cd h (fun m h=>?_) (fun m h=>?_)))))
   ·exact o1 27 m (o1 27 m (o1 27 m (o1 27 m (ou 31 (ou 31 (ou 31 (ou 31 (ou 31 (o1 27 m (m3 true vT (cg m) (m1 vT (o0 39 (o0 39 (o0 39 (o0 39 (o0 39 (m3 true vT rfl (m1 vT (o0 46 (o0 46 (o0 46 (o0 46 (o0 46 (o0 46 (o0 46 (m3 true vT rfl (m1 vT (o0 55 (o0 55 (o0 55 (o0 55 (ou 59 (ou 59 (ou 59 (ou 59 (o0 55 (m3 true vT rfl (wt (⟨_,N,D,G,l,true,fR,t.sub,(c.sel [0,2]),h⟩)))))))))))))))))))))))))))))))))))))))
   ·refine n1 27 m (fd 2 Tyf56_2 rfl (n1 27 m (l1 2 (iI O) c Tya3 (n1 27 m (c0 (O != 0) (n1 27 m (m1 (.bool (O != 0)) (cd h (fun x h=>?_) (fun x h=>?_)))))))))
    ·refine n1 31 x (m1 (pp g 0) (n1 31 x (nilc rfl (n1 31 x (fd 2 Tyf77_2 rfl (n1 31 x (l1 0 (.bool l) c Tya4 (n1 31 x (uN l (n1 27 m (m3 true (.bool (!l)) (cg x) (m3 false (.bool (!l)) (cg m) (m1 (.bool (!l)) (cd h (fun y h=>?_) (fun y h=>?_)))))))))))))))
     ·exact o1 39 y (o1 39 y (o1 39 y (o1 39 y (o1 39 y (m3 true vT (cg y) (m1 vT (o0 46 (o0 46 (o0 46 (o0 46 (o0 46 (o0 46 (o0 46 (m3 true vT rfl (m1 vT (o0 55 (o0 55 (o0 55 (o0 55 (ou 59 (ou 59 (ou 59 (ou 59 (o0 55 (m3 true vT rfl (wt (⟨_,N,D,G,l,true,fR,t.sub,(c.sel [0,2]),h⟩)))))))))))))))))))))))))))
     ·refine n1 39 y (fd 3 Tyf56_3 rfl (n1 39 y (l1 2 (sl I e J) c Tya44 (n1 39 y (lS e.length Tye44 (n1 39 y (m1 (iI z) (n1 39 y (c0 ((e.length:Int) != z) (m3 false (.bool ((e.length:Int) != z)) (cg y) (m1 (.bool ((e.length:Int) != z)) (cd h (fun f h=>?_) (fun f h=>?_)))))))))))))
      ·exact o1 46 f (o1 46 f (o1 46 f (o1 46 f (o1 46 f (o1 46 f (o1 46 f (m3 true vT (cg f) (m1 vT (o0 55 (o0 55 (o0 55 (o0 55 (ou 59 (ou 59 (ou 59 (ou 59 (o0 55 (m3 true vT rfl (wt (⟨_,N,D,G,l,true,fR,t.sub,(c.sel [0,2]),h⟩))))))))))))))))))))
      ·refine n1 46 f (fd 1 Tyf56_1 rfl (n1 46 f (l1 2 (.string b) c Tya9 (n1 46 f (bsc (r:=(!seq b ⟨#[]⟩)) rfl rfl rfl (n1 46 f (fd 0 Tyf56_0 rfl (n1 46 f (l1 2 (iI d) c Tya3 (n1 46 f (c0 (d == 1) (n1 46 f (bbo (r:=(!((!seq b ⟨#[]⟩) == (d == 1)))) Tyo4 rfl rfl rfl (m3 false (.bool (!((!seq b ⟨#[]⟩) == (d == 1)))) (cg f) (m1 (.bool (!((!seq b ⟨#[]⟩) == (d == 1)))) (cd h (fun o h=>?_) (fun o h=>?_)))))))))))))))))
       ·exact o1 55 o (o1 55 o (o1 55 o (o1 55 o (ou 59 (ou 59 (ou 59 (ou 59 (o1 55 o (m3 true vT (cg o) (wt (⟨_,N,D,G,l,true,fR,t.sub,(c.sel [0,2]),h⟩)))))))))))
       ·refine n1 55 o (fd 1 Tyf56_1 rfl (n1 55 o (l1 2 (.string b) c Tya9 (n1 55 o (bsc (r:=(!seq b ⟨#[]⟩)) rfl rfl rfl (n1 55 o (m1 (.bool (!seq b ⟨#[]⟩)) (cd h (fun A h=>?_) (fun A h=>?_)))))))))
        ·refine n1 59 A (fd 1 Tyf56_1 rfl (n1 59 A (l1 2 (.string b) c Tya9 (n1 59 A ?_))))
         obtain ⟨af,bd,h⟩:=ob h
         refine cv ([.string b]) Tyb44 ((f44_ok k) bd (hG.mono t.sub) ay (pt c)) ?_
         rintro _ bY ⟨be,rfl,aE⟩
         have bf:=ca aE c
         exact n1 59 A (uN af (n1 55 o (m3 true (.bool (!af)) (cg A) (m3 false (.bool (!af)) (cg o) (wt (⟨_,be,D,G,l,(!af),fR,(t.sub.trans aE.sub),(bf.sel [0,2]),h⟩))))))
        ·exact o1 59 A (o1 59 A (o1 59 A (o1 59 A (n1 55 o (m3 false vN (cg A) (m3 false vN (cg o) (wt (⟨_,N,D,G,l,false,fR,t.sub,(c.sel [0,2]),h⟩))))))))
    ·refine o1 31 x (o1 31 x (o1 31 x (o1 31 x (o1 31 x (n1 27 m (m3 false vN (cg x) (m3 false vN (cg m) (m1 vN (n0 39 (fd 3 Tyf56_3 rfl (n0 39 (l1 2 (sl I e J) c Tya44 (n0 39 (lS e.length Tye44 (n0 39 (m1 (iI z) (n0 39 (c0 ((e.length:Int) != z) (m3 false (.bool ((e.length:Int) != z)) rfl (m1 (.bool ((e.length:Int) != z)) (cd h (fun j h=>?_) (fun j h=>?_))))))))))))))))))))))
     ·exact o1 46 j (o1 46 j (o1 46 j (o1 46 j (o1 46 j (o1 46 j (o1 46 j (m3 true vT (cg j) (m1 vT (o0 55 (o0 55 (o0 55 (o0 55 (ou 59 (ou 59 (ou 59 (ou 59 (o0 55 (m3 true vT rfl (wt (⟨_,N,D,G,l,true,fR,t.sub,(c.sel [0,2]),h⟩))))))))))))))))))))
     ·refine n1 46 j (fd 1 Tyf56_1 rfl (n1 46 j (l1 2 (.string b) c Tya9 (n1 46 j (bsc (r:=(!seq b ⟨#[]⟩)) rfl rfl rfl (n1 46 j (fd 0 Tyf56_0 rfl (n1 46 j (l1 2 (iI d) c Tya3 (n1 46 j (c0 (d == 1) (n1 46 j (bbo (r:=(!((!seq b ⟨#[]⟩) == (d == 1)))) Tyo4 rfl rfl rfl (m3 false (.bool (!((!seq b ⟨#[]⟩) == (d == 1)))) (cg j) (m1 (.bool (!((!seq b ⟨#[]⟩) == (d == 1)))) (cd h (fun p h=>?_) (fun p h=>?_)))))))))))))))))
      ·exact o1 55 p (o1 55 p (o1 55 p (o1 55 p (ou 59 (ou 59 (ou 59 (ou 59 (o1 55 p (m3 true vT (cg p) (wt (⟨_,N,D,G,l,true,fR,t.sub,(c.sel [0,2]),h⟩)))))))))))
      ·refine n1 55 p (fd 1 Tyf56_1 rfl (n1 55 p (l1 2 (.string b) c Tya9 (n1 55 p (bsc (r:=(!seq b ⟨#[]⟩)) rfl rfl rfl (n1 55 p (m1 (.bool (!seq b ⟨#[]⟩)) (cd h (fun B h=>?_) (fun B h=>?_)))))))))
       ·refine n1 59 B (fd 1 Tyf56_1 rfl (n1 59 B (l1 2 (.string b) c Tya9 (n1 59 B ?_))))
        obtain ⟨ag,bg,h⟩:=ob h
        refine cv ([.string b]) Tyb44 ((f44_ok k) bg (hG.mono t.sub) ay (pt c)) ?_
        rintro _ bZ ⟨bh,rfl,aF⟩
        have bi:=ca aF c
        exact n1 59 B (uN ag (n1 55 p (m3 true (.bool (!ag)) (cg B) (m3 false (.bool (!ag)) (cg p) (wt (⟨_,bh,D,G,l,(!ag),fR,(t.sub.trans aF.sub),(bi.sel [0,2]),h⟩))))))
       ·exact o1 59 B (o1 59 B (o1 59 B (o1 59 B (n1 55 p (m3 false vN (cg B) (m3 false vN (cg p) (wt (⟨_,N,D,G,l,false,fR,t.sub,(c.sel [0,2]),h⟩))))))))
  ·rintro _ b0 ⟨aA,ac,al,am,an,ao,rfl,ah,ai,h⟩
   unfold f66_j1 at h
   refine cd h (fun aq h=>?_) (fun aq h=>?_)
   ·refine cT aq (sr (m2 vN (wt (wp_ret (thenR ?_)))))
    have e_:=(Option.some.inj h).trans hr_
    obtain ⟨bj,bk⟩:=Prod.mk.inj e_
    obtain ⟨bm,bn,bo⟩:=Dcounter.mk.inj bj
    subst bm
    subst bn
    subst bo
    subst bk
    exact retA1 rfl (resT rfl) ⟨ac,rfl,(ai.sel [0])⟩
   ·refine cF aq (wp_skip (thenN (wp_cut (fun a w=>∃ aG aj ar au av aw,a=fr 80 (updL aG [(6,.bool ar)])∧KH.sub ac aj∧SR K aj wi w [.box bs g #[iI U,iI V,.bool W] 77] [.box bs g #[iI au,iI av,.bool aw] 77]∧f66_j2 k F ar au av aw=some r_) ?_ ?_)))
    ·refine wp_region_lit (m1 (pp g 0) (fd 3 Tyf56_3 rfl (l1 1 (sl I e J) ai Tya44 (m1 (iI C) (bar (r:=(w64 (C + 1))) rfl rfl rfl ?_)))))
     obtain ⟨⟨⟨bp,bq,br⟩,bu⟩,bv,h⟩:=ob h
     refine cv ([pp g 0,sl I e J,iI (w64 (C + 1))]) Tyb67 ((f67_ok k) bv (hG.mono ah) (me aL ah) (pt ai)) ?_
     rintro _ b1 ⟨bw,rfl,ad⟩
     have ak:=ca ad ai
     refine m1 (.bool bu) (cd h (fun s h=>?_) (fun s h=>?_))
     ·refine n1 72 s (m1 (pp g 0) (n1 72 s (fd 4 Tyf56_4 rfl (n1 72 s (l1 1 (sl X S Y) ak Tya32 (n1 72 s (m1 (iI C) (n1 72 s (bar (r:=(w64 (C + 1))) rfl rfl rfl (n1 72 s ?_))))))))))
      obtain ⟨⟨⟨bx,bz,bA⟩,ax⟩,bB,h⟩:=ob h
      refine cv ([pp g 0,sl X S Y,iI (w64 (C + 1))]) Tyb45 (IH45 bB (hG.mono (ah.trans ad.sub)) (ms aM (ah.trans ad.sub)) (pt ak)) ?_
      rintro _ b2 ⟨bC,rfl,aH⟩
      have bD:=ca aH ak
      exact m3 true (.bool ax) (cg s) (m2 (.bool ax) (wt (⟨_,bC,ax,bx,bz,bA,fR,(ad.sub.trans aH.sub),(bD.sel [0]),h⟩)))
     ·exact o1 72 s (o1 72 s (o1 72 s (o1 72 s (o1 72 s (o1 72 s (m3 false vN (cg s) (m2 vN (wt (⟨_,bw,false,bp,bq,br,fR,ad.sub,(ak.sel [0]),h⟩)))))))))
    ·rintro _ b3 ⟨aG,aj,ar,au,av,aw,rfl,b4,bE,h⟩
     unfold f66_j2 at h
     refine wp_ret ?_
     have e_:=(Option.some.inj h).trans hr_
     obtain ⟨bF,bG⟩:=Prod.mk.inj e_
     obtain ⟨bH,bI,bJ⟩:=Dcounter.mk.inj bF
     subst bH
     subst bI
     subst bJ
     subst bG
     exact retA1 rfl (resT rfl) ⟨aj,rfl,bE⟩
theorem fam45_ok (k0:Nat) : ∀ k,f45_spec (fam45 k0 k).f45∧f56_spec (fam45 k0 k).f56∧f66_spec (fam45 k0 k).f66:=by
 intro k
 induction k with
 | zero=>exact ⟨(by unfold f45_spec; intro _ _ _ _ _ _ _ _ _ _ _ _ _ _ _ h_; cases h_),(by unfold f56_spec; intro _ _ _ _ _ _ _ _ _ _ _ _ _ _ h_; cases h_),(by unfold f66_spec; intro _ _ _ _ _ _ _ _ _ _ _ _ _ _ h_; cases h_)⟩
 | succ k ih=>exact ⟨f45_b_ok k0 (fam45 k0 k) ih.1 ih.2.1 ih.2.2,f56_b_ok k0 (fam45 k0 k) ih.1 ih.2.1 ih.2.2,f66_b_ok k0 (fam45 k0 k) ih.1 ih.2.1 ih.2.2⟩
theorem f45_ok (k:Nat):f45_spec (f45 k):=(fam45_ok k k).1
theorem f56_ok (k:Nat):f56_spec (f56 k):=(fam45_ok k k).2.1
theorem f66_ok (k:Nat):f66_spec (f66 k):=(fam45_ok k k).2.2
theorem f34_b_ok (k:Nat):f34_spec (f34_b k):=by
 unfold f34_spec
 intro K wi g bs al am an bm cI cJ cK cL cM h hG bn bo
 obtain ⟨r_,hr_,h⟩:=rz h
 obtain ⟨f⟩:=bm
 obtain ⟨ai,c1,rfl,a2⟩:=RDProgram.open bn
 refine enter Tryd.func34 rfl (n:=87) rfl ?_
 unfold f34_b at h
 refine sr (bxoC (cs:=#[sl ai f c1]) bo rfl rfl (fun cN aI=>(m2 vN (wt (wp_seq (sr (fd 0 Tyf24_0 rfl (l1 0 (sl ai f c1) aI Tya22 (lS f.length Tye22 ?_)))))))))
 obtain ⟨bp,bq,h⟩:=ob h
 refine cv ([iI (f.length:Int),iI 1,iI 16]) Tyb42 ((f42_ok k) bq (hG.mono kr) (pt aI)) ?_
 rintro _ cO ⟨aJ,rfl,x⟩
 have aK:=ca x aI
 refine uN bp (wt (cd h (fun aL h=>?_) (fun aL h=>?_)))
 ·refine cT aL (sr (m2 vN (wt (wp_ret (thenR ?_)))))
  have e_:=(Option.some.inj h).trans hr_
  obtain ⟨br,bu⟩:=Prod.mk.inj e_
  obtain ⟨bv,bw,bx⟩:=Dcounter.mk.inj br
  subst bv
  subst bw
  subst bx
  subst bu
  exact retA1 rfl (resT rfl) ⟨aJ,rfl,(aK.sel [1])⟩
 ·refine cF aL (wp_skip (thenN (wp_seq (sr (fd 0 Tyf24_0 rfl (l1 0 (sl ai f c1) aK Tya22 (lS f.length Tye22 (m1 (iI 0) (wt (wp_block (wp_loopG (fun g_ a w=>∃ a3 ao O,∃ (q:Nat),∃ az aA aB,g_=O.length∧a=fr 87 (updL a3 [(0,pp g 0),(15,sl ai f c1),(16,iI (f.length:Int)),(17,iI (q:Int))])∧KH.sub aJ ao∧SR K ao wi w [.box bs g #[iI al,iI am,.bool an] 77] [.box bs g #[iI az,iI aA,.bool aB] 77]∧f.drop q=O∧f34_l1 k O q az aA aB=some r_) f.length ?_ ?_)))))))))))
  ·exact ⟨_,aJ,f,0,al,am,an,rfl,fR,kr,(aK.sel [1]),List.drop_zero,h⟩
  ·rintro _ _ aj ⟨a3,ao,O,q,az,aA,aB,rfl,rfl,y,aM,ap,h⟩
   rcases O with _ | ⟨⟨X,e,c,A,S,z⟩,O⟩
   ·unfold f34_l1 at h
    refine sr (bcm (r:=false) rfl rfl (congrArg some (drop_nil_lt ap)) (wt (wp_seq (cndF rfl (wp_exit (thenX (thenX (blkX (thenN (sr (m2 vT (wt (wp_ret ?_)))))))))))))
    have e_:=(Option.some.inj h).trans hr_
    obtain ⟨bz,bA⟩:=Prod.mk.inj e_
    obtain ⟨bB,bC,bD⟩:=Dcounter.mk.inj bz
    subst bB
    subst bC
    subst bD
    subst bA
    exact retA1 rfl (resT rfl) ⟨ao,rfl,aM⟩
   ·unfold f34_l1 at h
    refine sr (bcm (r:=true) rfl rfl (congrArg some (drop_cons_t ap)) (wt (wp_seq (cndT rfl (wp_skip (thenN (wp_seq (wp_block (sr ?_)))))))))
    obtain ⟨bE,bF,cP,bG,cQ,bH,bI⟩:=((mf a2 (x.sub.trans y))).row.at_ (drop_cons_at ap)
    obtain ⟨B,C,Y,Z,rfl,bJ,a4,bK⟩:=RDFunc.open bI
    refine idxN (b:=bE) (o:=bF) (i:=q) Tye22 Tys34 rfl bG rfl (drop_cons_lt ap) (lD (vF X B e C c A S Y z Z) Tya34 Tys34 rfl (fun j v hj=>aM.cell (kr.cell (bH j v hj))) (aC zF.toArray aM Tyz34 (fun cR bL=>(sI 0 (.agg (vF X B e C c A S Y z Z).toArray) ((vF X B e C c A S Y z Z).toArray) bL Tys34 rfl rfl (fun bM bN=>(wt (wp_seq (wp_cut (fun a w=>∃ a5 aq ad ae af aN,a=fr 87 (updL a5 [(0,pp g 0),(6,pp (zz aj) 0),(15,sl ai f c1),(16,iI (f.length:Int)),(17,iI (q:Int)),(62,.bool aN)])∧KH.sub ao aq∧SR K aq wi w [.box bs g #[iI al,iI am,.bool an] 77] [.box bs g #[iI ad,iI ae,.bool af] 77,.box (zz wi) (zz aj) (vF X B e C c A S Y z Z).toArray 34]∧f34_j1 k q e z ad ae af aN (f34_l1 k O)=some r_) ?_ ?_))))))))
    ·refine wp_region_lit (m1 (pp g 0) ?_)
     have a6:=p10 bN
     obtain ⟨⟨⟨U,V,m⟩,a7⟩,bO,h⟩:=ob h
     refine cv ([pp g 0,iI 0]) Tyb43 ((f43_ok k) bO (hG.mono (x.sub.trans y)) (pt a6)) ?_
     rintro _ cS ⟨bP,rfl,l⟩
     have aE:=ca l a6
     refine uN a7 (m1 (.bool (!a7)) (cd h (fun D h=>?_) (fun D h=>?_)))
     ·exact o1 24 D (o1 24 D (o1 24 D (o1 24 D (m3 true vT (cg D) (m1 vT (o0 30 (o0 30 (o0 30 (o0 30 (m3 true vT rfl (m1 vT (o0 36 (o0 36 (o0 36 (o0 36 (ou 40 (ou 40 (ou 40 (ou 40 (ou 40 (o0 36 (m3 true vT rfl (m1 vT (o0 48 (o0 48 (o0 48 (ou 51 (ou 51 (ou 51 (o0 48 (m3 true vT rfl (m1 vT (o0 57 (o0 57 (o0 57 (o0 57 (m3 true vT rfl (wt (⟨_,bP,U,V,m,true,fR,l.sub,aE,h⟩)))))))))))))))))))))))))))))))))))))))
     ·refine n1 24 D (fd 0 Tyf34_0 rfl (n1 24 D (l1 1 (.string X) aE Tya9 (n1 24 D ?_))))
      obtain ⟨aP,bQ,h⟩:=ob h
      refine cv ([.string X]) Tyb44 ((f44_ok k) bQ (hG.mono ((x.sub.trans y).trans l.sub)) bJ (pt aE)) ?_
      rintro _ cU ⟨au,rfl,s⟩
      have d:=ca s aE
      refine n1 24 D (uN aP (m3 false (.bool (!aP)) (cg D) (m1 (.bool (!aP)) (cd h (fun G h=>?_) (fun G h=>?_)))))
      ·exact o1 30 G (o1 30 G (o1 30 G (o1 30 G (m3 true vT (cg G) (m1 vT (o0 36 (o0 36 (o0 36 (o0 36 (ou 40 (ou 40 (ou 40 (ou 40 (ou 40 (o0 36 (m3 true vT rfl (m1 vT (o0 48 (o0 48 (o0 48 (ou 51 (ou 51 (ou 51 (o0 48 (m3 true vT rfl (m1 vT (o0 57 (o0 57 (o0 57 (o0 57 (m3 true vT rfl (wt (⟨_,au,U,V,m,true,fR,(l.sub.trans s.sub),d,h⟩)))))))))))))))))))))))))))))))))
      ·refine n1 30 G (fd 1 Tyf34_1 rfl (n1 30 G (l1 1 (sl B e C) d Tya31 (n1 30 G (lS e.length Tye31 (n1 30 G (c0 (decide ((e.length:Int) > 4)) (m3 false (.bool (decide ((e.length:Int) > 4))) (cg G) (m1 (.bool (decide ((e.length:Int) > 4))) (cd h (fun p h=>?_) (fun p h=>?_)))))))))))
       ·exact o1 36 p (o1 36 p (o1 36 p (o1 36 p (ou 40 (ou 40 (ou 40 (ou 40 (ou 40 (o1 36 p (m3 true vT (cg p) (m1 vT (o0 48 (o0 48 (o0 48 (ou 51 (ou 51 (ou 51 (o0 48 (m3 true vT rfl (m1 vT (o0 57 (o0 57 (o0 57 (o0 57 (m3 true vT rfl (wt (⟨_,au,U,V,m,true,fR,(l.sub.trans s.sub),d,h⟩)))))))))))))))))))))))))))
       ·refine n1 36 p (fd 4 Tyf34_4 rfl (n1 36 p (l1 1 (iI S) d Tya3 (n1 36 p (c0 (S != 0) (n1 36 p (m1 (.bool (S != 0)) (cd h (fun t h=>?_) (fun t h=>?_)))))))))
        ·refine n1 40 t (m1 (pp g 0) (n1 40 t (nilc rfl (n1 40 t (fd 2 Tyf77_2 rfl (n1 40 t (l1 0 (.bool m) d Tya4 (n1 40 t (uN m (n1 36 p (m3 true (.bool (!m)) (cg t) (m3 false (.bool (!m)) (cg p) (m1 (.bool (!m)) (cd h (fun u h=>?_) (fun u h=>?_)))))))))))))))
         ·exact o1 48 u (o1 48 u (o1 48 u (ou 51 (ou 51 (ou 51 (o1 48 u (m3 true vT (cg u) (m1 vT (o0 57 (o0 57 (o0 57 (o0 57 (m3 true vT rfl (wt (⟨_,au,U,V,m,true,fR,(l.sub.trans s.sub),d,h⟩)))))))))))))))
         ·refine n1 48 u (fd 3 Tyf34_3 rfl (n1 48 u (l1 1 (.bool A) d Tya4 (n1 48 u (m1 (.bool A) (cd h (fun ab h=>?_) (fun ab h=>?_)))))))
          ·refine n1 51 ab (fd 2 Tyf34_2 rfl (n1 51 ab (l1 1 (iI c) d Tya3 (n1 51 ab (c0 (c != 0) (n1 48 u (m3 true (.bool (c != 0)) (cg ab) (m3 false (.bool (c != 0)) (cg u) (m1 (.bool (c != 0)) (cd h (fun I h=>?_) (fun I h=>?_)))))))))))
           ·exact o1 57 I (o1 57 I (o1 57 I (o1 57 I (m3 true vT (cg I) (wt (⟨_,au,U,V,m,true,fR,(l.sub.trans s.sub),d,h⟩))))))
           ·refine n1 57 I (fd 2 Tyf34_2 rfl (n1 57 I (l1 1 (iI c) d Tya3 (n1 57 I ?_))))
            obtain ⟨aQ,bR,h⟩:=ob h
            refine cv ([iI c,iI 0,iI 6]) Tyb42 ((f42_ok k) bR (hG.mono (((x.sub.trans y).trans l.sub).trans s.sub)) (pt d)) ?_
            rintro _ cV ⟨bS,rfl,a8⟩
            have bT:=ca a8 d
            exact n1 57 I (uN aQ (m3 false (.bool (!aQ)) (cg I) (wt (⟨_,bS,U,V,m,(!aQ),fR,((l.sub.trans s.sub).trans a8.sub),bT,h⟩))))
          ·refine o1 51 ab (o1 51 ab (o1 51 ab (n1 48 u (m3 false vN (cg ab) (m3 false vN (cg u) (m1 vN (n0 57 (fd 2 Tyf34_2 rfl (n0 57 (l1 1 (iI c) d Tya3 (n0 57 ?_)))))))))))
           obtain ⟨aR,bU,h⟩:=ob h
           refine cv ([iI c,iI 0,iI 6]) Tyb42 ((f42_ok k) bU (hG.mono (((x.sub.trans y).trans l.sub).trans s.sub)) (pt d)) ?_
           rintro _ cW ⟨bV,rfl,a9⟩
           have bW:=ca a9 d
           exact n0 57 (uN aR (m3 false (.bool (!aR)) rfl (wt (⟨_,bV,U,V,m,(!aR),fR,((l.sub.trans s.sub).trans a9.sub),bW,h⟩))))
        ·refine o1 40 t (o1 40 t (o1 40 t (o1 40 t (o1 40 t (n1 36 p (m3 false vN (cg t) (m3 false vN (cg p) (m1 vN (n0 48 (fd 3 Tyf34_3 rfl (n0 48 (l1 1 (.bool A) d Tya4 (n0 48 (m1 (.bool A) (cd h (fun ac h=>?_) (fun ac h=>?_))))))))))))))))
         ·refine n1 51 ac (fd 2 Tyf34_2 rfl (n1 51 ac (l1 1 (iI c) d Tya3 (n1 51 ac (c0 (c != 0) (n0 48 (m3 true (.bool (c != 0)) (cg ac) (m3 false (.bool (c != 0)) rfl (m1 (.bool (c != 0)) (cd h (fun J h=>?_) (fun J h=>?_)))))))))))
          ·exact o1 57 J (o1 57 J (o1 57 J (o1 57 J (m3 true vT (cg J) (wt (⟨_,au,U,V,m,true,fR,(l.sub.trans s.sub),d,h⟩))))))
          ·refine n1 57 J (fd 2 Tyf34_2 rfl (n1 57 J (l1 1 (iI c) d Tya3 (n1 57 J ?_))))
           obtain ⟨aS,bX,h⟩:=ob h
           refine cv ([iI c,iI 0,iI 6]) Tyb42 ((f42_ok k) bX (hG.mono (((x.sub.trans y).trans l.sub).trans s.sub)) (pt d)) ?_
           rintro _ cX ⟨bY,rfl,ba⟩
           have bZ:=ca ba d
           exact n1 57 J (uN aS (m3 false (.bool (!aS)) (cg J) (wt (⟨_,bY,U,V,m,(!aS),fR,((l.sub.trans s.sub).trans ba.sub),bZ,h⟩))))
         ·refine o1 51 ac (o1 51 ac (o1 51 ac (n0 48 (m3 false vN (cg ac) (m3 false vN rfl (m1 vN (n0 57 (fd 2 Tyf34_2 rfl (n0 57 (l1 1 (iI c) d Tya3 (n0 57 ?_)))))))))))
          obtain ⟨aT,b0,h⟩:=ob h
          refine cv ([iI c,iI 0,iI 6]) Tyb42 ((f42_ok k) b0 (hG.mono (((x.sub.trans y).trans l.sub).trans s.sub)) (pt d)) ?_
          rintro _ cY ⟨b1,rfl,bb⟩
          have b2:=ca bb d
          exact n0 57 (uN aT (m3 false (.bool (!aT)) rfl (wt (⟨_,b1,U,V,m,(!aT),fR,((l.sub.trans s.sub).trans bb.sub),b2,h⟩))))
    ·rintro _ cZ ⟨a5,aq,ad,ae,af,aN,rfl,ak,aU,h⟩
     unfold f34_j1 at h
     refine cd h (fun aV h=>?_) (fun aV h=>?_)
     ·refine cT aV (sr (m2 vN (wt (wp_ret (thenR (blkR (thenR (thenR (blkR (thenR ?_))))))))))
      have e_:=(Option.some.inj h).trans hr_
      obtain ⟨b3,b4⟩:=Prod.mk.inj e_
      obtain ⟨b5,b6,b7⟩:=Dcounter.mk.inj b3
      subst b5
      subst b6
      subst b7
      subst b4
      exact retA1 rfl (resT rfl) ⟨aq,rfl,(aU.sel [0])⟩
     ·refine cF aV (wp_skip (thenN (wp_seq (sr (fd 1 Tyf34_1 rfl (l1 1 (sl B e C) aU Tya31 (lS e.length Tye31 (m1 (iI 0) (wt (wp_block (wp_loopG (fun g_ a w=>∃ bd aF ag,∃ (W:Nat),g_=ag.length∧a=fr 87 (updL bd [(0,pp g 0),(6,pp (zz aj) 0),(15,sl ai f c1),(16,iI (f.length:Int)),(17,iI (q:Int)),(64,sl B e C),(65,iI (e.length:Int)),(66,iI (W:Int))])∧KH.sub aq aF∧SR K aF wi w [.box bs g #[iI al,iI am,.bool an] 77] [.box bs g #[iI ad,iI ae,.bool af] 77,.box (zz wi) (zz aj) (vF X B e C c A S Y z Z).toArray 34]∧e.drop W=ag∧f34_l2 k q z ad ae af (f34_l1 k O) ag W=some r_) e.length ?_ ?_)))))))))))
      ·exact ⟨_,aq,e,0,rfl,fR,kr,aU,List.drop_zero,h⟩
      ·rintro _ _ c2 ⟨bd,aF,ag,W,rfl,rfl,ah,av,ar,h⟩
       rcases ag with _ | ⟨⟨aw,ax⟩,ag⟩
       ·unfold f34_l2 at h
        refine sr (bcm (r:=false) rfl rfl (congrArg some (drop_nil_lt ar)) (wt (wp_seq (cndF rfl (wp_exit (thenX (thenX (blkX (thenN (sr (m1 (pp g 0) (fd 5 Tyf34_5 rfl (l1 1 (sl Y z Z) av Tya32 ?_)))))))))))))
        obtain ⟨⟨⟨b8,b9,cb⟩,cc⟩,ce,h⟩:=ob h
        refine cv ([pp g 0,sl Y z Z,iI 1]) Tyb45 ((f45_ok k) ce (hG.mono (((x.sub.trans y).trans ak).trans ah)) (ms bK (ak.trans ah)) (pt av)) ?_
        rintro _ c3 ⟨be,rfl,bf⟩
        have bg:=ca bf av
        refine uN cc (wt (cd h (fun aW h=>?_) (fun aW h=>?_)))
        ·refine cT aW (sr (m2 vN (wt (wp_ret (blkR (thenR (thenR (blkR (thenR ?_)))))))))
         have e_:=(Option.some.inj h).trans hr_
         obtain ⟨cf,ch⟩:=Prod.mk.inj e_
         obtain ⟨ci,cj,ck⟩:=Dcounter.mk.inj cf
         subst ci
         subst cj
         subst ck
         subst ch
         exact retA1 rfl (resT rfl) ⟨be,rfl,(bg.sel [0])⟩
        ·exact cF aW (wp_skip (blkN (thenN (wp_region_lit (bar (r:=((q + 1:Nat):Int)) rfl rfl (inc_ok (le_big (((mf a2 (x.sub.trans y))).len) (by decide) (drop_cons_lt ap))) (m1 (iI ((q + 1:Nat):Int)) (wt (⟨_,Nat.lt_succ_self _,_,be,O,q + 1,b8,b9,cb,rfl,fR,(((y.trans ak).trans ah).trans bf.sub),(bg.sel [0]),drop_cons_next ap,h⟩))))))))
       ·unfold f34_l2 at h
        refine sr (bcm (r:=true) rfl rfl (congrArg some (drop_cons_t ar)) (wt (wp_seq (cndT rfl (wp_skip (thenN (wp_seq (wp_block (sr ?_)))))))))
        obtain ⟨cl,cm,c4,cn,c5,co,cq⟩:=((mp a4 (ak.trans ah))).row.at_ (drop_cons_at ar)
        obtain ⟨rfl,cr⟩:=RDParam.open cq
        refine idxN (b:=cl) (o:=cm) (i:=W) Tye31 Tys42 rfl cn rfl (drop_cons_lt ar) (lD ([.string aw,iI ax]) Tya42 Tys42 rfl (fun j v hj=>av.cell (kr.cell (co j v hj))) (aC #[sE,iI 0] av Tyz42 (fun c6 ct=>(sI 0 (.agg #[.string aw,iI ax]) #[.string aw,iI ax] ct Tys42 rfl rfl (fun c7 aX=>(wt (wp_cut (fun a w=>∃ bh ay aY,a=fr 87 (updL bh [(0,pp g 0),(6,pp (zz aj) 0),(15,sl ai f c1),(16,iI (f.length:Int)),(17,iI (q:Int)),(64,sl B e C),(65,iI (e.length:Int)),(66,iI (W:Int)),(79,.bool aY)])∧KH.sub aF ay∧SR K ay wi w [.box bs g #[iI al,iI am,.bool an] 77] [.box bs g #[iI ad,iI ae,.bool af] 77,.box (zz wi) (zz aj) (vF X B e C c A S Y z Z).toArray 34]∧f34_j2 k ad ae af W aY (f34_l2 k q z ad ae af (f34_l1 k O) ag)=some r_) ?_ ?_)))))))
        ·refine wp_region_lit (fd 0 Tyf42_0 rfl (l1 0 (.string aw) aX Tya9 ?_))
         obtain ⟨bi,cu,h⟩:=ob h
         refine cv ([.string aw]) Tyb44 ((f44_ok k) cu (hG.mono (((x.sub.trans y).trans ak).trans ah)) cr (pt aX)) ?_
         rintro _ c8 ⟨cw,rfl,aG⟩
         have aH:=ca aG aX
         refine uN bi (m1 (.bool (!bi)) (cd h (fun N h=>?_) (fun N h=>?_)))
         ·exact o1 74 N (o1 74 N (o1 74 N (o1 74 N (m3 true vT (cg N) (wt (⟨_,cw,true,fR,aG.sub,(aH.sel [1,2]),h⟩))))))
         ·refine n1 74 N (fd 1 Tyf42_1 rfl (n1 74 N (l1 0 (iI ax) aH Tya3 (n1 74 N ?_))))
          obtain ⟨aZ,cx,h⟩:=ob h
          refine cv ([iI ax,iI 1,iI 6]) Tyb42 ((f42_ok k) cx (hG.mono ((((x.sub.trans y).trans ak).trans ah).trans aG.sub)) (pt aH)) ?_
          rintro _ c9 ⟨cy,rfl,bj⟩
          have cz:=ca bj aH
          exact n1 74 N (uN aZ (m3 false (.bool (!aZ)) (cg N) (wt (⟨_,cy,(!aZ),fR,(aG.sub.trans bj.sub),(cz.sel [1,2]),h⟩))))
        ·rintro _ da ⟨bh,ay,aY,rfl,cA,bk,h⟩
         unfold f34_j2 at h
         refine cd h (fun a0 h=>?_) (fun a0 h=>?_)
         ·refine cT a0 (sr (m2 vN (wt (wp_ret (blkR (thenR (thenR (blkR (thenR (blkR (thenR (thenR (blkR (thenR ?_))))))))))))))
          have e_:=(Option.some.inj h).trans hr_
          obtain ⟨cB,cC⟩:=Prod.mk.inj e_
          obtain ⟨cD,cG,cH⟩:=Dcounter.mk.inj cB
          subst cD
          subst cG
          subst cH
          subst cC
          exact retA1 rfl (resT rfl) ⟨ay,rfl,(bk.sel [0])⟩
         ·exact cF a0 (wp_skip (blkN (thenN (wp_region_lit (bar (r:=((W + 1:Nat):Int)) rfl rfl (inc_ok (le_big (((mp a4 (ak.trans ah))).len) (by decide) (drop_cons_lt ar))) (m1 (iI ((W + 1:Nat):Int)) (wt (⟨_,Nat.lt_succ_self _,_,ay,ag,W + 1,rfl,fR,(ah.trans cA),bk,drop_cons_next ar,h⟩))))))))
theorem f34_ok (k:Nat):f34_spec (f34 k):=f34_b_ok k
theorem f26_b_ok (k:Nat):f26_spec (f26_b k):=by
 unfold f26_spec
 intro K wi e t a u h hG f g
 obtain ⟨r_,hr_,h⟩:=rz h
 obtain ⟨b⟩:=e
 obtain ⟨c,c1,rfl,i⟩:=RDProgram.open f
 refine enter Tryd.func26 rfl (n:=10) rfl ?_
 unfold f26_b at h
 refine sr (bxoC (cs:=#[sl c b c1]) g rfl rfl (fun j l=>(m2 vN (wt (sr (m1 (.bool a) (bld (cells:=#[iI 0,iI 0,.bool a]) (vs:=[(2,.bool a)]) rfl (fun w=>by kernel_rfl) (aC #[iI 0,iI 0,vN] l Tyz77 (fun v m=>(sI 0 (.agg #[iI 0,iI 0,.bool a]) #[iI 0,iI 0,.bool a] m Tys77 rfl rfl (fun x d=>(wt (sr (lN 1 ([sl c b c1]) d Tya24 Tys24 ?_))))))))))))))
 obtain ⟨⟨⟨y,z,A⟩,o⟩,p,h⟩:=ob h
 refine cv ([pp (zz j) 0,.agg #[sl c b c1]]) Tyb34 ((f34_ok k) p (hG.mono kr) (RDProgram.intro i) (pt d)) ?_
 rintro _ B ⟨q,rfl,r⟩
 have s:=ca r d
 refine m2 (.bool o) (wt (wp_ret ?_))
 cases (oi h).trans hr_
 exact retA1 rfl (resT rfl) ⟨q,rfl,(s.sel [])⟩
theorem f26_ok (k:Nat):f26_spec (f26 k):=f26_b_ok k
theorem f46_b_ok (k:Nat):f46_spec (f46_b k):=by
 unfold f46_spec
 intro K wi g bs br B C D G I J N O S U V W X j u x Y c l m Z ab p ak al h hG am an ao ap aq ar af ag hbr au ac
 obtain ⟨r_,hr_,h⟩:=rz h
 refine enter Tryd.func46 rfl (n:=28) rfl ?_
 unfold f46_b at h
 refine sr (m2 (iI 0) (m2 vN (wt (wp_seq (sr (m1 (pp g 0) (nilc rfl (fd 8 Tyf84_3 rfl (l1 0 (sl l c m) ac Tya82 (lS c.length Tye82 (m1 (iI 0) (wt (wp_block (wp_loopG (fun g_ a w=>∃ ad e,∃ (d:Nat),g_=e.length∧a=fr 28 (updL ad [(1,.string p),(13,sl l c m),(14,iI (c.length:Int)),(15,iI (d:Int))])∧SR K K wi w [.box bs g (vR C B D G J I N O S U W V X u j x l c m ab).toArray 84,.row br (sl u j x) 9 1 j.length Y,.stk br (sl l c m) 81 c.length Z] [.box bs g (vR C B D G J I N O S U W V X u j x l c m ab).toArray 84,.stk br (sl l c m) 81 c.length Z,.row br (sl u j x) 9 1 j.length Y]∧c.drop d=e∧f46_l1 k p e d=some r_) c.length ?_ ?_))))))))))))))
 ·exact ⟨_,c,0,rfl,fR,(ac.sel [0,2,1]),List.drop_zero,h⟩
 ·rintro _ _ av ⟨ad,e,d,rfl,rfl,f,s,h⟩
  rcases e with _ | ⟨z,e⟩
  ·unfold f46_l1 at h
   refine sr (bcm (r:=false) rfl rfl (congrArg some (drop_nil_lt s)) (wt (wp_seq (cndF rfl (wp_exit (thenX (thenX (blkX (thenN (sr (m2 (iI 0) (m2 vN (wt (wp_ret ?_))))))))))))))
   cases (oi h).trans hr_
   exact retA2 rfl (resT rfl) (resT rfl) ⟨K,rfl,(f.sel [0,2,1])⟩
  ·unfold f46_l1 at h
   refine sr (bcm (r:=true) rfl rfl (congrArg some (drop_cons_t s)) (wt (wp_seq (cndT rfl (wp_skip (thenN (wp_seq (wp_block (sr ?_)))))))))
   obtain ⟨ah,m89,ai,aw,ae,A⟩:=stk_at (f.entAt (i:=1) rfl) af (drop_cons_at s)
   refine idxN (b:=ah) (o:=0) (i:=d) Tye82 Tys81 rfl ai rfl (drop_cons_lt s) (ld1 (v:=.map (some m89.1)) Tya81 rfl (A _ (f.entAt (i:=1) rfl)).1 (m2 (.map (some m89.1)) (wt (sr (m1 (.map (some m89.1)) (m1 (.string p) ?_))))))
   rcases y:mget seq p z with _ | t
   ·have h:=of_mcase_n y h
    exact lkN (kv:=kS) (q:=seq) (R:=VInt) (xs:=z) (k:=p) (A _ (f.entAt (i:=1) rfl)).2 Tym81 (und_str Tyt9) keS Tyz3 ae rfl rfl y (m1 (.tuple #[iI 0,vN]) (ext (v:=iI 0) rfl rfl (ext (v:=vN) rfl rfl (m2 (iI 0) (m2 vN (wt (sr (m1 vN (wt (cndF rfl (wp_skip (blkN (thenN (wp_region_lit (bar (r:=((d + 1:Nat):Int)) rfl rfl (inc_ok (le_big (ag) (by decide) (drop_cons_lt s))) (m1 (iI ((d + 1:Nat):Int)) (wt (⟨_,Nat.lt_succ_self _,_,e,d + 1,rfl,fR,f,drop_cons_next s,h⟩))))))))))))))))))
   ·have h:=of_mcase_s y h
    refine lkS (kv:=kS) (q:=seq) (R:=VInt) (xs:=z) (k:=p) (A _ (f.entAt (i:=1) rfl)).2 Tym81 (und_str Tyt9) keS ae rfl rfl y (fun ax aj=>?_)
    obtain rfl:=aj
    refine m1 (.tuple #[iI t,vT]) (ext (v:=iI t) rfl rfl (ext (v:=vT) rfl rfl (m2 (iI t) (m2 vT (wt (sr (m1 vT (wt (cndT rfl (sr (m1 (iI t) (m2 (iI t) (m2 vT (wt (wp_ret (blkR (thenR (thenR (blkR (thenR ?_))))))))))))))))))))
    cases (oi h).trans hr_
    exact retA2 rfl (resT rfl) (resT rfl) ⟨K,rfl,(f.sel [0,2,1])⟩
theorem f46_ok (k:Nat):f46_spec (f46 k):=f46_b_ok k
theorem f37_b_ok (k:Nat):f37_spec (f37_b k):=by
 unfold f37_spec
 intro K wi g bs br y z A B C D G I J N O S U a V W am c f l ac X d r_ h hG an ao ap aq ar az ah au hbr av ai
 refine enter Tryd.func37 rfl (n:=47) rfl ?_
 unfold f37_b at h
 refine sr (m2 (iI 0) (wt (sr (m1 (pp g 0) (m1 (.string d) ?_)))))
 obtain ⟨⟨aj,Y⟩,aA,h⟩:=ob h
 refine cv ([pp g 0,.string d]) Tyb46 ((f46_ok k) aA (hG.mono kr) an ao ap aq ar az ah au (Nat.le_trans hbr ai.size) av (pt ai)) ?_
 rintro _ aX ⟨aY,rfl,Z⟩
 have ak:=ca Z ai
 refine m1 (.tuple #[iI aj,.bool Y]) (ext (v:=iI aj) rfl rfl (ext (v:=.bool Y) rfl rfl (m2 (iI aj) (m2 (.bool Y) (wt (sr (m1 (.bool Y) (uN Y ?_))))))))
 obtain ⟨aZ,aB,h⟩:=ob h
 refine cp ([.bool (!Y),iI 21]) Tyb25 ((f25_ok k) aB (hG.mono Z.sub) (pt ak)) ?_ ?_
 ·rintro _ a0 ⟨ad,rfl,rfl,ae⟩
  have al:=ca ae ak
  refine wt (sr (m1 (pp g 0) (nilc rfl (fd 7 Tyf84_2 rfl (l1 0 (sl V a W) al Tya38 (lS a.length Tye38 (m2 (iI (a.length:Int)) (wt (sr (m1 (pp g 0) (m1 (pp g 0) (nilc rfl (fd 7 Tyf84_2 rfl (l1 0 (sl V a W) al Tya38 (m1 (.string d) (bsl (e:=9) (cells:=#[.string d]) (vs:=[(0,.string d)]) al rfl (buildSl_one Tye38 Tys9 Tyz9 rfl (by decide) (by decide) rfl) (fun a2 aE=>?_)))))))))))))))))
  obtain ⟨aw,h⟩:=of_guard h
  refine apR (R:=RStr) (p:=d) (i:=2) (j:=0) aE rfl rfl Tye38 Tyi9 rfl (by decide) rfl rfl (ar.mono (fun _ _ h=>h)) ⟨rfl,av⟩ rfl rfl hbr aw (by decide) (fun s t af aF aG aH=>?_)
  have aI:=p123 aG
  refine nilc rfl (fd 7 Tyf84_2 rfl (sI 0 (.slice s (a ++ [d]).length t) ((vR z y A B D C G I J N S O U s (a ++ [d]) t f c l X).toArray) aI Tys38 rfl rfl (fun a3 aJ=>(wt (wp_seq (have m:=aJ.drew;(regAny (E:=[14]) (F:=FW ad [.box bs g (vR z y A B D C G I J N S O U s (a ++ [d]) t f c l X).toArray 84,.row br (.slice s (a ++ [d]).length t) 9 1 (a ++ [d]).length af,.stk br (sl f c l) 81 c.length ac]) (L:=(lb 15 0)) ymx rfl rfl (tk 0 (pp g 0) (lb 15 1) rfl (fun w=>mv_r (v:=pp g 0) rfl) (heldF (fq [0,1,2] m)) (tk 1 (pp g 0) (lb 15 3) rfl (fun w=>nilc_r rfl) (heldF (fq [0,1,2] m)) (tk 2 (pp g 8) (lb 15 7) rfl (fun w=>fld_r (o':=8) Tyf84_3 rfl rfl) (heldF (fq [0,1,2] m)) (tf 3 (sl f c l) ([[14,3]]) (lb 15 15) rfl (fq [0,1,2] m) (fun w hF=>lb1_r (i:=0) (v:=sl f c l) hF rfl Tya82 rfl rfl) (tk 4 (pp g 0) (lb 15 31) rfl (fun w=>mv_r (v:=pp g 0) rfl) (heldF (fq [0,1,2] m)) (tk 5 (pp g 0) (lb 15 63) rfl (fun w=>nilc_r rfl) (heldF (fq [0,1,2] m)) (tk 6 (pp g 8) (lb 15 127) rfl (fun w=>fld_r (o':=8) Tyf84_3 rfl rfl) (heldF (fq [0,1,2] m)) (tf 7 (sl f c l) ([[14,7]]) (lb 15 255) rfl (fq [0,1,2] m) (fun w hF=>lb1_r (i:=0) (v:=sl f c l) hF rfl Tya82 rfl rfl) (tk 8 (iI (c.length:Int)) (lb 15 511) rfl (fun w=>lnS_r (len:=c.length) Tye82 rfl) (heldF (fq [0,1,2] m)) (tk 9 (iI (w64 ((c.length:Int) - 1))) (lb 15 1023) rfl (fun w=>bar_r (r:=(w64 ((c.length:Int) - 1))) rfl rfl rfl) (heldF (fq [0,1,2] m)) ?_)))))))))))))))))
  obtain ⟨ab,ag,h⟩:=ob h
  obtain ⟨ax,m49,aK,aL,aM,aN⟩:=stk_at (m.entAt (i:=2) rfl) (StkR.mono (fun _ _ h=>h) ah) (idxO_at ag).1
  refine tk 10 (.pointer (some ⟨ax,0 + (w64 ((c.length:Int) - 1)).toNat * 1,none⟩)) (lb 15 2047) rfl (fun w=>idxG_r (b:=ax) (o:=0) (i:=(w64 ((c.length:Int) - 1))) Tye82 Tys81 rfl aK rfl (idxO_at ag).2.1 (idxO_at ag).2.2) (heldF (fq [0,1,2] m)) (tf 11 (.map (some m49.1)) ([[14,11]]) (lb 15 4095) rfl (fq [0,1,2] m) (fun w hF=>ld1_r (v:=.map (some m49.1)) Tya81 rfl (aN _ (hF.entAt (i:=2) rfl)).1) (tk 12 (.string d) (lb 15 8191) rfl (fun w=>mv_r (v:=.string d) rfl) (heldF (fq [0,1,2] m)) (tk 13 (iI (a.length:Int)) (lb 15 16383) rfl (fun w=>mv_r (v:=iI (a.length:Int)) rfl) (heldF (fq [0,1,2] m)) (aO 14 rfl (updM (kv:=kS) (q:=seq) (R:=VInt) (xs:=c) (x:=ab) (k:=d) (u:=(a.length:Int)) (uv:=iI (a.length:Int)) (i:=2) (.inr rfl) m rfl (StkR.mono (fun _ _ h=>h) ah) (idxO_at ag).1 aL aM Tym81 (und_str Tyt9) keS rfl rfl rfl rfl (fun ay aP aQ aR=>?_))))))
  have aS:SR K ad wi aP [.box bs g #[sl z y A,.string B,sl D C G,iI I,.bool J,iI N,sl S O U,sl V a W,sl f c l,iI X] 84,.row br (sl V a W) 9 1 a.length am,.stk br (sl f c l) 81 c.length ac] [.box bs g #[sl z y A,.string B,sl D C G,iI I,.bool J,iI N,sl S O U,.slice s (a ++ [d]).length t,.slice f (c.set (w64 ((c.length:Int) - 1)).toNat (mput seq d (a.length:Int) ab)).length l,iI X] 84,.row br (.slice s (a ++ [d]).length t) 9 1 (a ++ [d]).length af,.stk br (.slice f (c.set (w64 ((c.length:Int) - 1)).toNat (mput seq d (a.length:Int) ab)).length l) 81 (c.set (w64 ((c.length:Int) - 1)).toNat (mput seq d (a.length:Int) ab)).length ay]:=by simpa only [List.length_set,List.eraseIdx_zero,List.eraseIdx_cons_succ,List.tail_cons,List.set_cons_succ,List.set_cons_zero,List.nil_append,List.cons_append] using aQ
  exact wt ⟨heldE (i:=14) rfl rfl,aD (thenN (sr (m1 (iI (a.length:Int)) (m2 (iI (a.length:Int)) (wt (wp_ret (retP (retA1 rfl (resT rfl) ⟨y,B,C,I,J,N,O,(a ++ [d]),(c.set (w64 ((c.length:Int) - 1)).toNat (mput seq d (a.length:Int) ab)),X,(a.length:Int),ad,z,A,D,G,S,U,s,t,af,f,l,ay,(oi h).symm,rfl,aS,(mf an (Z.sub.trans ae.sub)),ao,(mp ap (Z.sub.trans ae.sub)),(ms aq (Z.sub.trans ae.sub)),aH,(app_bound aw),aR,(set_bound au)⟩))))))))⟩
 ·rintro _ a4 ⟨aT,aU,rfl,rfl,aV⟩
  have aW:=ca aV ak
  exact thenP (panE (.inr ⟨_,rfl,aT,aU,(oi h).symm,rfl,aW.sel []⟩))
theorem f37_ok (k:Nat):f37_spec (f37 k):=f37_b_ok k
theorem f38_ok (k:Nat):f38_spec (f38 k):=by
 unfold f38_spec
 intro K wi a0 Aa0 ca0 r0 h hG ha0 S0
 unfold f38 at h
 obtain ⟨hn,h⟩:=of_guard h
 have e_:=Option.some.inj h
 subst e_
 refine enter Tryd.func38 rfl (n:=8) rfl ?_
 refine wp_seq ?_
 refine wp_region_lit ?_
 refine asg (v:=.slice none 0 0) rfl ?_
 refine wpList_nil ?_
 refine thenN ?_
 refine wp_seq ?_
 refine wp_seq ?_
 refine wp_region_lit ?_
 refine mv (v:=.slice Aa0 a0.length ca0) rfl ?_
 refine bsn (A:=Aa0) Tye31 rfl rfl ?_
 refine wpList_nil ?_
 refine thenN ?_
 rcases Bool.eq_false_or_eq_true Aa0.isNone with hb1 | hb1
 ·have ha:a0=[]:=by
   obtain ⟨b,o,cs,g1,g2,g3⟩:=ha0.row
   cases a0 with
   | nil=>rfl
   | cons x xs=>rw [g1 (by simp)] at hb1; cases hb1
  subst ha
  refine cndT (congrArg Value.bool hb1) ?_
  refine wp_seq ?_
  refine wp_region_lit ?_
  refine asg (v:=.slice none 0 0) rfl ?_
  refine wpList_nil ?_
  refine thenN ?_
  refine wp_ret ?_
  refine thenR ?_
  exact retA1 rfl (resT rfl) ⟨K,none,0,rfl,S0,(RSl.nil _ _ _ _ _ _)⟩
 ·refine cndF (congrArg Value.bool hb1) ?_
  refine wp_skip ?_
  refine thenN ?_
  refine wp_seq ?_
  refine wp_region_lit ?_
  refine bsl (e:=42) (cells:=#[]) (vs:=[]) S0 rfl (fun w=>by kernel_rfl) ?_
  intro w3 S2
  have S4:=S2.boxrow (i:=0) (size:=2) rfl
  refine mv (v:=.slice Aa0 a0.length ca0) rfl ?_
  have hn11:(([]:List DParam).length + a0.length) * 24≤mB:=by simpa using hn
  refine apS (R:=fun K=>(RDParam K)) (zs:=a0) (i:=0) S4 rfl Tye31 Tyi42 rfl (by decide) rfl rfl (reps0 (R:=(RDParam K)) (size:=2)) ha0 (fun _ _ h=>RDParam.one h) (Nat.le_refl _) hn11 (by decide) ?_
  intro A5 c6 ys7 w8 S9 hr10
  refine asg (v:=.slice A5 (([]:List DParam) ++ a0).length c6) rfl ?_
  refine wpList_nil ?_
  refine thenN ?_
  refine wp_ret ?_
  obtain ⟨K12,S13,hs14,hr15⟩:=shutI (i:=0) (bytes:=24) (R:=fun K=>(RDParam K)) S9 rfl (Nat.le_refl _) hr10 (apps_bound hn11) (fun hs=>(fun _ _ h=>RDParam.mono hs h))
  exact retA1 rfl (resT rfl) ⟨K12,A5,c6,rfl,S13,hr15⟩
theorem f1005718_b_ok (k:Nat):f1005718_spec (f1005718_b k):=by
 unfold f1005718_spec
 intro K wi Z ay gr bsr g bs br r s t u w x y z A B C D G a f i I b j l J N r_ h hG ab ac ad ae af ag ah ai aj hbr ak
 obtain ⟨m,O,o,S,U⟩:=Z
 obtain ⟨V,W,rfl,al,az⟩:=RDExpr.open ab
 refine enter Tryd.func57 rfl (n:=19) rfl ?_
 unfold f1005718_b at h
 refine sr (bxoC (cs:=(vE m O o S V U W).toArray) ak rfl rfl (fun am c=>(m2 (iI 0) (wt (wp_seq (sr (fd 0 Tyf61_0 rfl (l1 0 (iI m) c Tya3 (c0 (m != 4) (wt (cd h (fun p h=>?_) (fun p h=>?_))))))))))))
 ·exact cT p (sr (m2 (iI 0) (wt (wp_ret (thenR (retP (retA1 rfl (resT rfl) ⟨0,K,(oi h).symm,rfl,(c.sel [1,2,3,4])⟩)))))))
 ·refine cF p (wp_skip (thenN (sr (l1 1 (pp g 0) c Tya80 (fd 2 Tyf61_2 rfl (l1 0 (.string o) c Tya9 ?_))))))
  have X:=p23401 c
  obtain ⟨⟨d,e⟩,an,h⟩:=ob h
  refine cv ([pp g 0,.string o]) Tyb46 ((f46_ok k) an (hG.mono kr) ac ad ae af ag ah ai aj (Nat.le_trans hbr c.size) al (pt X)) ?_
  rintro _ aA ⟨aB,rfl,Y⟩
  have q:=ca Y X
  refine m1 (.tuple #[iI d,.bool e]) (ext (v:=iI d) rfl rfl (ext (v:=.bool e) rfl rfl (m2 (iI d) (m2 (.bool e) (wt (sr (m1 (.bool e) ?_)))))))
  obtain ⟨aE,ao,h⟩:=ob h
  refine cp ([.bool e,iI 20]) Tyb25 ((f25_ok k) ao (hG.mono Y.sub) (pt q)) ?_ ?_
  ·rintro _ aF ⟨ap,rfl,rfl,aq⟩
   have ar:=ca aq q
   exact wt (sr (m1 (iI d) (m2 (iI d) (wt (wp_ret (retP (retA1 rfl (resT rfl) ⟨d,ap,(oi h).symm,rfl,(ar.sel [4,0,1,2])⟩)))))))
  ·rintro _ aG ⟨au,av,rfl,rfl,aw⟩
   have ax:=ca aw q
   exact thenP (panE (.inr ⟨_,rfl,au,av,(oi h).symm,rfl,ax.sel []⟩))
theorem f1005718_ok (k:Nat):f1005718_spec (f1005718 k):=f1005718_b_ok k
end Go.Proofs.YtoajecnoffhlbaaDoor
